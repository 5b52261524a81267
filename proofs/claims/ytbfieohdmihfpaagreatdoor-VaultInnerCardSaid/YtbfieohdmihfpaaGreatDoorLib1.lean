/- The own layer: abstract values, their memory, and the steps of the model over them: for any program. -/
import Derived.Deep.Quiet
import Derived.Tactics
import Derived.KernelRfl
import Derived.Laws.Sem
import Derived.Laws.World
import Derived.TacticsIn
import Derived.OrdersIn
import Derived.RangeFuncLeaves
import GoSem.Dispatch
import Derived.Laws.Entries
open Nat renaming le_refl→ca,le_trans→fp,lt_of_lt_of_le→cu,lt_or_ge→eo
namespace Go.UK
open Go
inductive GJ where
 | all
 | ptr (j o:Nat)
 | sub (lo n:Nat)
inductive AV where
 | v (x:Value)
 | st (n:Nat) (ps:List AV)
 | arr (n k:Nat) (es:List AV)
 | sl (k ln:Nat) (es:List AV)
 | own (id k ln:Nat) (es:List AV)
 | ref (id:Nat) (path:List Nat) (o:Nat)
 | bsl (id:Nat) (path:List Nat) (o k lo len:Nat)
 | im (x:AV)
 | tup (vs:List AV)
 | fn (f:Fn) (first cap:List AV)
 | ifc (t:TypeId) (x:AV)
 | mp (id:Nat)
 | it (id:Nat)
 | yld (id:Nat)
 | gro (id k ln:Nat) (j:GJ)
instance : Inhabited AV:=⟨.v undef⟩
def AV.n : AV->Nat
 | .st n _=>n
 | .arr n _ _=>n
 | _=>1
def AV.isAgg : AV->Bool
 | .st .. => true
 | .arr .. => true
 | _=>false
inductive MpC where
 | kv (l:List (AV×AV))
 | it (s:ByteArray) (p:Nat)
 | mi (m:Nat)
 | bl (t e:TypeId) (id:Nat) (s:ByteArray)
inductive Box where
 | dead
 | var (c:AV)
 | tail (m:Nat)
 | mp (c:MpC)
 | loop (r:Loop)
 | gro (k:Nat) (es:List AV)
def Box.whole : Box->Bool
 | .var _=>true
 | .mp _=>true
 | .loop _=>true
 | .gro .. => true
 | _=>false
structure Mem where
 H:List Box
 bs:List (Option Nat)
 w:World
 F:Nat->Nat->Prop
def Mem.own(μ:Mem)(b o:Nat):Prop:=
 ∃id:Nat,μ.bs[id]? = some (some b)/\((∃x,μ.H[id]? = some x/\x.whole=true)\/(∃m,μ.H[id]? = some (.tail m)/\m<=o))
def Mem.M(μ:Mem)(b o:Nat):Prop:=μ.F b o\/μ.own b o
def atD(w:World)(M:Nat->Nat->Prop)(b off:Nat)(zs:List Value):Prop:=
 ∀j:Nat,∀y,zs[j]? = some y->w.cell? ⟨b,off+j,none⟩=some y/\¬M b (off+j)
@[reducible] def Mem.at(μ:Mem)(b off:Nat)(zs:List Value):Prop:=atD μ.w μ.M b off zs
def Mem.row(μ:Mem)(b s:Nat):Prop:=∃c T,μ.w.heap[b]? = some (.cells c T (0,0))/\c.size=s
def Mem.rowT(μ:Mem)(b s:Nat)(T:TypeId):Prop:=∃c,μ.w.heap[b]? = some (.cells c T (0,0))/\c.size=s
theorem Mem.row_T{μ:Mem}{b s:Nat}:μ.row b s↔∃T,μ.rowT b s T:=⟨λ⟨c,T,h⟩=>⟨T,c,h⟩,λ⟨T,c,h⟩=>⟨c,T,h⟩⟩
theorem Mem.row_T'{μ μ':Mem}{b s:Nat}(h:∀T,μ.rowT b s T->μ'.rowT b s T)(hr:μ.row b s):μ'.row b s:=by obtain⟨T,h1⟩:=Mem.row_T.1 hr;exact Mem.row_T.2 ⟨T,h T h1⟩
def Mem.tok(μ:Mem)(id k len:Nat)(a:Option Addr)(cap:Nat):Prop:=
 id < μ.H.length/\∀m,μ.H[id]? = some (.tail m)->len*k<=m/\(len*k=m ->
  (∃b,μ.bs[id]? = some (some b)/\a=some ⟨b,0,none⟩/\μ.row b (cap*k))\/(cap=len))
def aIf(a:Option Nat)(k ln cap:Nat):GJ->Value
 | .all => .slice (a.map λb=>⟨b,0,none⟩) ln cap
 | .ptr j o => .pointer (some ⟨a.getD 0,j*k+o,none⟩)
 | .sub lo n => .slice (a.map λb=>⟨b,lo*k,none⟩) n (cap - lo)
def Mem.gro(μ:Mem)(id k ln:Nat)(j:GJ)(y:Value):Prop:=
 id < μ.H.length/\∃a cap,y=aIf a k ln cap j/\(ln<=cap/\(a=none->ln=0))/\∀k' es,μ.H[id]? = some (.gro k' es)->ln<=es.length/\(ln=es.length ->
  k'=k/\μ.bs[id]? = some a/\((∃b,a=some b/\μ.row b (cap*k))\/(a=none/\cap=ln)))
def vOf(x:AV)(P:List Value->Prop)(y:Value):Prop:=if x.isAgg then ∃ys,y = .agg ys/\P ys.toList else P [y]
mutual
def Rd(w:World)(M:Nat->Nat->Prop):AV->List Value->Prop
 | .v x,ys=>ys=[x]/\x.oneCell'=true
 | .st n ps,ys=>ys.length=n/\RdL w M ps ys
 | .arr n k es,ys=>ys.length=n/\(∀e∈es,e.n=k)/\RdL w M es ys
 | .sl k ln es,ys=>es.length=ln/\∃a cap,ys=[.slice a es.length cap]/\es.length<=cap/\(∀e∈es,e.n=k) /\
   (es=[]\/∃b off zs,a=some ⟨b,off,none⟩/\RdL w M es zs/\atD w M b off zs)
 | .im x,ys=>∃b off zs,ys=[.pointer (some ⟨b,off,none⟩)]/\Rd w M x zs/\atD w M b off zs
 | .fn f first cap,ys=>∃as cs:List Value,ys=[.func f as.toArray cs.toArray]/\RdL w M first as/\RdL w M cap cs
 | .ifc t x,ys=>∃y,ys=[.iface t y]/\vOf x (λzs=>Rd w M x zs) y
 | .own ..,_=>False
 | .ref ..,_=>False
 | .bsl ..,_=>False
 | .tup _,_=>False
 | .mp _,_=>False
 | .it _,_=>False
 | .yld _,_=>False
 | .gro ..,_=>False
def RdL(w:World)(M:Nat->Nat->Prop):List AV->List Value->Prop
 | [],ys=>ys=[]
 | p :: ps,ys=>∃y1 y2,ys=y1++y2/\Rd w M p y1/\RdL w M ps y2
end
mutual
def Rc(μ:Mem):AV->List Value->Prop
 | .v x,ys=>ys=[x]/\x.oneCell'=true
 | .st n ps,ys=>ys.length=n/\RcL μ ps ys
 | .arr n k es,ys=>ys.length=n/\(∀e∈es,e.n=k)/\RdL μ.w μ.M es ys
 | .sl k ln es,ys=>es.length=ln/\∃a cap,ys=[.slice a es.length cap]/\es.length<=cap/\(∀e∈es,e.n=k) /\
   (es=[]\/∃b off zs,a=some ⟨b,off,none⟩/\RdL μ.w μ.M es zs/\μ.at b off zs)
 | .own id k ln es,ys=>es.length=ln/\∃a cap,ys=[.slice a es.length cap]/\es.length<=cap/\(∀e∈es,e.n=k) /\
   (es=[]\/∃b off zs,a=some ⟨b,off,none⟩/\RdL μ.w μ.M es zs/\μ.at b off zs)/\μ.tok id k es.length a cap
 | .ref id _ o,ys=>∃b c,μ.bs[id]? = some (some b)/\μ.H[id]? = some (.var c)/\ys=[.pointer (some ⟨b,o,none⟩)]
 | .bsl id _ o k lo len,ys=>∃b c cap,μ.bs[id]? = some (some b)/\μ.H[id]? = some (.var c)/\len<=cap/\ys=[.slice (some ⟨b,o+lo*k,none⟩) len cap]
 | .im x,ys=>∃b off zs,ys=[.pointer (some ⟨b,off,none⟩)]/\Rd μ.w μ.M x zs/\μ.at b off zs
 | .tup _,_=>False
 | .fn f first cap,ys=>∃as cs:List Value,ys=[.func f as.toArray cs.toArray]/\RcL μ first as/\RcL μ cap cs
 | .ifc t x,ys=>∃y,ys=[.iface t y]/\vOf x (λzs=>Rc μ x zs) y
 | .mp id,ys=>∃b kvs,μ.bs[id]? = some (some b)/\μ.H[id]? = some (.mp kvs)/\ys=[.map (some b)]
 | .it id,ys=>∃b kvs,μ.bs[id]? = some (some b)/\μ.H[id]? = some (.mp kvs)/\ys=[.pointer (some ⟨b,0,none⟩)]
 | .yld id,ys=>∃b r,μ.bs[id]? = some (some b)/\μ.H[id]? = some (.loop r)/\ys=[.func (.yield b) #[] #[]]
 | .gro id k ln j,ys=>∃y,ys=[y]/\μ.gro id k ln j y
def RcL(μ:Mem):List AV->List Value->Prop
 | [],ys=>ys=[]
 | p :: ps,ys=>∃y1 y2,ys=y1++y2/\Rc μ p y1/\RcL μ ps y2
end
theorem mS{x:AV}{P Q:List Value->Prop}{y:Value}(h:∀ys,P ys->Q ys)(hv:vOf x P y):vOf x Q y:=by
 unfold vOf at *;split at hv
 ·rename_i hx;rw[if_pos hx];obtain⟨ys,h1,h2⟩:=hv;exact⟨ys,h1,h _ h2⟩
 ·rename_i hx;rw[if_neg hx];exact h _ hv
/- What nobody may write reads the same wherever those cells stand as they stood. -/
mutual
theorem Rd.mono{w w':World}{M M':Nat->Nat->Prop}(h:∀b o y,w.cell? ⟨b,o,none⟩=some y->¬M b o->w'.cell? ⟨b,o,none⟩=some y/\¬M' b o):∀(x:AV) (ys:List Value),Rd w M x ys->Rd w' M' x ys
 | .v _,_,hr=>by simpa[Rd] using hr
 | .st n ps,ys,hr=>by
  simp only[Rd] at hr ⊢;exact⟨hr.1,RdL.mono h ps ys hr.2⟩
 | .arr n k es,ys,hr=>by
  simp only[Rd] at hr ⊢;exact⟨hr.1,hr.2.1,RdL.mono h es ys hr.2.2⟩
 | .sl k ln es,ys,hr=>by
  simp only[Rd] at hr ⊢;obtain⟨hn,a,cap,h1,h2,h3,h4⟩:=hr;refine⟨hn,a,cap,h1,h2,h3,h4.imp id ?_⟩
  rintro⟨b,off,zs,h5,h6,h7⟩
  exact⟨b,off,zs,h5,RdL.mono h es zs h6,λj y hy=>h _ _ _ (h7 j y hy).1 (h7 j y hy).2⟩
 | .im x,ys,hr=>by
  simp only[Rd] at hr ⊢;obtain⟨b,off,zs,h1,h2,h3⟩:=hr;exact⟨b,off,zs,h1,Rd.mono h x zs h2,λj y hy=>h _ _ _ (h3 j y hy).1 (h3 j y hy).2⟩
 | .fn f first cap,ys,hr=>by
  simp only[Rd] at hr ⊢;obtain⟨as,cs,h1,h2,h3⟩:=hr;exact⟨as,cs,h1,RdL.mono h first as h2,RdL.mono h cap cs h3⟩
 | .ifc t x,ys,hr=>by
  simp only[Rd] at hr ⊢;obtain⟨y,h1,h2⟩:=hr;exact⟨y,h1,mS (λzs hz=>Rd.mono h x zs hz) h2⟩
 | .own ..,_,hr=>by simp[Rd] at hr
 | .ref ..,_,hr=>by simp[Rd] at hr
 | .bsl ..,_,hr=>by simp[Rd] at hr
 | .tup _,_,hr=>by simp[Rd] at hr
 | .mp _,_,hr=>by simp[Rd] at hr
 | .it _,_,hr=>by simp[Rd] at hr
 | .yld _,_,hr=>by simp[Rd] at hr
 | .gro ..,_,hr=>by simp[Rd] at hr
theorem RdL.mono{w w':World}{M M':Nat->Nat->Prop}(h:∀b o y,w.cell? ⟨b,o,none⟩=some y->¬M b o->w'.cell? ⟨b,o,none⟩=some y/\¬M' b o):∀(ps:List AV) (ys:List Value),RdL w M ps ys->RdL w' M' ps ys
 | [],_,hr=>by simpa[RdL] using hr
 | p :: ps,ys,hr=>by
  simp only[RdL] at hr ⊢;obtain⟨y1,y2,h1,h2,h3⟩:=hr;exact⟨y1,y2,h1,Rd.mono h p y1 h2,RdL.mono h ps y2 h3⟩
end
/- data: nothing that names a block of the call's own -/
mutual
def data : AV->Bool
 | .v _=>true
 | .st _ ps=>dataL ps
 | .arr .. => true
 | .sl .. => true
 | .im _=>true
 | .fn _ a c=>match dataL a with | true=>dataL c | false=>false
 | .ifc _ x=>data x
 | _=>false
def dataL : List AV->Bool
 | []=>true
 | p :: ps=>match data p with | true=>dataL ps | false=>false
end
mutual
theorem Rc.rd{μ:Mem}:∀(x:AV) (ys:List Value),data x=true->Rc μ x ys->Rd μ.w μ.M x ys
 | .v _,_,_,hr=>by simpa[Rd,Rc] using hr
 | .st n ps,ys,hd,hr=>by
  simp only[Rd,Rc] at hr ⊢;exact⟨hr.1,RcL.rd ps ys (by simpa[data] using hd) hr.2⟩
 | .arr n k es,ys,_,hr=>by simpa[Rd,Rc] using hr
 | .sl k ln es,ys,_,hr=>by simpa[Rd,Rc] using hr
 | .im x,ys,_,hr=>by simpa[Rd,Rc] using hr
 | .fn f first cap,ys,hd,hr=>by
  simp only[Rd,Rc] at hr ⊢;simp only[data] at hd;split at hd
  ·rename_i h1;obtain⟨as,cs,g1,g2,g3⟩:=hr;exact⟨as,cs,g1,RcL.rd first as h1 g2,RcL.rd cap cs hd g3⟩
  ·cases hd
 | .ifc t x,ys,hd,hr=>by
  simp only[Rd,Rc] at hr ⊢;obtain⟨y,h1,h2⟩:=hr;exact⟨y,h1,mS (λzs hz=>Rc.rd x zs (by simpa[data] using hd) hz) h2⟩
 | .own ..,_,hd,_=>by simp[data] at hd
 | .ref ..,_,hd,_=>by simp[data] at hd
 | .bsl ..,_,hd,_=>by simp[data] at hd
 | .tup _,_,hd,_=>by simp[data] at hd
 | .mp _,_,hd,_=>by simp[data] at hd
 | .it _,_,hd,_=>by simp[data] at hd
 | .yld _,_,hd,_=>by simp[data] at hd
 | .gro ..,_,hd,_=>by simp[data] at hd
theorem RcL.rd{μ:Mem}:∀(ps:List AV) (ys:List Value),dataL ps=true->RcL μ ps ys->RdL μ.w μ.M ps ys
 | [],_,_,hr=>by simpa[RdL,RcL] using hr
 | p :: ps,ys,hd,hr=>by
  simp only[dataL] at hd;split at hd
  ·rename_i h0;simp only[RdL,RcL] at hr ⊢;obtain⟨y1,y2,h1,h2,h3⟩:=hr;exact⟨y1,y2,h1,Rc.rd p y1 h0 h2,RcL.rd ps y2 hd h3⟩
  ·cases hd
end
mutual
theorem Rd.rc{μ:Mem}:∀(x:AV) (ys:List Value),Rd μ.w μ.M x ys->Rc μ x ys
 | .v _,_,hr=>by simpa[Rd,Rc] using hr
 | .st n ps,ys,hr=>by
  simp only[Rd,Rc] at hr ⊢;exact⟨hr.1,RdL.rc ps ys hr.2⟩
 | .arr n k es,ys,hr=>by simpa[Rd,Rc] using hr
 | .sl k ln es,ys,hr=>by simpa[Rd,Rc] using hr
 | .im x,ys,hr=>by simpa[Rd,Rc] using hr
 | .fn f first cap,ys,hr=>by
  simp only[Rd,Rc] at hr ⊢;obtain⟨as,cs,g1,g2,g3⟩:=hr;exact⟨as,cs,g1,RdL.rc first as g2,RdL.rc cap cs g3⟩
 | .ifc t x,ys,hr=>by
  simp only[Rd,Rc] at hr ⊢;obtain⟨y,h1,h2⟩:=hr;exact⟨y,h1,mS (λzs hz=>Rd.rc x zs hz) h2⟩
 | .own ..,_,hr=>by simp[Rd] at hr
 | .ref ..,_,hr=>by simp[Rd] at hr
 | .bsl ..,_,hr=>by simp[Rd] at hr
 | .tup _,_,hr=>by simp[Rd] at hr
 | .mp _,_,hr=>by simp[Rd] at hr
 | .it _,_,hr=>by simp[Rd] at hr
 | .yld _,_,hr=>by simp[Rd] at hr
 | .gro ..,_,hr=>by simp[Rd] at hr
theorem RdL.rc{μ:Mem}:∀(ps:List AV) (ys:List Value),RdL μ.w μ.M ps ys->RcL μ ps ys
 | [],_,hr=>by simpa[RdL,RcL] using hr
 | p :: ps,ys,hr=>by
  simp only[RdL,RcL] at hr ⊢;obtain⟨y1,y2,h1,h2,h3⟩:=hr;exact⟨y1,y2,h1,Rd.rc p y1 h2,RdL.rc ps y2 h3⟩
end
structure Ext(μ μ':Mem):Prop where
 size:μ.w.heap.size<=μ'.w.heap.size
 len:μ.H.length<=μ'.H.length
 cells:∀b o,b < μ.w.heap.size->¬μ.own b o->μ'.w.cell? ⟨b,o,none⟩=μ.w.cell? ⟨b,o,none⟩
 blocks:∀b:Nat,b < μ.w.heap.size->(∀o,¬μ.own b o)->μ'.w.heap[b]? = μ.w.heap[b]?
 mm:∀b o,b < μ.w.heap.size->μ'.own b o->μ.own b o
 same:μ'.F=μ.F
 vars:∀(id:Nat) c,μ.H[id]? = some (.var c)->(∃c',μ'.H[id]? = some (.var c'))/\μ'.bs[id]? = μ.bs[id]?
 maps:∀(id:Nat) c,μ.H[id]? = some (.mp c)->(∃c',μ'.H[id]? = some (.mp c'))/\μ'.bs[id]? = μ.bs[id]?
 loops:∀(id:Nat) c,μ.H[id]? = some (.loop c)->(∃c',μ'.H[id]? = some (.loop c'))/\μ'.bs[id]? = μ.bs[id]?
 toks:∀(id:Nat) m',id < μ.H.length->μ'.H[id]? = some (.tail m')->∃m,μ.H[id]? = some (.tail m)/\m<=m' /\
  (m=m'->μ'.bs[id]? = μ.bs[id]? /\ ∀b s,μ.bs[id]? = some (some b)->μ.row b s->μ'.row b s)
 gros:∀(id:Nat) k es',id < μ.H.length->μ'.H[id]? = some (.gro k es')->∃es,μ.H[id]? = some (.gro k es)/\es.length<=es'.length /\
  (es.length=es'.length->μ'.bs[id]? = μ.bs[id]? /\ ∀b s T,μ.bs[id]? = some (some b)->μ.rowT b s T->μ'.rowT b s T)
 os:μ'.w.os=μ.w.os
 tape:μ'.w.tape=μ.w.tape
 output:μ'.w.output=μ.w.output
theorem aSq{w:World}{a:Addr}{y:Value}(h:w.cell? a=some y):a.block < w.heap.size:=by
 unfold World.cell? at h;rcases eo a.block w.heap.size with h' | h'
 ·exact h'
 ·rw[Array.getElem?_eq_none h'] at h;cases h
theorem Ext.keeps{μ μ':Mem}(h:Ext μ μ'):∀b o y,μ.w.cell? ⟨b,o,none⟩=some y->¬μ.M b o->μ'.w.cell? ⟨b,o,none⟩=some y/\¬μ'.M b o:=by
 intro b o y h1 h2;have hb:=aSq h1;refine⟨(h.cells b _ hb (λhm=>h2 (.inr hm))).trans h1,λhm=>h2 ?_⟩
 rcases hm with hm | hm
 ·exact .inl (by rw[h.same] at hm;exact hm)
 ·exact .inr (h.mm b _ hb hm)
theorem Ext.at{μ μ':Mem}(h:Ext μ μ'){b off:Nat}{zs:List Value}(ha:μ.at b off zs):μ'.at b off zs:=
 λj y hy=>h.keeps _ _ _ (ha j y hy).1 (ha j y hy).2
theorem Ext.tok{μ μ':Mem}(h:Ext μ μ'){id k len cap:Nat}{a:Option Addr}(ht:μ.tok id k len a cap):μ'.tok id k len a cap:=by
 obtain⟨h1,h2⟩:=ht;refine⟨cu h1 h.len,λm' hm'=>?_⟩
 obtain⟨m,hm,hle,heq⟩:=h.toks id m' h1 hm';obtain⟨h3,h4⟩:=h2 m hm;refine⟨fp h3 hle,λe=>?_⟩
 have e1:m=m':=by omega
 obtain⟨e2,e3⟩:=heq e1;rcases h4 (by omega) with ⟨b,hb,ha,hr⟩ | hc
 ·exact .inl ⟨b,e2.trans hb,ha,e3 b _ hb hr⟩
 ·exact .inr hc
theorem Ext.gro{μ μ':Mem}(h:Ext μ μ'){id k ln:Nat}{j:GJ}{y:Value}(ht:μ.gro id k ln j y):μ'.gro id k ln j y:=by
 obtain⟨h1,a,cap,e0,h0,h2⟩:=ht;refine⟨cu h1 h.len,a,cap,e0,h0,λk' es' hm'=>?_⟩
 obtain⟨es,hm,hle,heq⟩:=h.gros id k' es' h1 hm';obtain⟨h3,h4⟩:=h2 k' es hm;refine⟨fp h3 hle,λe=>?_⟩
 obtain⟨e2,e3⟩:=heq (by omega)
 obtain⟨g0,g1,g2⟩:=h4 (by omega)
 refine⟨g0,e2.trans g1,g2.imp ?_ (λh=>h)⟩
 rintro⟨b,rfl,hr⟩
 exact⟨b,rfl,Mem.row_T' (λT=>e3 b _ T g1) hr⟩
mutual
theorem Rc.ext{μ μ':Mem}(h:Ext μ μ'):∀(x:AV) (ys:List Value),Rc μ x ys->Rc μ' x ys
 | .v _,_,hr=>by simpa[Rc] using hr
 | .st n ps,ys,hr=>by
  simp only[Rc] at hr ⊢;exact⟨hr.1,RcL.ext h ps ys hr.2⟩
 | .arr n k es,ys,hr=>by
  simp only[Rc] at hr ⊢;exact⟨hr.1,hr.2.1,RdL.mono h.keeps es ys hr.2.2⟩
 | .sl k ln es,ys,hr=>by
  simp only[Rc] at hr ⊢;obtain⟨hn,a,cap,h1,h2,h3,h4⟩:=hr;refine⟨hn,a,cap,h1,h2,h3,h4.imp id ?_⟩
  rintro⟨b,off,zs,h5,h6,h7⟩
  exact⟨b,off,zs,h5,RdL.mono h.keeps es zs h6,h.at h7⟩
 | .own i k ln es,ys,hr=>by
  simp only[Rc] at hr ⊢;obtain⟨hn,a,cap,h1,h2,h3,h4,h5⟩:=hr;refine⟨hn,a,cap,h1,h2,h3,h4.imp id ?_,h.tok h5⟩
  rintro⟨b,off,zs,h5,h6,h7⟩
  exact⟨b,off,zs,h5,RdL.mono h.keeps es zs h6,h.at h7⟩
 | .ref i p o,ys,hr=>by
  simp only[Rc] at hr ⊢;obtain⟨b,c,h1,h2,h3⟩:=hr;obtain⟨⟨c',h4⟩,h5⟩:=h.vars i c h2;exact⟨b,c',h5.trans h1,h4,h3⟩
 | .bsl i p o k lo len,ys,hr=>by
  simp only[Rc] at hr ⊢;obtain⟨b,c,cap,h1,h2,h3,h6⟩:=hr;obtain⟨⟨c',h4⟩,h5⟩:=h.vars i c h2;exact⟨b,c',cap,h5.trans h1,h4,h3,h6⟩
 | .im x,ys,hr=>by
  simp only[Rc] at hr ⊢;obtain⟨b,off,zs,h1,h2,h3⟩:=hr;exact⟨b,off,zs,h1,Rd.mono h.keeps x zs h2,h.at h3⟩
 | .tup _,_,hr=>by simp[Rc] at hr
 | .fn f first cap,ys,hr=>by
  simp only[Rc] at hr ⊢;obtain⟨as,cs,h1,h2,h3⟩:=hr;exact⟨as,cs,h1,RcL.ext h first as h2,RcL.ext h cap cs h3⟩
 | .ifc t x,ys,hr=>by
  simp only[Rc] at hr ⊢;obtain⟨y,h1,h2⟩:=hr;exact⟨y,h1,mS (λzs hz=>Rc.ext h x zs hz) h2⟩
 | .mp i,ys,hr=>by
  simp only[Rc] at hr ⊢;obtain⟨b,c,h1,h2,h3⟩:=hr;obtain⟨⟨c',h4⟩,h5⟩:=h.maps i c h2;exact⟨b,c',h5.trans h1,h4,h3⟩
 | .it i,ys,hr=>by
  simp only[Rc] at hr ⊢;obtain⟨b,c,h1,h2,h3⟩:=hr;obtain⟨⟨c',h4⟩,h5⟩:=h.maps i c h2;exact⟨b,c',h5.trans h1,h4,h3⟩
 | .yld i,ys,hr=>by
  simp only[Rc] at hr ⊢;obtain⟨b,c,h1,h2,h3⟩:=hr;obtain⟨⟨c',h4⟩,h5⟩:=h.loops i c h2;exact⟨b,c',h5.trans h1,h4,h3⟩
 | .gro i k ln j,ys,hr=>by
  simp only[Rc] at hr ⊢;obtain⟨y,h1,h2⟩:=hr;exact⟨y,h1,h.gro h2⟩
theorem RcL.ext{μ μ':Mem}(h:Ext μ μ'):∀(ps:List AV) (ys:List Value),RcL μ ps ys->RcL μ' ps ys
 | [],_,hr=>by simpa[RcL] using hr
 | p :: ps,ys,hr=>by
  simp only[RcL] at hr ⊢;obtain⟨y1,y2,h1,h2,h3⟩:=hr;exact⟨y1,y2,h1,Rc.ext h p y1 h2,RcL.ext h ps y2 h3⟩
end
theorem Ext.refl(μ:Mem):Ext μ μ where
 size:=ca _
 len:=ca _
 cells _ _ _ _:=rfl
 blocks _ _ _:=rfl
 mm _ _ _ h:=h
 same:=rfl
 vars _ c h:=⟨⟨c,h⟩,rfl⟩
 maps _ c h:=⟨⟨c,h⟩,rfl⟩
 loops _ c h:=⟨⟨c,h⟩,rfl⟩
 toks _ m' _ h:=⟨m',h,ca _,λ_=>⟨rfl,λ_ _ _ h=>h⟩⟩
 gros _ _ es' _ h:=⟨es',h,ca _,λ_=>⟨rfl,λ_ _ _ _ h=>h⟩⟩
 os:=rfl
 tape:=rfl
 output:=rfl
theorem Ext.trans{a b c:Mem}(h:Ext a b)(k:Ext b c):Ext a c where
 size:=fp h.size k.size
 len:=fp h.len k.len
 cells x o hx hm:=(k.cells x o (cu hx h.size) (λhm'=>hm (h.mm x o hx hm'))).trans (h.cells x o hx hm)
 blocks x hx hm:=(k.blocks x (cu hx h.size) (λo hm'=>hm o (h.mm x o hx hm'))).trans (h.blocks x hx hm)
 mm x o hx hm:=h.mm x o hx (k.mm x o (cu hx h.size) hm)
 same:=k.same.trans h.same
 vars id x hx:=by
  obtain⟨⟨c',h1⟩,h2⟩:=h.vars id x hx;obtain⟨h3,h4⟩:=k.vars id c' h1;exact⟨h3,h4.trans h2⟩
 maps id x hx:=by
  obtain⟨⟨c',h1⟩,h2⟩:=h.maps id x hx;obtain⟨h3,h4⟩:=k.maps id c' h1;exact⟨h3,h4.trans h2⟩
 loops id x hx:=by
  obtain⟨⟨c',h1⟩,h2⟩:=h.loops id x hx;obtain⟨h3,h4⟩:=k.loops id c' h1;exact⟨h3,h4.trans h2⟩
 toks id m'' hid hm:=by
  obtain⟨m',h1,h2,h3⟩:=k.toks id m'' (cu hid h.len) hm;obtain⟨m,h4,h5,h6⟩:=h.toks id m' hid h1;refine⟨m,h4,fp h5 h2,λe=>?_⟩
  have e1:m=m':=by omega
  have e2:m'=m'':=by omega
  obtain⟨g1,g2⟩:=h3 e2;obtain⟨g3,g4⟩:=h6 e1;exact⟨g1.trans g3,λb s hb hr=>g2 b s (g3.trans hb) (g4 b s hb hr)⟩
 gros id q es'' hid hm:=by
  obtain⟨es',h1,h2,h3⟩:=k.gros id q es'' (cu hid h.len) hm;obtain⟨es,h4,h5,h6⟩:=h.gros id q es' hid h1;refine⟨es,h4,fp h5 h2,λe=>?_⟩
  obtain⟨g1,g2⟩:=h3 (by omega)
  obtain⟨g3,g4⟩:=h6 (by omega)
  exact⟨g1.trans g3,λb s T hb hr=>g2 b s T (g3.trans hb) (g4 b s T hb hr)⟩
 os:=k.os.trans h.os
 tape:=k.tape.trans h.tape
 output:=k.output.trans h.output
def Rdv(w:World)(M:Nat->Nat->Prop)(x:AV)(y:Value):Prop:=vOf x (λzs=>Rd w M x zs) y
def aLn(w:World)(M:Nat->Nat->Prop)(kvs:List (AV×AV))(es:List MapEntry)(clock:Nat):Prop:=
 es.length=kvs.length/\(∀(i:Nat) p e,kvs[i]? = some p->es[i]? = some e->Rdv w M p.1 e.key/\Rdv w M p.2 e.val)/\es.Pairwise (λa b=>a.born < b.born)/\∀e∈es,e.born < clock
def Mem.typd(μ:Mem)(id n:Nat)(e:TypeId):Prop:=id < μ.H.length/\∀k es,μ.H[id]? = some (.gro k es)->n<=es.length/\(n=es.length->∀b,μ.bs[id]? = some (some b)->∃s,μ.rowT b s e)
theorem Ext.typd{μ μ':Mem}(h:Ext μ μ'){id n:Nat}{e:TypeId}(ht:μ.typd id n e):μ'.typd id n e:=by
 refine⟨cu ht.1 h.len,λk es' hm'=>?_⟩
 obtain⟨es,hm,hle,heq⟩:=h.gros id k es' ht.1 hm';obtain⟨h3,h4⟩:=ht.2 k es hm;refine⟨fp h3 hle,λe1 b hb=>?_⟩
 obtain⟨e2,e3⟩:=heq (by omega)
 obtain⟨s,hs⟩:=h4 (by omega) b (e2.symm.trans hb)
 exact⟨s,e3 b s _ (e2.symm.trans hb) hs⟩
def Mem.boxOK(μ:Mem)(o:Option Nat):Box->Prop
 | .dead=>True
 | .var c=>∃b ys T,o=some b/\μ.w.heap[b]? = some (.cells ys T (0,0))/\Rc μ c ys.toList
 | .tail m=>∀b,o=some b->∃s,μ.row b s/\m<=s
 | .mp (.kv kvs)=>∃b es clock,o=some b/\μ.w.heap[b]? = some (.map es clock)/\aLn μ.w μ.M kvs es.toList clock
 | .mp (.it s p)=>∃b,o=some b/\μ.w.heap[b]? = some (.stringIter s p)
 | .mp (.mi m)=>∃b c t,o=some b/\μ.w.heap[b]? = some (.mapIter (some c) t #[] t)/\Rc μ (.mp m) [.map (some c)]
 | .mp (.bl t e id s)=>∃b p v,o=some b/\μ.w.heap[b]? = some (.cells #[p,v] t (0,0))/\(p = .pointer none\/p = .pointer (some ⟨b,0,none⟩))/\Rc μ (.gro id 1 s.size .all) [v]/\μ.typd id s.size e
 | .loop r=>∃b,o=some b/\μ.w.heap[b]? = some (.loop r)
 | .gro k es=>(∀e∈es,e.n=k)/\((o=none/\es=[])\/∃b ys T,o=some b/\μ.w.heap[b]? = some (.cells ys T (0,0))/\∃y1 y2,ys.toList=y1++y2/\RdL μ.w μ.M es y1)
def aNG : List Value->Array Value->Prop
 | [],ys=>∃t p,ys=#[.iface t p]
 | z :: zs,ys=>ys=(z :: zs).toArray
def Mem.globAt(μ:Mem)(g:Nat×List Value):Prop:=(∃ys T fr,μ.w.heap[g.1]? = some (.cells ys T fr)/\aNG g.2 ys)/\∀o,¬μ.M g.1 o
theorem Ext.globAt{μ μ':Mem}(h:Ext μ μ'){g:Nat×List Value}(hg:μ.globAt g):μ'.globAt g:=by
 obtain⟨⟨ys,T,fr,h1,h3⟩,h2⟩:=hg;have hlt:g.1 < μ.w.heap.size:=by
  rcases eo g.1 μ.w.heap.size with h' | h'
  ·exact h'
  ·rw[Array.getElem?_eq_none h'] at h1;cases h1
 refine⟨⟨ys,T,fr,(h.blocks _ hlt λo ho=>h2 o (.inr ho)).trans h1,h3⟩,λo ho=>?_⟩
 rcases ho with ho | ho
 ·exact h2 o (.inl (by rw[h.same] at ho;exact ho))
 ·exact h2 o (.inr (h.mm _ o hlt ho))
structure aQW where
 l:List (Nat×List Value)
 ms:List (Nat×String×Nat):=[]
abbrev bL:=Inhabited aQW
def bL.l[bL]:List (Nat×List Value):=(default:aQW).l
def bL.ms[bL]:List (Nat×String×Nat):=(default:aQW).ms
structure Mem.OK[bL](μ:Mem):Prop where
 foreign:∀b o,μ.F b o->b < μ.w.heap.size
 clear:∀b o,μ.own b o->¬μ.F b o
 len:μ.bs.length=μ.H.length
 box:∀(id:Nat) o x,μ.bs[id]? = some o->μ.H[id]? = some x->μ.boxOK o x
 apart:∀(i j:Nat) b x y,μ.bs[i]? = some (some b)->μ.bs[j]? = some (some b)->μ.H[i]? = some x->μ.H[j]? = some y->x ≠ .dead->y ≠ .dead->i=j
 glob:∀g∈bL.l,μ.globAt g
def Rv0(μ:Mem)(x:AV)(y:Value):Prop:=
 if x.isAgg then ∃ys,y = .agg ys/\Rc μ x ys.toList else Rc μ x [y]
def RvL(μ:Mem):List AV->List Value->Prop
 | [],ys=>ys=[]
 | x :: xs,ys=>∃y r,ys=y :: r/\Rv0 μ x y/\RvL μ xs r
def Rv(μ:Mem)(x:AV)(y:Value):Prop:=
 match x with
 | .tup vs=>∃ys,y = .tuple ys/\RvL μ vs ys.toList
 | x=>Rv0 μ x y
theorem Rv0.ext{μ μ':Mem}(h:Ext μ μ'){x:AV}{y:Value}(hr:Rv0 μ x y):Rv0 μ' x y:=by
 unfold Rv0 at *;split at hr
 ·rename_i hx;rw[if_pos hx];obtain⟨ys,h1,h2⟩:=hr;exact⟨ys,h1,Rc.ext h _ _ h2⟩
 ·rename_i hx;rw[if_neg hx];exact Rc.ext h _ _ hr
theorem RvL.ext{μ μ':Mem}(h:Ext μ μ'):∀(xs:List AV) (ys:List Value),RvL μ xs ys->RvL μ' xs ys
 | [],_,hr=>hr
 | _ :: xs,_,⟨y,r,h1,h2,h3⟩=>⟨y,r,h1,h2.ext h,RvL.ext h xs r h3⟩
theorem Rv.ext{μ μ':Mem}(h:Ext μ μ'){x:AV}{y:Value}(hr:Rv μ x y):Rv μ' x y:=by
 cases x with
 | tup vs=>obtain⟨ys,h1,h2⟩:=hr;exact⟨ys,h1,RvL.ext h _ _ h2⟩
 | _=>exact Rv0.ext h hr
theorem rG{μ:Mem}{x:AV}{y:Value}:Rv0 μ x y↔vOf x (λzs=>Rc μ x zs) y:=Iff.rfl
theorem Rdv.mono{w w':World}{M M':Nat->Nat->Prop}(h:∀b o y,w.cell? ⟨b,o,none⟩=some y->¬M b o->w'.cell? ⟨b,o,none⟩=some y/\¬M' b o){x:AV}{y:Value}(hr:Rdv w M x y):Rdv w' M' x y:=
 mS (λzs hz=>Rd.mono h x zs hz) hr
theorem aLn.mono{w w':World}{M M':Nat->Nat->Prop}(h:∀b o y,w.cell? ⟨b,o,none⟩=some y->¬M b o->w'.cell? ⟨b,o,none⟩=some y/\¬M' b o){kvs:List (AV×AV)}{es:List MapEntry}{clock:Nat}(hr:aLn w M kvs es clock):aLn w' M' kvs es clock:=
 ⟨hr.1,λi p e hp he=>⟨(hr.2.1 i p e hp he).1.mono h,(hr.2.1 i p e hp he).2.mono h⟩,hr.2.2⟩
end Go.UK

open Array renaming getElem?_setIfInBounds_ne→ee
namespace Go.UK
open Go
set_option linter.all false
variable [bL]
abbrev EV:=Option (Nat×Bool)×AV
abbrev Env:=List (Nat×Option EV)
def bY : Env->Nat->Option EV
 | [],_=>none
 | (j,e) :: r,i=>match Nat.beq j i with | true=>e | false=>bY r i
def get(env:Env)(i:Nat):Option AV:=
 match bY env i with
 | some (none,x)=>some x
 | _=>none
def hung(d:Nat):Option EV->Bool
 | some (some g,_)=>Nat.beq g.1 d
 | _=>false
def aC1(d:Nat):Env->Env
 | []=>[]
 | (j,e) :: r=>(j,match hung d e with | true=>none | false=>e) :: aC1 d r
def zC : Env->Bool
 | []=>false
 | (_,some (some _,_)) :: _=>true
 | _ :: r=>zC r
def aB5(d:Nat)(env:Env):Env:=match zC env with | true=>aC1 d env | false=>env
structure ASt where
 env:Env
 H:List Box
def yF(μ:Mem)(tmps:Array Value)(e:EV)(y:Value):Prop:=
 match e.1 with
 | none=>Rv μ e.2 y
 | some (j,want)=>tmps[j]? = some (.bool want)->Rv μ e.2 y
def eY(μ:Mem)(env:Env)(tmps:Array Value):Prop:=
 ∀i e,bY env i=some e->∃y,tmps[i]? = some y/\yF μ tmps e y
structure Fr where
 n:Nat
 lo:Nat
 ro:Option Nat
 outs:List (Env×Array Value)
 rg:Bool
@[reducible] def Fr.f(n lo:Nat)(rg:Bool:=false):Fr:=⟨n,lo,none,[],rg⟩
def Fr.F(n:Fr):Fence:={ fn:=λ_=>True,depth:=none,alive:=false,round:=n.ro }
theorem Fr.wide{n:Fr}(h:n.ro=none):n.F=Fence.wide:=by
 unfold Fr.F Fence.wide;rw[h]
def tV(m:Nat)(w:World):List Deferred->Prop
 | []=>True
 | d :: ds=>(∃D,d={ target := .collected D,args:=#[] }/\m<=D/\w.heap[D]? = some (.deferred (some []))/\∀d'∈ds,d'≠{ target := .collected D,args:=#[] })/\tV m w ds
theorem tV.of{m:Nat}{w w':World}:∀{ds:List Deferred},(∀D:Nat,w.heap[D]? = some (.deferred (some []))->w'.heap[D]? = some (.deferred (some [])))->tV m w ds->tV m w' ds
 | [],_,_=>trivial
 | _ :: _,h,⟨⟨D,h1,h0,h2,h3⟩,h4⟩=>⟨⟨D,h1,h0,h D h2,h3⟩,tV.of h h4⟩
theorem Mem.OK.not_own{μ:Mem}(ok:μ.OK){D:Nat}{ds:Option (List Deferred)}(h:μ.w.heap[D]? = some (.deferred ds))(o:Nat):¬μ.own D o:=by
 rintro⟨id,h1,h2⟩
 rcases h2 with ⟨c,h2⟩ | ⟨m,h2,_⟩
 ·cases c with
  | dead=>cases h2.2
  | tail m=>cases h2.2
  | var c=>obtain⟨b,ys,T,e,g1,_⟩:=ok.box id _ _ h1 h2.1;cases e;rw[h] at g1;cases g1
  | mp c=>
   cases c with
   | kv l=>obtain⟨b,es,k,e,g1,_⟩:=ok.box id _ _ h1 h2.1;cases e;rw[h] at g1;cases g1
   | it s p=>obtain⟨b,e,g1⟩:=ok.box id _ _ h1 h2.1;cases e;rw[h] at g1;cases g1
   | mi m=>obtain⟨b,c,t,e,g1,_⟩:=ok.box id _ _ h1 h2.1;cases e;rw[h] at g1;cases g1
   | bl t e0 id' s=>obtain⟨b,p,v,e,g1,_⟩:=ok.box id _ _ h1 h2.1;cases e;rw[h] at g1;cases g1
  | loop r=>obtain⟨b,e,g1⟩:=ok.box id _ _ h1 h2.1;cases e;rw[h] at g1;cases g1
  | gro k es=>
   obtain⟨_,⟨e,_⟩ | ⟨b,ys,T,e,g1,_⟩⟩:=ok.box id _ _ h1 h2.1
   ·cases e
   ·cases e;rw[h] at g1;cases g1
 ·obtain⟨s,⟨c,T,g1,_⟩,_⟩:=ok.box id _ _ h1 h2 D rfl;rw[h] at g1;cases g1
theorem tV.ext{m:Nat}{μ μ':Mem}(ok:μ.OK)(h:Ext μ μ'){ds:List Deferred}(hm:tV m μ.w ds):tV m μ'.w ds:=by
 refine hm.of λD hD=>?_;have hlt:D < μ.w.heap.size:=by
  rcases Nat.lt_or_ge D μ.w.heap.size with h' | h'
  ·exact h'
  ·rw[Array.getElem?_eq_none h'] at hD;cases hD
 rw[h.blocks D hlt (λo=>ok.not_own hD o)]
 exact hD
structure aDh(n:Fr)(ctx:Mem)(st:ASt)(a:Act)(μ:Mem):Prop where
 h:μ.H=st.H
 ok:μ.OK
 ext:Ext ctx μ
 env:eY μ st.env a.tmps
 size:a.tmps.size=n.n
 low:ctx.H.length<=n.lo
 defers:tV ctx.w.heap.size μ.w a.defers
 nod:n.rg=false->a.defers=[]
 outs:∀p∈n.outs,eY μ p.1 p.2
def Sat(n:Fr)(ctx:Mem)(st:ASt)(a:Act)(w:World):Prop:=∃bs,aDh n ctx st a ⟨st.H,bs,w,ctx.F⟩
theorem aDh.sat{n:Fr}{ctx:Mem}{st:ASt}{a:Act}{μ:Mem}(h:aDh n ctx st a μ):Sat n ctx st a μ.w:=by
 refine⟨μ.bs,?_⟩
 have e1:=h.h;have e2:=h.ext.same;rw[<- e1,<- e2]
 exact h
section rules
variable {P:Program} {n:Fr}
def aw(P:Program)(n:Fr)(c:Code)(Q:Exit->ASt->Prop)(st:ASt):Prop:=
 ∀ctx a w,Sat n ctx st a w->c.wpIn n.F 0 P (λe a' w'=>∃st',Q e st'/\Sat n ctx st' a' w') a w
def tn(K:ASt->Prop)(Q:Exit->ASt->Prop):Exit->ASt->Prop
 | .normal,st=>K st
 | e,st=>Q e st
def inB(id:Nat)(Q:Exit->ASt->Prop):Exit->ASt->Prop
 | .exit id',st=>if id'=id then Q .normal st else Q (.exit id') st
 | e,st=>Q e st
variable {Q Q':Exit→ASt→Prop} {st st':ASt} {x y c:Code}
theorem aTk(h:aw P n c Q st)(hq:∀e s,Q e s->Q' e s):aw P n c Q' st:=
 λctx a w hs=>wpIn_mono (h ctx a w hs) λ_ _ _ ⟨s,h1,h2⟩=>⟨s,hq _ _ h1,h2⟩
theorem aVh(h:aw P n x (tn (aw P n y Q) Q) st):aw P n (.seq x y) Q st:=by
 intro ctx a w hs;refine wpIn_seq (wpIn_mono (h ctx a w hs) ?_)
 rintro e a' w' ⟨s,h1,h2⟩
 cases e <;> first | exact h1 ctx a' w' h2 | exact⟨s,h1,h2⟩
theorem aSn(h:Q .normal st):aw P n .skip Q st:=λ_ _ _ hs=>wpIn_skip ⟨st,h,hs⟩
theorem aU3(h:Q .ret st):aw P n .ret Q st:=λ_ _ _ hs=>wpIn_ret ⟨st,h,hs⟩
theorem aSX{id:Nat}(h:Q (.exit id) st):aw P n (.exit id) Q st:=λ_ _ _ hs=>wpIn_exit ⟨st,h,hs⟩
def ngo(Q:Exit->ASt->Prop):Exit->ASt->Prop
 | .goto _,_=>False
 | e,st=>Q e st
theorem uA{P:Program}{b:Frame}{a:Act}{k:List Item}{cs:List Frame}{w:World}{c:Code} :
  step P (lone (b.atR a (.code (.scope c) :: k)) cs w) = .next (lone (b.atR a (.code c :: .inScope c :: k)) cs w):=
 step_lone_go (by simp[stepG,stepG.exec,Frame.atR])
theorem aIP{P:Program}{b:Frame}{a:Act}{k:List Item}{cs:List Frame}{w:World}{c:Code} :
  step P (lone (b.atR a (.inScope c :: k)) cs w) = .next (lone (b.atR a k) cs w):=
 step_lone_go (by simp[stepG,stepG.exec,Frame.atR])
theorem aL3{P:Program}{F:Fence}{m:Nat}{c:Code}{Q:Exit->Act->World->Prop}{a:Act}{w:World}(h:c.wpIn F m P Q a w)(hg:∀l a w,¬Q (.goto l) a w):(Code.scope c).wpIn F m P Q a w:=by
 intro b k cs hro hb hr;have h0:(lone (b.atR a (.code (.scope c) :: k)) cs w).fenced P F:=fenced_calm hb hr rfl;obtain⟨e,a₁,w₁,hq,harr⟩:=h b (.inScope c :: k) cs hro hb hr;cases e with
 | normal=>exact⟨.normal,a₁,w₁,hq,.head h0 uA (StepsIn.trans harr (.one (fenced_calm hb hr rfl) aIP))⟩
 | exit id'=>
  have hx:exitTo id' (.inScope c :: k)=exitTo id' k:=by simp[exitTo]
  exact⟨.exit id',a₁,w₁,hq,λk' hk => .head h0 uA (harr.1 k' (by rw[hx];exact hk)),
   λhr' hk=>let ⟨k₁,h1,h2⟩:=harr.2 hr' (by rw[hx];exact hk);⟨k₁,h1,.head h0 uA h2⟩⟩
 | goto l=>exact absurd hq (hg _ _ _)
 | ret=>exact⟨_,a₁,w₁,hq,.of_steps (.one h0 uA) harr⟩
 | panic ch=>exact⟨_,a₁,w₁,hq,.of_steps (.one h0 uA) harr⟩
 | outgrown=>exact⟨_,a₁,w₁,hq,.of_steps (.one h0 uA) harr⟩
theorem aQJ(h:aw P n c (ngo Q) st):aw P n (.scope c) Q st:=by
 intro ctx a w hs;have h1:=h ctx a w hs;have h2:(Code.scope c).wpIn _ _ P _ a w:=aL3 h1 (by rintro l a w ⟨s,h1,_⟩;exact h1)
 refine wpIn_mono h2 ?_;rintro e a' w' ⟨s,h1,h2⟩
 refine⟨s,?_,h2⟩
 cases e <;> first | exact h1 | exact h1.elim
theorem aQb{id:Nat}(h:aw P n c (inB id Q) st):aw P n (.block id c) Q st:=by
 intro ctx a w hs;refine wpIn_block (wpIn_mono (h ctx a w hs) ?_)
 rintro e a' w' ⟨s,h1,h2⟩
 cases e with
 | exit id'=>
  simp only[inB] at h1;simp only[Exit.inBlock]
  split
  ·rename_i e;rw[if_pos e] at h1;exact⟨s,h1,h2⟩
  ·rename_i e;rw[if_neg e] at h1;exact⟨s,h1,h2⟩
 | _=>exact⟨s,h1,h2⟩
theorem aH7{env:Env}{i:Nat}{x:AV}(h:get env i=some x):bY env i=some (none,x):=by
 unfold get at h;split at h
 ·rename_i e;rw[e];cases h;rfl
 ·cases h
theorem eY.get{μ:Mem}{env:Env}{tmps:Array Value}(h:eY μ env tmps){i:Nat}{x:AV}(hg:get env i=some x) :
  ∃y,tmps[i]? = some y/\Rv μ x y:=h i _ (aH7 hg)
theorem xV{tmps:Array Value}{i:Nat}{y d:Value}(h:tmps[i]? = some y):tmps.getD i d=y:=by
 rw[Array.getD_eq_getD_getElem?,h];rfl
theorem bH{μ:Mem}{x y:Value}(h:Rv μ (.v x) y):y=x:=by
 simp[Rv,Rv0,AV.isAgg,Rc] at h;exact h.1
theorem tQ{μ:Mem}{x:Value}(h:x.oneCell'=true):Rv μ (.v x) x:=by
 simp[Rv,Rv0,AV.isAgg,Rc,h]
theorem aOM{t:Nat}{b:Bool}(hb:get st.env t=some (.v (.bool b)))(h1:b=true->aw P n x Q st)(h2:b=false->aw P n y Q st) :
  aw P n (.cond (.tmp t) x y) Q st:=by
 intro ctx a w hs;obtain⟨bs,hm⟩:=hs;obtain⟨v,hv,hr⟩:=hm.env.get hb;have e:=bH hr;subst e;refine wpIn_cond (t:=b) (by simp[Act.eval,xV hv]) ?_;cases b with
 | true=>exact h1 rfl ctx a w ⟨bs,hm⟩
 | false=>exact h2 rfl ctx a w ⟨bs,hm⟩
theorem aNF(I:Nat->ASt->Prop)(h:∀k s,I k s->aw P n c (tn (λs'=>∃m,m < k/\I m s') Q) s) :
  ∀k s,I k s->aw P n (.loop c) Q s:=by
 intro k s hI ctx a w hs b ks cs hro hb hr;have key:∀k s a w,I k s->Sat n ctx s a w ->
   ∃e a' w',(∃st',Q e st'/\Sat n ctx st' a' w')/\ArrivesIn (Machine.fenced P n.F) P (lone (b.atR a (.code c :: .inLoop c :: ks)) cs w) b ks cs e a' w':=by
  intro k
  induction k using Nat.strongRecOn with
  | _ k ih=>
   intro s a w hI hs;obtain⟨e,a₁,w₁,⟨s₁,hq,hs₁⟩,harr⟩:=h k s hI ctx a w hs b (.inLoop c :: ks) cs hro hb hr;cases e with
   | normal=>
    obtain⟨m,hlt,hI₁⟩:=hq;obtain⟨e₂,a₂,w₂,hq₂,harr₂⟩:=ih m hlt s₁ a₁ w₁ hI₁ hs₁;exact⟨e₂,a₂,w₂,hq₂,.of_steps (StepsIn.trans harr (.one (fenced_calm hb hr rfl) stepR_inLoop)) harr₂⟩
   | exit id=>exact⟨_,a₁,w₁,⟨s₁,hq,hs₁⟩,.pass (x := .inLoop c) rfl (λ_ _ => .inl (by simp)) harr⟩
   | goto l=>exact⟨_,a₁,w₁,⟨s₁,hq,hs₁⟩,.pass (x := .inLoop c) rfl (λ_ _ => .inl (by simp)) harr⟩
   | ret=>exact⟨_,a₁,w₁,⟨s₁,hq,hs₁⟩,.pass (x := .inLoop c) rfl (λ_ _ => .inl (by simp)) harr⟩
   | panic ch=>exact⟨_,a₁,w₁,⟨s₁,hq,hs₁⟩,.pass (x := .inLoop c) rfl (λ_ _ => .inl (by simp)) harr⟩
   | outgrown=>exact⟨_,a₁,w₁,⟨s₁,hq,hs₁⟩,.pass (x := .inLoop c) rfl (λ_ _ => .inl (by simp)) harr⟩
 obtain⟨e,a',w',hq,harr⟩:=key k s a w hI hs;exact⟨e,a',w',hq,.of_steps (.one (fenced_calm hb hr rfl) stepR_loop) harr⟩
def lq(n:Fr)(ctx:Mem)(K:ASt->Prop):Exit->Act->World->Prop:=
 λe a w=>e = .normal/\∃st',K st'/\Sat n ctx st' a w
def awl(P:Program)(n:Fr)(ops:Array Oper)(l:List Oper)(K:ASt->Prop)(st:ASt):Prop:=
 ∀ctx a w,Sat n ctx st a w->wpListIn n.F 0 P ops (lq n ctx K) l a w
variable {ops:Array Oper} {l:List Oper} {o:Oper} {K K':ASt→Prop}
theorem aJJ{F:Fence}{m:Nat}{Q Q':Exit->Act->World->Prop}(hq:∀e a w,Q e a w->Q' e a w){a:Act}{w:World}{k:Act->World->Prop}(h:o.wpIn F m P a w k Q):o.wpIn F m P a w k Q':=by
 unfold Oper.wpIn at *;refine⟨h.1,?_⟩
 have h:=h.2;generalize (o.semAt F.round a.eval).run P w=r at *;cases r with
 | ok x w'=>
  cases x <;> simp only[Oper.uponIn] at h ⊢ <;>
   first
    | exact h
    | exact⟨h.1,CallsIn.mono h.2 (λe w'' he=>by cases e <;> first | exact he | exact hq _ _ _ he | (obtain⟨a0,w0,h2⟩:=he;exact⟨a0,w0,hq _ _ _ h2⟩))⟩
    | exact⟨h.1,RoundIn.mono h.2 (λe w'' he=>by cases e <;> first | exact he | exact hq _ _ _ he | (obtain⟨a0,w0,h2⟩:=he;exact⟨a0,w0,hq _ _ _ h2⟩))⟩
 | halt x w'=>cases x <;> simp only[Oper.uponIn] at h ⊢ <;> exact hq _ _ _ h
theorem xR{F:Fence}{m:Nat}{Q Q':Exit->Act->World->Prop}(hq:∀e a w,Q e a w->Q' e a w):∀(l:List Oper) a w,wpListIn F m P ops Q l a w->wpListIn F m P ops Q' l a w
 | [],a,w,h=>hq _ _ _ h
 | o :: l,a,w,h=>by
  unfold wpListIn at *;split
  ·rename_i hw;rw[if_pos hw] at h;exact Oper.wpIn_mono (xR hq l) (aJJ hq h)
  ·rename_i hw;rw[if_neg hw] at h;exact⟨h.1,xR hq l _ _ h.2⟩
theorem aAo{F:Fence}(hF:F=n.F)(hd:∀c,o.op ≠ .defer c){a:Act}{w:World}{k:Act->World->Prop}{Q:Exit->Act->World->Prop}(h:o.wp P a w k Q):o.wpIn F 0 P a w k Q:=by
 subst hF;unfold Oper.wpIn;refine⟨λ_ _=>trivial,?_⟩
 have hs:o.semAt n.F.round a.eval=execOp a.eval o:=by
  cases hr:n.F.round with
  | none=>exact Oper.semAt_none _ _
  | some l=>exact Oper.semAt_some l _ _ hd
 rw[hs]
 unfold Oper.wp at h;have calls:∀{f:FuncId} {args:Array Value} {w:World} {R:Ending->World->Prop},Calls P f args w R->CallsIn n.F (0 - 1) P f args w R:=λh=>(callsIn_wide (n:=0 - 1)).2 h;generalize (execOp a.eval o).run P w=r at *;cases r with
 | ok x w'=>
  cases x <;> simp only[Oper.upon,Oper.uponIn] at h ⊢ <;>
   first
    | exact h
    | exact⟨λh=>(by cases h),calls h⟩
    | (refine⟨λh=>(by cases h),λc cs _=>?_⟩;obtain⟨v,w',r,s⟩:=h c cs;exact⟨v,w',r,stepsIn_wide.2 s⟩)
 | halt x w'=>cases x <;> simp only[Oper.upon,Oper.uponIn] at h ⊢ <;> exact h
theorem aAd{ρ:Operand->Value}{w w':World}{y:Value}(h:(execOp ρ o).run P w = .ok (.value y) w'):∀c,o.op ≠ .defer c:=by
 intro c hc;unfold execOp at h;rw[hc] at h;simp only[Sem.run_bind] at h;generalize (resolve ρ c o.type).run P w=r at h;cases r <;> simp at h
theorem aOy{ρ:Operand->Value}{w w':World}(h:(execOp ρ o).run P w = .ok .skip w'):∀c,o.op ≠ .defer c:=by
 intro c hc;unfold execOp at h;rw[hc] at h;simp only[Sem.run_bind] at h;generalize (resolve ρ c o.type).run P w=r at h;cases r <;> simp at h
theorem aPI{c:Call}(h:o.op = .call c):∀c,o.op ≠ .defer c:=by intro c hc;rw[h] at hc;cases hc
theorem aPK{id:Nat}{l:List Oper}(h:awl P n l.toArray l (λs=>Q .normal s) st):aw P n (.region id l.toArray false) Q st:=by
 intro ctx a w hs;refine wpIn_region_lit (xR ?_ _ _ _ (h ctx a w hs))
 rintro e a' w' ⟨rfl,s,h1,h2⟩
 exact⟨s,h1,h2⟩
theorem aTQ(h:K st):awl P n ops [] K st:=λ_ _ _ hs=>⟨rfl,st,h,hs⟩
def Env.set(env:Env)(d:Nat)(e:EV):Env:=(d,some e) :: aB5 d env
def Env.del(env:Env)(d:Nat):Env:=(d,none) :: aB5 d env
theorem aFB{d:Nat}:∀{env:Env} {i:Nat} {e:EV},bY (aC1 d env) i=some e->bY env i=some e/\∀g,e.1=some g->g.1≠d
 | [],i,e,h=>by simp[aC1,bY] at h
 | (j,e0) :: r,i,e,h=>by
  unfold aC1 bY at h;unfold bY;cases hb:Nat.beq j i with
  | false=>
   rw[hb] at h;exact aFB h
  | true=>
   rw[hb] at h;cases hh:hung d e0 with
   | true=>rw[hh] at h;cases h
   | false=>
    rw[hh] at h;dsimp only at h ⊢;subst h;refine⟨rfl,λg hg hd=>?_⟩
    obtain⟨e1,e2⟩:=e;dsimp only at hg;subst hg hd;simp[hung] at hh
theorem aFM : ∀{env:Env} {i:Nat} {e:EV},zC env=false->bY env i=some e->e.1=none
 | [],i,e,_,h=>by simp[bY] at h
 | (j,e0) :: r,i,e,hf,h=>by
  unfold bY at h;cases hb:Nat.beq j i with
  | true=>
   rw[hb] at h;dsimp only at h;subst h;obtain⟨e1,e2⟩:=e;cases e1 with
   | none=>rfl
   | some g=>simp[zC] at hf
  | false=>
   rw[hb] at h;refine aFM ?_ h;cases e0 with
   | none=>simpa[zC] using hf
   | some p=>
    obtain⟨p1,p2⟩:=p;cases p1 with
    | none=>simpa[zC] using hf
    | some g=>simp[zC] at hf
theorem aDr{d:Nat}{env:Env}{i:Nat}{e:EV}(h:bY (aB5 d env) i=some e):bY env i=some e/\∀g,e.1=some g->g.1≠d:=by
 unfold aB5 at h;cases hf:zC env with
 | true=>rw[hf] at h;exact aFB h
 | false=>
  rw[hf] at h;refine⟨h,λg hg=>?_⟩
  rw[aFM hf h] at hg;cases hg
theorem eY.ext{μ μ':Mem}(h:Ext μ μ'){env:Env}{tmps:Array Value}(he:eY μ env tmps):eY μ' env tmps:=by
 intro i e hl;obtain⟨y,h1,h2⟩:=he i e hl;refine⟨y,h1,?_⟩
 unfold yF at *;split
 ·rename_i hn;rw[hn] at h2;exact h2.ext h
 ·rename_i j want hn;rw[hn] at h2;exact λhj=>(h2 hj).ext h
theorem eY.set{μ:Mem}{env:Env}{tmps:Array Value}(he:eY μ env tmps){d:Nat}{e:EV}{y:Value}(hd:d < tmps.size)
  (hgd:∀g,e.1=some g->g.1≠d) (hy:yF μ tmps e y):eY μ (env.set d e) (tmps.setIfInBounds d y):=by
 intro i e' hl;unfold Env.set bY at hl;cases hb:Nat.beq d i with
 | true=>
  rw[hb] at hl;have:=Nat.eq_of_beq_eq_true hb;subst this;simp only[Option.some.injEq] at hl;subst hl;refine⟨y,by rw[Array.getElem?_setIfInBounds_self_of_lt hd],?_⟩
  unfold yF at *;split
  ·rename_i hn;rw[hn] at hy;exact hy
  ·rename_i j want hn;rw[hn] at hy;intro hj;have:=hgd _ hn;rw[ee (by simpa using this.symm)] at hj;exact hy hj
 | false=>
  rw[hb] at hl;have hdi:d≠i:=λe=>by subst e;simp at hb
  obtain⟨h1,h2⟩:=aDr hl;obtain⟨y',h3,h4⟩:=he i e' h1;refine⟨y',by rw[ee hdi];exact h3,?_⟩
  unfold yF at *;split
  ·rename_i hn;rw[hn] at h4;exact h4
  ·rename_i j want hn;rw[hn] at h4;intro hj;have:=h2 _ hn;rw[ee (by simpa using this.symm)] at hj;exact h4 hj
theorem aDh.put{ctx:Mem}{a:Act}{μ μ':Mem}(h:aDh n ctx st a μ)(hx:Ext μ μ')(hok:μ'.OK){d:Nat}{x:AV}{y:Value}(hd:d < n.n)(hy:Rv μ' x y) :
  aDh n ctx ⟨st.env.set d (none,x),μ'.H⟩ (a.put (some d) y) μ' where
 h:=rfl
 ok:=hok
 ext:=h.ext.trans hx
 env:=by
  simp only[Act.put]
  exact(h.env.ext hx).set (by rw[h.size];exact hd) (by simp) hy
 size:=by simp[Act.put,h.size]
 low:=h.low
 defers:=by simpa[Act.put] using tV.ext h.ok hx h.defers
 nod:=by simpa[Act.put] using h.nod
 outs:=λp hp=>(h.outs p hp).ext hx
theorem aDh.putn{ctx:Mem}{a:Act}{μ μ':Mem}(h:aDh n ctx st a μ)(hx:Ext μ μ')(hok:μ'.OK){y:Value} :
  aDh n ctx ⟨st.env,μ'.H⟩ (a.put none y) μ' where
 h:=rfl
 ok:=hok
 ext:=h.ext.trans hx
 env:=h.env.ext hx
 size:=h.size
 low:=h.low
 defers:=by simpa[Act.put] using tV.ext h.ok hx h.defers
 nod:=by simpa[Act.put] using h.nod
 outs:=λp hp=>(h.outs p hp).ext hx
end rules
end Go.UK

open Array renaming ext_getElem?→j4,getElem?_eq_none→fv,getElem?_setIfInBounds→gj
open List renaming append_assoc→an,cons_append→fg,foldl_cons→mv,getElem?_eq_none→ar,length_cons→dc,length_take→bj
open Nat renaming lt_or_ge→eo,min_eq_left→fm
namespace Go.UK
open Go
set_option linter.all false
variable [bL]
def PL(R:AV->List Value->Prop):List AV->List Value->Prop
 | [],ys=>ys=[]
 | p :: ps,ys=>∃y1 y2,ys=y1++y2/\R p y1/\PL R ps y2
theorem vB{μ:Mem}:∀{ps:List AV} {ys:List Value},RcL μ ps ys↔PL (Rc μ) ps ys
 | [],ys=>by simp only[RcL,PL]
 | p :: ps,ys=>by simp only[RcL,PL,vB (ps:=ps)]
theorem wW{w:World}{M:Nat->Nat->Prop}:∀{ps:List AV} {ys:List Value},RdL w M ps ys↔PL (Rd w M) ps ys
 | [],ys=>by simp only[RdL,PL]
 | p :: ps,ys=>by simp only[RdL,PL,wW (ps:=ps)]
mutual
theorem Rc.length{μ:Mem}:∀(x:AV) (ys:List Value),Rc μ x ys->ys.length=x.n
 | .v _,_,hr=>by simp only[Rc] at hr;rw[hr.1];rfl
 | .st n ps,ys,hr=>by simp only[Rc] at hr;exact hr.1
 | .arr n k es,ys,hr=>by simp only[Rc] at hr;exact hr.1
 | .sl k ln es,ys,hr=>by simp only[Rc] at hr;obtain⟨_,a,cap,h1,_⟩:=hr;subst h1;rfl
 | .own i k ln es,ys,hr=>by simp only[Rc] at hr;obtain⟨_,a,cap,h1,_⟩:=hr;subst h1;rfl
 | .ref i p o,ys,hr=>by simp only[Rc] at hr;obtain⟨b,c,_,_,h1⟩:=hr;subst h1;rfl
 | .bsl i p o k lo len,ys,hr=>by simp only[Rc] at hr;obtain⟨b,c,cap,_,_,_,h1⟩:=hr;subst h1;rfl
 | .im x,ys,hr=>by simp only[Rc] at hr;obtain⟨b,off,zs,h1,_⟩:=hr;subst h1;rfl
 | .tup _,_,hr=>by simp[Rc] at hr
 | .fn f first cap,ys,hr=>by simp only[Rc] at hr;obtain⟨as,cs,h1,_⟩:=hr;subst h1;rfl
 | .ifc t x,ys,hr=>by simp only[Rc] at hr;obtain⟨y,h1,_⟩:=hr;subst h1;rfl
 | .mp i,ys,hr=>by simp only[Rc] at hr;obtain⟨b,c,_,_,h1⟩:=hr;rw[h1];rfl
 | .it i,ys,hr=>by simp only[Rc] at hr;obtain⟨b,c,_,_,h1⟩:=hr;rw[h1];rfl
 | .yld i,ys,hr=>by simp only[Rc] at hr;obtain⟨b,c,_,_,h1⟩:=hr;rw[h1];rfl
 | .gro ..,ys,hr=>by simp only[Rc] at hr;obtain⟨y,h1,_⟩:=hr;rw[h1];rfl
end
mutual
theorem Rc.oneCell{μ:Mem}:∀(x:AV) (ys:List Value),Rc μ x ys->∀y∈ys,y.oneCell'=true
 | .v _,ys,hr=>by simp only[Rc] at hr;rw[hr.1];simp[hr.2]
 | .st n ps,ys,hr=>by simp only[Rc] at hr;exact RcL.oneCell ps ys hr.2
 | .arr n k es,ys,hr=>by simp only[Rc] at hr;exact RcL.oneCell es ys (RdL.rc es ys hr.2.2)
 | .sl k ln es,ys,hr=>by simp only[Rc] at hr;obtain⟨_,a,cap,h1,_⟩:=hr;subst h1;simp[Value.oneCell']
 | .own i k ln es,ys,hr=>by simp only[Rc] at hr;obtain⟨_,a,cap,h1,_⟩:=hr;subst h1;simp[Value.oneCell']
 | .ref i p o,ys,hr=>by simp only[Rc] at hr;obtain⟨b,c,_,_,h1⟩:=hr;subst h1;simp[Value.oneCell']
 | .bsl i p o k lo len,ys,hr=>by simp only[Rc] at hr;obtain⟨b,c,cap,_,_,_,h1⟩:=hr;subst h1;simp[Value.oneCell']
 | .im x,ys,hr=>by simp only[Rc] at hr;obtain⟨b,off,zs,h1,_⟩:=hr;subst h1;simp[Value.oneCell']
 | .tup _,_,hr=>by simp[Rc] at hr
 | .fn f first cap,ys,hr=>by simp only[Rc] at hr;obtain⟨as,cs,h1,_⟩:=hr;subst h1;simp[Value.oneCell']
 | .ifc t x,ys,hr=>by simp only[Rc] at hr;obtain⟨y,h1,_⟩:=hr;subst h1;simp[Value.oneCell']
 | .mp i,ys,hr=>by simp only[Rc] at hr;obtain⟨b,c,_,_,h1⟩:=hr;rw[h1];simp[Value.oneCell']
 | .it i,ys,hr=>by simp only[Rc] at hr;obtain⟨b,c,_,_,h1⟩:=hr;rw[h1];simp[Value.oneCell']
 | .yld i,ys,hr=>by simp only[Rc] at hr;obtain⟨b,c,_,_,h1⟩:=hr;rw[h1];simp[Value.oneCell']
 | .gro _ _ _ j,ys,hr=>by simp only[Rc] at hr;obtain⟨y,h1,_,a,cap,e,_⟩:=hr;rw[h1,e];cases j <;> simp[Value.oneCell',aIf]
theorem RcL.oneCell{μ:Mem}:∀(ps:List AV) (ys:List Value),RcL μ ps ys->∀y∈ys,y.oneCell'=true
 | [],ys,h=>by simp only[RcL] at h;subst h;simp
 | p :: ps,ys,h=>by
  simp only[RcL] at h;obtain⟨y1,y2,h1,h2,h3⟩:=h;intro y hy;rw[h1] at hy;rcases List.mem_append.1 hy with h' | h'
  ·exact Rc.oneCell p y1 h2 y h'
  ·exact RcL.oneCell ps y2 h3 y h'
end
theorem aI2{y:Value}(h:y.oneCell'=true):y.cells=#[y]:=by
 cases y <;> first | rfl | simp[Value.oneCell'] at h
def xD(ps:List AV):Nat:=(ps.map AV.n).foldl (·+·) 0
theorem aOd(l:List Nat):∀a,l.foldl (·+·) a=a+l.foldl (·+·) 0:=by
 induction l with
 | nil=>intro a;simp
 | cons x l ih=>intro a;simp only[mv];rw[ih (a+x),ih (0+x)];omega
theorem aC2(p:AV)(ps:List AV):xD (p :: ps)=p.n+xD ps:=by
 unfold xD;simp only[List.map_cons,mv];rw[aOd];omega
theorem RcL.length{μ:Mem}:∀(ps:List AV) (ys:List Value),RcL μ ps ys->ys.length=xD ps
 | [],ys,h=>by simp only[RcL] at h;subst h;rfl
 | p :: ps,ys,h=>by
  simp only[RcL] at h;obtain⟨y1,y2,h1,h2,h3⟩:=h;rw[h1,List.length_append,Rc.length _ _ h2,RcL.length _ _ h3,aC2]
theorem tL{k:Nat}:∀{es:List AV},(∀e∈es,e.n=k)->xD es=es.length*k
 | [],_=>by simp[xD]
 | e :: es,h=>by
  rw[aC2,h e (by simp),tL (λe he=>h e (by simp[he])),dc,Nat.add_mul]
  omega
theorem Rc.one{μ:Mem}{x:AV}{ys:List Value}(h:Rc μ x ys)(hx:x.isAgg=false):∃y,ys=[y]:=by
 have:=Rc.length _ _ h;have hn:x.n=1:=by cases x <;> first | rfl | simp[AV.isAgg] at hx
 rw[hn] at this
 match ys,this with
 | [y],_=>exact⟨y,rfl⟩
theorem PL.append{R:AV->List Value->Prop}:∀{ps qs:List AV} {ys zs:List Value},PL R ps ys->PL R qs zs->PL R (ps++qs) (ys++zs)
 | [],qs,ys,zs,h,h'=>by simp only[PL] at h;subst h;simpa using h'
 | p :: ps,qs,ys,zs,h,h'=>by
  simp only[PL] at h;obtain⟨y1,y2,h1,h2,h3⟩:=h;simp only[fg,PL]
  exact⟨y1,y2++zs,by rw[h1,an],h2,PL.append h3 h'⟩
theorem PL.split{R:AV->List Value->Prop}:∀{ps qs:List AV} {ys:List Value},PL R (ps++qs) ys->∃y1 y2,ys=y1++y2/\PL R ps y1/\PL R qs y2
 | [],qs,ys,h=>⟨[],ys,rfl,by simp[PL],h⟩
 | p :: ps,qs,ys,h=>by
  simp only[fg,PL] at h;obtain⟨y1,y2,h1,h2,h3⟩:=h;obtain⟨z1,z2,g1,g2,g3⟩:=PL.split h3;exact⟨y1++z1,z2,by rw[h1,g1,an],by simp only[PL];exact⟨y1,z1,rfl,h2,g2⟩,g3⟩
theorem PL.imp{R R':AV->List Value->Prop}(h:∀x ys,R x ys->R' x ys):∀{ps:List AV} {ys:List Value},PL R ps ys->PL R' ps ys
 | [],_,hp=>hp
 | p :: ps,_,⟨y1,y2,h1,h2,h3⟩=>⟨y1,y2,h1,h _ _ h2,PL.imp h h3⟩
theorem PL.pick{R:AV->List Value->Prop}{ps:List AV}{ys:List Value}(h:PL R ps ys){j:Nat}{p:AV}(hp:ps[j]? = some p) :
  ∃y1 y2 y3,ys=y1++y2++y3/\PL R (ps.take j) y1/\R p y2/\PL R (ps.drop (j+1)) y3:=by
 have hj:j < ps.length:=by
  rcases eo j ps.length with h' | h'
  ·exact h'
  ·rw[ar h'] at hp;cases hp
 have e:ps=ps.take j++(p :: ps.drop (j+1)):=by
  have:ps[j]=p:=by simpa[List.getElem?_eq_getElem hj] using hp
  rw[<- this,<- List.drop_eq_getElem_cons hj,List.take_append_drop]
 rw[e] at h;obtain⟨y1,y2,h1,h2,h3⟩:=PL.split h;simp only[PL] at h3;obtain⟨z1,z2,g1,g2,g3⟩:=h3;exact⟨y1,z1,z2,by rw[h1,g1,an],h2,g2,g3⟩
theorem RcL.append{μ:Mem}{ps qs:List AV}{ys zs:List Value}(h:RcL μ ps ys)(h':RcL μ qs zs):RcL μ (ps++qs) (ys++zs):=vB.2 ((vB.1 h).append (vB.1 h'))
theorem RdL.append{w:World}{M:Nat->Nat->Prop}{ps qs:List AV}{ys zs:List Value}(h:RdL w M ps ys)(h':RdL w M qs zs):RdL w M (ps++qs) (ys++zs):=wW.2 ((wW.1 h).append (wW.1 h'))
theorem RcL.split{μ:Mem}{ps qs:List AV}{ys:List Value}(h:RcL μ (ps++qs) ys):∃y1 y2,ys=y1++y2/\RcL μ ps y1/\RcL μ qs y2:=by
 obtain⟨y1,y2,h1,h2,h3⟩:=PL.split (vB.1 h)
 exact⟨y1,y2,h1,vB.2 h2,vB.2 h3⟩
theorem RcL.pick{μ:Mem}{ps:List AV}{ys:List Value}(h:RcL μ ps ys){j:Nat}{p:AV}(hp:ps[j]? = some p) :
  ∃y1 y2 y3,ys=y1++y2++y3/\RcL μ (ps.take j) y1/\Rc μ p y2/\RcL μ (ps.drop (j+1)) y3:=by
 obtain⟨y1,y2,y3,h1,h2,h3,h4⟩:=PL.pick (vB.1 h) hp;exact⟨y1,y2,y3,h1,vB.2 h2,h3,vB.2 h4⟩
theorem RdL.pick{w:World}{M:Nat->Nat->Prop}{ps:List AV}{ys:List Value}(h:RdL w M ps ys){j:Nat}{p:AV}(hp:ps[j]? = some p) :
  ∃y1 y2 y3,ys=y1++y2++y3/\RdL w M (ps.take j) y1/\Rd w M p y2/\RdL w M (ps.drop (j+1)) y3:=by
 obtain⟨y1,y2,y3,h1,h2,h3,h4⟩:=PL.pick (wW.1 h) hp;exact⟨y1,y2,y3,h1,wW.2 h2,h3,wW.2 h4⟩
theorem RdL.length{μ:Mem}{ps:List AV}{ys:List Value}(h:RdL μ.w μ.M ps ys):ys.length=xD ps:=RcL.length _ _ (RdL.rc _ _ h)
def loc : AV->Nat->List Nat->Option (AV×Nat)
 | x,acc,[]=>some (x,acc)
 | .st _ ps,acc,j :: p=>match ps[j]? with
  | some e=>loc e (acc+xD (ps.take j)) p
  | none=>none
 | .arr _ k es,acc,i :: p=>match es[i]? with
  | some e=>loc e (acc+i*k) p
  | none=>none
 | _,_,_ :: _=>none
def aAP : AV->List Nat->AV->Option AV
 | _,[],y=>some y
 | .st n ps,j :: p,y=>match ps[j]? with
  | some e=>match aAP e p y with
   | some e'=>some (.st n (ps.set j e'))
   | none=>none
  | none=>none
 | .arr n k es,i :: p,y=>match es[i]? with
  | some e=>match aAP e p y with
   | some e'=>match data e' with
    | true=>some (.arr n k (es.set i e'))
    | false=>none
   | none=>none
  | none=>none
 | _,_ :: _,_=>none
theorem aRH{α:Type}{ps:List α}{j:Nat}{e e':α}(hp:ps[j]? = some e):ps.set j e'=ps.take j++(e' :: ps.drop (j+1)):=by
 have hj:j < ps.length:=by
  rcases eo j ps.length with h' | h'
  ·exact h'
  ·rw[ar h'] at hp;cases hp
 exact List.set_eq_take_append_cons_drop.trans (by rw[if_pos hj])
theorem rR{μ:Mem}:∀(p:List Nat) (c:AV) (acc o:Nat) (x:AV) (ys:List Value),loc c acc p=some (x,o)->Rc μ c ys ->
  ∃pre mid post,ys=pre++mid++post/\acc+pre.length=o/\Rc μ x mid /\
   ∀x' mid' c',aAP c p x'=some c'->x'.n=x.n->Rc μ x' mid'->Rc μ c' (pre++mid'++post)/\c'.n=c.n
 | [],c,acc,o,x,ys,hl,hr=>by
  simp only[loc,Option.some.injEq,Prod.mk.injEq] at hl;obtain⟨rfl,rfl⟩:=hl;refine⟨[],ys,[],by simp,by simp,hr,?_⟩
  intro x' mid' c' hs hn hm;simp only[aAP,Option.some.injEq] at hs;subst hs;exact⟨by simpa using hm,hn⟩
 | j :: p,c,acc,o,x,ys,hl,hr=>by
  have kids:∀(R:AV->List Value->Prop) (hR:∀x ys,R x ys->Rc μ x ys) (ps:List AV) (e:AV) (zs:List Value) (acc':Nat),ps[j]? = some e->PL R ps zs->xD (ps.take j)+acc=acc'->loc e acc' p=some (x,o) ->
    ∃pre mid post,zs=pre++mid++post/\acc+pre.length=o/\Rc μ x mid /\
     ∀x' mid' e',aAP e p x'=some e'->x'.n=x.n->Rc μ x' mid'->(∀ys,Rc μ e' ys->R e' ys)->PL R (ps.set j e') (pre++mid'++post)/\e'.n=e.n:=by
   intro R hR ps e zs acc' hp hz ha hl;obtain⟨y1,y2,y3,h1,h2,h3,h4⟩:=hz.pick hp;obtain⟨pre,mid,post,g1,g2,g3,g4⟩:=rR p e acc' o x y2 hl (hR _ _ h3)
   have hy1:=RcL.length _ _ (vB.2 (PL.imp hR h2))
   refine⟨y1++pre,mid,post++y3,by rw[h1,g1];simp[an],by simp[hy1];omega,g3,?_⟩
   intro x' mid' e' hs hn hm hback;obtain⟨k1,k2⟩:=g4 x' mid' e' hs hn hm;refine⟨?_,k2⟩
   rw[aRH hp]
   have e1:y1++pre++mid'++(post++y3)=y1++((pre++mid'++post)++y3):=by simp[an]
   rw[e1]
   refine PL.append h2 ?_;simp only[PL]
   exact⟨_,y3,rfl,hback _ k1,h4⟩
  cases c with
  | st n ps=>
   simp only[loc] at hl;cases he:ps[j]? with
   | none=>rw[he] at hl;cases hl
   | some e=>
    rw[he] at hl;simp only[Rc] at hr;obtain⟨pre,mid,post,g1,g2,g3,g4⟩:=kids (Rc μ) (λ_ _ h=>h) ps e ys _ he (vB.1 hr.2) (by omega) hl;refine⟨pre,mid,post,g1,g2,g3,?_⟩
    intro x' mid' c' hs hn hm;simp only[aAP,he] at hs;cases hs':aAP e p x' with
    | none=>rw[hs'] at hs;cases hs
    | some e'=>
     rw[hs'] at hs;simp only[Option.some.injEq] at hs;subst hs;refine⟨?_,rfl⟩
     obtain⟨k1,k2⟩:=g4 x' mid' e' hs' hn hm (λ_ h=>h)
     simp only[Rc]
     refine⟨?_,vB.2 k1⟩
     have l1:=Rc.length _ _ hm;have l2:=Rc.length _ _ g3;have l3:=hr.1;rw[g1] at l3;simp at l3 ⊢;omega
  | arr n k es=>
   simp only[loc] at hl;cases he:es[j]? with
   | none=>rw[he] at hl;cases hl
   | some e=>
    rw[he] at hl;simp only[Rc] at hr;have hj:j < es.length:=by
     rcases eo j es.length with h' | h'
     ·exact h'
     ·rw[ar h'] at he;cases he
    have hsz:xD (es.take j)=j*k:=by
     rw[tL (k:=k) (λe he=>hr.2.1 e (List.mem_of_mem_take he)),bj,fm (by omega)]
    obtain⟨pre,mid,post,g1,g2,g3,g4⟩:=kids (Rd μ.w μ.M) (λ_ _ h=>Rd.rc _ _ h) es e ys _ he (wW.1 hr.2.2) (by omega) hl;refine⟨pre,mid,post,g1,g2,g3,?_⟩
    intro x' mid' c' hs hn hm;simp only[aAP,he] at hs;cases hs':aAP e p x' with
    | none=>rw[hs'] at hs;cases hs
    | some e'=>
     rw[hs'] at hs;dsimp only at hs;split at hs <;> try cases hs
     rename_i hdat;refine⟨?_,rfl⟩
     obtain⟨k1,k2⟩:=g4 x' mid' e' hs' hn hm (λys h=>Rc.rd _ _ hdat h)
     simp only[Rc]
     refine⟨?_,?_,wW.2 k1⟩
     ·have l1:=Rc.length _ _ hm;have l2:=Rc.length _ _ g3;have l3:=hr.1;rw[g1] at l3;simp at l3 ⊢;omega
     ·intro q hq;rcases List.mem_or_eq_of_mem_set hq with h' | h'
      ·exact hr.2.1 q h'
      ·rw[h',k2];exact hr.2.1 e (List.mem_of_getElem? he)
  | _=>simp[loc] at hl
theorem pV(b off i:Nat):(⟨b,off,none⟩:Addr).add i=⟨b,off+i,none⟩:=by
 unfold Addr.add;split
 ·rename_i h;subst h;rfl
 ·rfl
theorem yZ{P:Program}{w:World}{b off:Nat}:∀(zs:List Value) (i:Nat) (acc:Array Value),
  (∀j y,zs[j]? = some y->w.cell? ⟨b,off+(i+j),none⟩=some y) ->
  (loadCellsFrom ⟨b,off,none⟩ i zs.length acc).run P w = .ok (acc++zs.toArray) w
 | [],i,acc,_=>by simp[loadCellsFrom]
 | z :: zs,i,acc,h=>by
  have h0:=h 0 z (by simp)
  rw[Nat.add_zero] at h0;simp only[dc,loadCellsFrom,Sem.run_bind,run_load,pV,h0,Result.andThen_ok]
  rw[yZ zs (i+1) (acc.push z) (λj y hy=>by have:=h (j+1) y (by simpa using hy);rw[show i+1+j=i+(j+1) by omega];exact this)]
  simp
theorem tI{P:Program}{w:World}{b off:Nat}{zs:List Value}(h:∀j y,zs[j]? = some y->w.cell? ⟨b,off+j,none⟩=some y) :
  (loadCells ⟨b,off,none⟩ zs.length).run P w = .ok zs.toArray w:=by
 unfold loadCells;rw[yZ zs 0 #[] (λj y hy=>by simpa using h j y hy)]
 simp
def aZ(w:World)(b:Nat)(o:Obj):World:={ w with heap:=w.heap.setIfInBounds b o }
theorem aIh{w:World}{b:Nat}{c:Array Value}{T:TypeId}{fr:Nat×Nat}(h:w.heap[b]? = some (.cells c T fr))(o:Nat)(v:Value) :
  w.setCell ⟨b,o,none⟩ v=aZ w b (.cells (c.setIfInBounds o v) T fr):=by
 have hb:b < w.heap.size:=by
  rcases eo b w.heap.size with h' | h'
  ·exact h'
  ·rw[fv h'] at h;cases h
 unfold World.setCell aZ;congr 1;apply j4;intro i;rw[Array.getElem?_modify,gj]
 by_cases hi:b=i
 ·subst hi;rw[if_pos rfl,if_pos rfl,h,if_pos hb]
  rfl
 ·simp[hi]
theorem aDo(w:World)(b:Nat)(o o':Obj):aZ (aZ w b o) b o'=aZ w b o':=by
 unfold aZ;simp
theorem bK{w:World}{b:Nat}{o:Obj}(hb:b < w.heap.size):(aZ w b o).heap[b]? = some o:=by
 unfold aZ;simp[hb]
theorem bO{w:World}{b i:Nat}{o:Obj}(hb:b≠i):(aZ w b o).heap[i]? = w.heap[i]? := by
 unfold aZ;rw[Array.getElem?_setIfInBounds_ne hb]
def jM(c:Array Value)(o:Nat):List Value->Array Value
 | []=>c
 | v :: vs=>jM (c.setIfInBounds o v) (o+1) vs
theorem nU{P:Program}{T:TypeId}{b:Nat}:∀(vs:List Value) (off i:Nat) (w:World) (c:Array Value),
  w.heap[b]? = some (.cells c T (0,0))->off+i+vs.length<=c.size->(∀v∈vs,v.oneCell'=true) ->
  (storeCells ⟨b,off,none⟩ vs i).run P w = .ok () (aZ w b (.cells (jM c (off+i) vs) T (0,0)))
 | [],off,i,w,c,h,_,_=>by
  have hb:b < w.heap.size:=by
   rcases eo b w.heap.size with h' | h'
   ·exact h'
   ·rw[fv h'] at h;cases h
  simp only[storeCells,jM,Sem.run_pure]
  refine congrArg (Result.ok ()) ?_;unfold aZ;cases w with
  | mk heap tape drawn os output=>
   congr 1;apply j4;intro j;rw[gj]
   split
   ·rename_i e;subst e;simp only at h hb;rw[h]
   ·rfl
 | v :: vs,off,i,w,c,h,hl,h1=>by
  have hb:b < w.heap.size:=by
   rcases eo b w.heap.size with h' | h'
   ·exact h'
   ·rw[fv h'] at h;cases h
  simp only[dc] at hl;have hlt:off+i < c.size:=by omega
  have hc:w.cell? ⟨b,off+i,none⟩=some c[off+i]:=by
   simp only[World.cell?,h]
   simp[hlt]
  have hf:w.frozen? ⟨b,off+i,none⟩=false:=by simp[World.frozen?,h]
  simp only[storeCells,Sem.run_bind,pV,run_store _ _ _ _ _ (h1 v (by simp)),hc,hf,Bool.false_eq_true,if_false,Result.andThen_ok]
  rw[aIh h]
  have:=nU (P:=P) vs off (i+1) (aZ w b (.cells (c.setIfInBounds (off+i) v) T (0,0))) _ (bK hb) (by simp;omega) (λv hv=>h1 v (by simp[hv]))
  rw[this,aDo]
  rw[jM,Nat.add_assoc]
theorem oN : ∀(vs:List Value) (c:Array Value) (o:Nat),o+vs.length<=c.size->(jM c o vs).toList=c.toList.take o++vs++c.toList.drop (o+vs.length)
 | [],c,o,h=>by simp[jM]
 | v :: vs,c,o,h=>by
  simp only[dc] at h;rw[jM,oN vs _ _ (by simp;omega)]
  rw[Array.toList_setIfInBounds]
  apply List.ext_getElem?;intro i;have hl:c.toList.length=c.size:=by simp
  simp only[an,List.getElem?_append,bj,List.length_set,List.getElem?_take,List.getElem?_drop,List.getElem?_set,dc,List.getElem?_cons,hl]
  rcases Nat.lt_trichotomy i o with h' | h' | h'
  ·simp[show i < o+1 by omega,show i < min (o+1) c.size by omega,show i < min o c.size by omega,h',show ¬o=i by omega]
  ·subst h';rw[fm (show i<=c.size by omega),fm (show i+1<=c.size by omega)]
   simp[show i < c.size by omega]
  ·simp only[show ¬i < min (o+1) c.size by omega,show ¬i < min o c.size by omega,if_false]
   by_cases h2:i - min (o+1) c.size < vs.length
   ·simp only[h2,if_true,show i - min o c.size < vs.length+1 by omega,show ¬(i - min o c.size=0) by omega,if_false]
    rw[show i - min (o+1) c.size=i - min o c.size - 1 by omega]
   ·simp only[h2,if_false,show ¬i - min o c.size < vs.length+1 by omega]
    rw[if_neg (by omega),show o+1+vs.length+(i - min (o+1) c.size - vs.length)=o+(vs.length+1)+(i - min o c.size - (vs.length+1)) by omega]
theorem nC : ∀(vs:List Value) (c:Array Value) (o:Nat),(jM c o vs).size=c.size
 | [],_,_=>rfl
 | v :: vs,c,o=>by rw[jM,nC];simp
end Go.UK

open Nat renaming le_refl→ca,lt_of_lt_of_le→cu,lt_or_ge→eo
namespace Go.UK
open Go
set_option linter.all false
variable [bL]
theorem cG{w:World}{b:Nat}{o:Obj}(h:w.heap[b]? = some o):b < w.heap.size:=by
 rcases eo b w.heap.size with h' | h'
 ·exact h'
 ·rw[Array.getElem?_eq_none h'] at h;cases h
theorem tD{w:World}{o:Obj}{b:Nat}(h:b < w.heap.size):(w.alloc o).heap[b]? = w.heap[b]? := by
 show(w.heap.push o)[b]? = _;rw[Array.getElem?_push,if_neg (by omega)]
theorem eV{w:World}{o:Obj}:(w.alloc o).heap[w.heap.size]? = some o:=by
 show(w.heap.push o)[w.heap.size]? = _;rw[Array.getElem?_push,if_pos rfl]
theorem mR{w w':World}{b o:Nat}(h:w'.heap[b]? = w.heap[b]?):w'.cell? ⟨b,o,none⟩=w.cell? ⟨b,o,none⟩:=by
 simp only[World.cell?,h]
theorem oI{F F':Nat->Nat->Prop}{H H':List Box}{bs bs':List (Option Nat)}{w w':World}{b s:Nat}(h:w'.heap[b]? = w.heap[b]?)(hr:(⟨H,bs,w,F⟩:Mem).row b s):(⟨H',bs',w',F'⟩:Mem).row b s:=by
 obtain⟨c,T,h1,h2⟩:=hr;exact⟨c,T,h.trans h1,h2⟩
theorem mV{F F':Nat->Nat->Prop}{H H':List Box}{bs bs':List (Option Nat)}{w w':World}{b s:Nat}{T:TypeId}(h:w'.heap[b]? = w.heap[b]?)(hr:(⟨H,bs,w,F⟩:Mem).rowT b s T):(⟨H',bs',w',F'⟩:Mem).rowT b s T:=by
 obtain⟨c,h1,h2⟩:=hr;exact⟨c,h.trans h1,h2⟩
theorem aX{α:Type}{l:List α}{i:Nat}{x:α}(h:l[i]? = some x):i < l.length:=by
 rcases eo i l.length with h' | h'
 ·exact h'
 ·rw[List.getElem?_eq_none h'] at h;cases h
structure cL(w w':World):Prop where
 size:w.heap.size<=w'.heap.size
 block:∀b:Nat,b < w.heap.size->w'.heap[b]? = w.heap[b]?
 os:w'.os=w.os
 tape:w'.tape=w.tape
 output:w'.output=w.output
theorem cL.refl(w:World):cL w w:=⟨ca _,λ_ _=>rfl,rfl,rfl,rfl⟩
theorem cL.alloc(w:World)(c:Array Value)(t:TypeId):cL w (w.alloc (.cells c t)):=⟨by simp,λ_ h=>tD h,rfl,rfl,rfl⟩
theorem cL.drew(w:World):cL w w.drew:=⟨ca _,λ_ _=>rfl,rfl,rfl,rfl⟩
theorem cL.trans{a b c:World}(h:cL a b)(k:cL b c):cL a c:=
 ⟨Nat.le_trans h.size k.size,λi hi=>(k.block i (cu hi h.size)).trans (h.block i hi),k.os.trans h.os,k.tape.trans h.tape,k.output.trans h.output⟩
theorem Ext.later{F:Nat->Nat->Prop}{H:List Box}{bs:List (Option Nat)}{w w':World}(h:cL w w'):Ext ⟨H,bs,w,F⟩ ⟨H,bs,w',F⟩ where
 size:=h.size
 len:=ca _
 cells b o hb _:=mR (h.block b hb)
 blocks b hb _:=h.block b hb
 mm b o _ hm:=hm
 same:=rfl
 vars id c hc:=⟨⟨c,hc⟩,rfl⟩
 maps id c hc:=⟨⟨c,hc⟩,rfl⟩
 loops id c hc:=⟨⟨c,hc⟩,rfl⟩
 toks id m' _ hm:=⟨m',hm,ca _,λ_=>⟨rfl,λb s _ hr=>oI (h.block b (by obtain⟨c,T,h1,_⟩:=hr;exact cG h1)) hr⟩⟩
 gros id k es' _ hm:=⟨es',hm,ca _,λ_=>⟨rfl,λb s T _ hr=>mV (h.block b (by obtain⟨c,h1,_⟩:=hr;exact cG h1)) hr⟩⟩
 os:=h.os
 tape:=h.tape
 output:=h.output
theorem mE{μ μ':Mem}(ext:Ext μ μ'){o:Option Nat}{x:Box}(hb:∀b,o=some b->x ≠ .dead->μ'.w.heap[b]? = μ.w.heap[b]?)(h:μ.boxOK o x):μ'.boxOK o x:=by
 cases x with
 | dead=>trivial
 | var c=>
  obtain⟨b,ys,T,h1,h2,h3⟩:=h;exact⟨b,ys,T,h1,(hb b h1 (by simp)).trans h2,Rc.ext ext _ _ h3⟩
 | tail m=>
  intro b hb';obtain⟨s,h1,h2⟩:=h b hb';obtain⟨c,T,g1,g2⟩:=h1;exact⟨s,⟨c,T,(hb b hb' (by simp)).trans g1,g2⟩,h2⟩
 | mp kvs=>
  cases kvs with
  | kv kvs=>
   obtain⟨b,es,clock,h1,h2,h3⟩:=h;exact⟨b,es,clock,h1,(hb b h1 (by simp)).trans h2,h3.mono ext.keeps⟩
  | it s p=>
   obtain⟨b,h1,h2⟩:=h;exact⟨b,h1,(hb b h1 (by simp)).trans h2⟩
  | mi m=>
   obtain⟨b,c,t,h1,h2,h3⟩:=h;exact⟨b,c,t,h1,(hb b h1 (by simp)).trans h2,Rc.ext ext _ _ h3⟩
  | bl t e0 id s=>
   obtain⟨b,p,v,h1,h2,hp,h3⟩:=h;exact⟨b,p,v,h1,(hb b h1 (by simp)).trans h2,hp,Rc.ext ext _ _ h3.1,ext.typd h3.2⟩
 | loop r=>
  obtain⟨b,h1,h2⟩:=h;exact⟨b,h1,(hb b h1 (by simp)).trans h2⟩
 | gro k es=>
  obtain⟨h0,h1 | ⟨b,ys,T,h1,h2,y1,y2,h3,h4⟩⟩:=h
  ·exact⟨h0,.inl h1⟩
  ·exact⟨h0,.inr ⟨b,ys,T,h1,(hb b h1 (by simp)).trans h2,y1,y2,h3,RdL.mono ext.keeps _ _ h4⟩⟩
theorem aAT{μ:Mem}{b:Nat}{x:Box}(hd:x ≠ .dead)(h:μ.boxOK (some b) x):b < μ.w.heap.size:=by
 cases x with
 | dead=>exact absurd rfl hd
 | var c=>obtain⟨b',ys,T,h1,h2,h3⟩:=h;cases h1;exact cG h2
 | tail m=>obtain⟨s,⟨c,T,h1,_⟩,_⟩:=h b rfl;exact cG h1
 | mp kvs=>
  cases kvs with
  | kv kvs=>obtain⟨b',es,k,h1,h2,h3⟩:=h;cases h1;exact cG h2
  | it s p=>obtain⟨b',h1,h2⟩:=h;cases h1;exact cG h2
  | mi m=>obtain⟨b',c,t,h1,h2,_⟩:=h;cases h1;exact cG h2
  | bl t e0 id s=>obtain⟨b',p,v,h1,h2,_⟩:=h;cases h1;exact cG h2
 | loop r=>obtain⟨b',h1,h2⟩:=h;cases h1;exact cG h2
 | gro k es=>
  obtain⟨h0,⟨h1,_⟩ | ⟨b,ys,T,h1,h2,_⟩⟩:=h
  ·cases h1
  ·cases h1;exact cG h2
theorem OK.later{F:Nat->Nat->Prop}{H:List Box}{bs:List (Option Nat)}{w w':World}(h:cL w w')(ok:(⟨H,bs,w,F⟩:Mem).OK):(⟨H,bs,w',F⟩:Mem).OK where
 foreign b o hf:=cu (ok.foreign b o hf) h.size
 clear:=ok.clear
 len:=ok.len
 box id o x ho hx:=by
  have hok:=ok.box id o x ho hx;refine mE (Ext.later h) (λb hb hd=>?_) hok;subst hb;exact h.block b (aAT hd hok)
 apart:=ok.apart
 glob g hg:=(Ext.later h).globAt (ok.glob g hg)
theorem bU{μ:Mem}(ok:μ.OK){id b:Nat}{x:Box}(hb:μ.bs[id]? = some (some b))(hx:μ.H[id]? = some x)(hd:x ≠ .dead):b < μ.w.heap.size:=
 aAT hd (ok.box id _ x hb hx)
theorem aAQ{α:Type}{l:List α}{y:α}{i:Nat}{x:α}(h:(l++[y])[i]? = some x):l[i]? = some x\/(i=l.length/\x=y):=by
 rw[List.getElem?_append] at h;split at h
 ·exact .inl h
 ·rename_i hi;right;have:i - l.length=0:=by
   rcases Nat.eq_zero_or_pos (i - l.length) with h' | h'
   ·exact h'
   ·rw[List.getElem?_eq_none (by simp;omega)] at h;cases h
  rw[this] at h;simp at h;exact⟨by omega,h.symm⟩
theorem fA{α:Type}{l:List α}{y:α}{i:Nat}(h:i < l.length):(l++[y])[i]? = l[i]? := List.getElem?_append_left h
theorem Ext.snoc{F:Nat->Nat->Prop}{H:List Box}{bs:List (Option Nat)}{w w':World}(hlen:bs.length=H.length)(h:cL w w')(x:Box)(o:Option Nat)(ho:∀b,o=some b->w.heap.size<=b) :
  Ext ⟨H,bs,w,F⟩ ⟨H++[x],bs++[o],w',F⟩ where
 size:=h.size
 len:=by simp
 cells b o hb _:=mR (h.block b hb)
 blocks b hb _:=h.block b hb
 mm b o' hb hm:=by
  obtain⟨id,h1,h2⟩:=hm;dsimp only at h1 h2 hb;rcases aAQ h1 with h3 | ⟨h3,h4⟩
  ·have hid:=aX h3;have e:(H++[x])[id]? = H[id]? := fA (by omega)
   rw[e] at h2;exact⟨id,h3,h2⟩
  ·have:=ho b h4.symm;omega
 same:=rfl
 vars id c hc:=by
  have hid:=aX hc;dsimp only at hid;exact⟨⟨c,(fA hid).trans hc⟩,fA (by omega)⟩
 maps id c hc:=by
  have hid:=aX hc;dsimp only at hid;exact⟨⟨c,(fA hid).trans hc⟩,fA (by omega)⟩
 loops id c hc:=by
  have hid:=aX hc;dsimp only at hid;exact⟨⟨c,(fA hid).trans hc⟩,fA (by omega)⟩
 toks id m' hid hm:=by
  dsimp only at hid hm;rw[fA hid] at hm;exact⟨m',hm,ca _,λ_=>⟨fA (by omega),λb s _ hr=>oI (h.block b (by obtain⟨c,T,h1,_⟩:=hr;exact cG h1)) hr⟩⟩
 gros id k es' hid hm:=by
  dsimp only at hid hm;rw[fA hid] at hm;exact⟨es',hm,ca _,λ_=>⟨fA (by omega),λb s T _ hr=>mV (h.block b (by obtain⟨c,h1,_⟩:=hr;exact cG h1)) hr⟩⟩
 os:=h.os
 tape:=h.tape
 output:=h.output
theorem OK.snoc{F:Nat->Nat->Prop}{H:List Box}{bs:List (Option Nat)}{w w':World}(ok:(⟨H,bs,w,F⟩:Mem).OK)(h:cL w w'){x:Box}{o:Option Nat}(ho:∀b,o=some b->w.heap.size<=b)
  (hx:(⟨H++[x],bs++[o],w',F⟩:Mem).boxOK o x):(⟨H++[x],bs++[o],w',F⟩:Mem).OK:=by
 have ext:=Ext.snoc (F:=F) ok.len h x o ho;have hl:bs.length=H.length:=ok.len;refine⟨λb o hf=>cu (ok.foreign b o hf) h.size,?_,by simp[hl],?_,?_,λg hg=>ext.globAt (ok.glob g hg)⟩
 ·intro b o hown hf;exact ok.clear b o (ext.mm b o (ok.foreign b o hf) hown) hf
 ·intro id o' x' ho' hx';dsimp only at ho' hx';rcases aAQ ho' with h1 | ⟨h1,h2⟩
  ·have hid:=aX h1;rw[fA (by omega)] at hx';have hok:=ok.box id o' x' h1 hx';refine mE ext (λb hb hd=>?_) hok;subst hb;exact h.block b (aAT hd hok)
  ·rcases aAQ hx' with h3 | ⟨h3,h4⟩
   ·have:=aX h3;omega
   ·subst h2 h4;exact hx
 ·intro i j b y z hi hj hy hz hyd hzd;dsimp only at hi hj hy hz;have old:∀(i:Nat) (y:Box),(bs++[o])[i]? = some (some b)->(H++[x])[i]? = some y->y ≠ .dead->b < w.heap.size->bs[i]? = some (some b)/\H[i]? = some y:=by
   intro i y h1 h2 hd hb;rcases aAQ h1 with h3 | ⟨h3,h4⟩
   ·have:=aX h3;exact⟨h3,by rw[<- fA (y:=x) (by omega)];exact h2⟩
   ·have:=ho b h4.symm;omega
  have new:∀(i:Nat) (y:Box),(bs++[o])[i]? = some (some b)->(H++[x])[i]? = some y->y ≠ .dead->¬b < w.heap.size->i=bs.length:=by
   intro i y h1 h2 hd hb;rcases aAQ h1 with h3 | ⟨h3,h4⟩
   ·have h5:=aX h3;rw[fA (by omega)] at h2;exact absurd (bU ok (b:=b) h3 h2 hd) hb
   ·exact h3
  by_cases hb:b < w.heap.size
  ·obtain⟨g1,g2⟩:=old i y hi hy hyd hb;obtain⟨g3,g4⟩:=old j z hj hz hzd hb;exact ok.apart i j b y z g1 g3 g2 g4 hyd hzd
  ·rw[new i y hi hy hyd hb,new j z hj hz hzd hb]
theorem dV{α:Type}{l:List α}{i j:Nat}{y x:α}(h:(l.set i y)[j]? = some x):(i=j/\x=y)\/(i≠j/\l[j]? = some x):=by
 rw[List.getElem?_set] at h;split at h
 ·split at h
  ·exact .inl ⟨by assumption,by simpa using h.symm⟩
  ·cases h
 ·exact .inr ⟨by assumption,h⟩
theorem aW{α:Type}{l:List α}{i j:Nat}{y:α}(h:i≠j):(l.set i y)[j]? = l[j]? := List.getElem?_set_ne h
theorem bW{α:Type}{l:List α}{i:Nat}{y x:α}(h:l[i]? = some x):(l.set i y)[i]? = some y:=by
 rw[List.getElem?_set_self (aX h)]
theorem tN{w:World}{b:Nat}{ys ys':Array Value}{T:TypeId}(hw:w.heap[b]? = some (.cells ys T (0,0)))(a:Addr):(aZ w b (.cells ys' T (0,0))).frozen? a=w.frozen? a:=by
 unfold World.frozen? aZ;by_cases h:b=a.block
 ·subst h;have hlt:=cG hw;rw[hw]
  simp[hlt]
 ·simp[Array.getElem?_setIfInBounds_ne h]
def Box.kind : Box->Nat
 | .dead=>0
 | .var _=>1
 | .tail _=>2
 | .mp _=>3
 | .loop _=>4
 | .gro .. => 5
def Box.isGro : Box->Bool
 | .gro .. => true
 | _=>false
theorem Box.whole_live{x:Box}(h:x.whole=true):x ≠ .dead:=by intro e;subst e;cases h
theorem aGw{x y:Box}(h:x.kind=y.kind)(hy:y.whole=true):x.whole=true:=by
 cases x <;> cases y <;> first | rfl | exact hy | (simp[Box.kind] at h;done)
theorem Ext.put{F:Nat->Nat->Prop}{H:List Box}{bs:List (Option Nat)}{w:World}{id b:Nat}{x x':Box}{o':Obj}
  (hb:bs[id]? = some (some b)) (hH:H[id]? = some x) (hw:x.whole=true) (hk:x'.kind=x.kind) (ok:(⟨H,bs,w,F⟩:Mem).OK) (_hfr:∀a,(aZ w b o').frozen? a=w.frozen? a) (hng:x.isGro=false:=by rfl) :
  Ext ⟨H,bs,w,F⟩ ⟨H.set id x',bs,aZ w b o',F⟩ where
 size:=by simp[aZ]
 len:=by simp
 cells b' o hb' hm:=by
  by_cases e:b=b'
  ·subst e;exact absurd ⟨id,hb,.inl ⟨x,hH,hw⟩⟩ hm
  ·exact mR (bO e)
 blocks b' hb' hm:=by
  by_cases e:b=b'
  ·subst e;exact absurd ⟨id,hb,.inl ⟨x,hH,hw⟩⟩ (hm 0)
  ·exact bO e
 mm b' o hb' hm:=by
  obtain⟨i,h1,h2⟩:=hm;dsimp only at h1 h2;refine⟨i,h1,?_⟩
  rcases h2 with ⟨y,h2,h4⟩ | ⟨m,h2,h3⟩
  ·rcases dV h2 with ⟨e,_⟩ | ⟨_,e⟩
   ·subst e;exact .inl ⟨x,hH,hw⟩
   ·exact .inl ⟨y,e,h4⟩
  ·rcases dV h2 with ⟨_,e⟩ | ⟨_,e⟩
   ·have:=aGw hk hw;rw[<- e] at this;cases this
   ·exact .inr ⟨m,e,h3⟩
 same:=rfl
 vars i y hy:=by
  by_cases e:id=i
  ·subst e;dsimp only at hy;rw[hH] at hy;cases hy;cases x' <;> simp[Box.kind] at hk;exact⟨⟨_,bW hH⟩,rfl⟩
  ·exact⟨⟨y,(aW e).trans hy⟩,rfl⟩
 maps i y hy:=by
  by_cases e:id=i
  ·subst e;dsimp only at hy;rw[hH] at hy;cases hy;cases x' <;> simp[Box.kind] at hk;exact⟨⟨_,bW hH⟩,rfl⟩
  ·exact⟨⟨y,(aW e).trans hy⟩,rfl⟩
 loops i y hy:=by
  by_cases e:id=i
  ·subst e;dsimp only at hy;rw[hH] at hy;cases hy;cases x' <;> simp[Box.kind] at hk;exact⟨⟨_,bW hH⟩,rfl⟩
  ·exact⟨⟨y,(aW e).trans hy⟩,rfl⟩
 toks i m' hi hm:=by
  dsimp only at hm;rcases dV hm with ⟨_,e⟩ | ⟨hne,e⟩
  ·have:=aGw hk hw;rw[<- e] at this;cases this
  ·refine⟨m',e,ca _,λ_=>⟨rfl,λb' s hb' hr=>oI (bO ?_) hr⟩⟩
   intro hbb;subst hbb;exact hne (ok.apart id i b _ _ hb hb' hH e (Box.whole_live hw) (by simp))
 gros i q es' hi hm:=by
  dsimp only at hm;rcases dV hm with ⟨_,e⟩ | ⟨hne,e⟩
  ·rw[<- e] at hk;cases x <;> first | (simp[Box.kind] at hk;done) | (cases hng;done)
  ·refine⟨es',e,ca _,λ_=>⟨rfl,λb' s T hb' hr=>mV (bO ?_) hr⟩⟩
   intro hbb;subst hbb;exact hne (ok.apart id i b _ _ hb hb' hH e (Box.whole_live hw) (by simp))
 os:=rfl
 tape:=rfl
 output:=rfl
theorem OK.put{F:Nat->Nat->Prop}{H:List Box}{bs:List (Option Nat)}{w:World}{id b:Nat}{x x':Box}{o':Obj}
  (hb:bs[id]? = some (some b)) (hH:H[id]? = some x) (hw:x.whole=true) (hk:x'.kind=x.kind) (ok:(⟨H,bs,w,F⟩:Mem).OK) (_hfr:∀a,(aZ w b o').frozen? a=w.frozen? a)
  (hc:(⟨H.set id x',bs,aZ w b o',F⟩:Mem).boxOK (some b) x') (hng:x.isGro=false:=by rfl):(⟨H.set id x',bs,aZ w b o',F⟩:Mem).OK:=by
 have ext:=Ext.put hb hH hw hk ok _hfr hng;refine⟨λb o hf=>by have:=ok.foreign b o hf;simpa[aZ] using this,λb o hown hf=>ok.clear b o (ext.mm b o (ok.foreign b o hf) hown) hf,by have:=ok.len;simp at this ⊢;omega,?_,?_,λg hg=>ext.globAt (ok.glob g hg)⟩
 ·intro i o y ho hy;dsimp only at ho hy;rcases dV hy with ⟨e,hy2⟩ | ⟨hne,hy⟩
  ·subst e hy2;rw[hb] at ho;cases ho;exact hc
  ·have hn:∀b',o=some b'->y ≠ .dead->b≠b':=λb' e hd e'=>by
    subst e e';exact hne (ok.apart id i b _ _ hb ho hH hy (Box.whole_live hw) hd)
   have hok:=ok.box i o y ho hy;refine mE ext (λb' hb' hd=>?_) hok;exact bO (hn b' hb' hd)
 ·intro i j b' y z hi hj hy hz hyd hzd;dsimp only at hi hj hy hz;have old:∀(i:Nat) (y:Box),(H.set id x')[i]? = some y->y ≠ .dead->∃y',H[i]? = some y'/\y' ≠ .dead:=by
   intro i y hy hd;rcases dV hy with ⟨e,_⟩ | ⟨_,e⟩
   ·subst e;exact⟨_,hH,Box.whole_live hw⟩
   ·exact⟨y,e,hd⟩
  obtain⟨y',hy1,hy2⟩:=old i y hy hyd;obtain⟨z',hz1,hz2⟩:=old j z hz hzd;exact ok.apart i j b' y' z' hi hj hy1 hz1 hy2 hz2
theorem Ext.store{F:Nat->Nat->Prop}{H:List Box}{bs:List (Option Nat)}{w:World}{id b:Nat}{c c':AV}{ys ys':Array Value}{T:TypeId}
  (hb:bs[id]? = some (some b)) (hH:H[id]? = some (.var c)) (hw:w.heap[b]? = some (.cells ys T (0,0))) (ok:(⟨H,bs,w,F⟩:Mem).OK) :
  Ext ⟨H,bs,w,F⟩ ⟨H.set id (.var c'),bs,aZ w b (.cells ys' T (0,0)),F⟩:=
 Ext.put hb hH rfl rfl ok (λa=>tN hw a)
theorem OK.store{F:Nat->Nat->Prop}{H:List Box}{bs:List (Option Nat)}{w:World}{id b:Nat}{c c':AV}{ys ys':Array Value}{T:TypeId}
  (hb:bs[id]? = some (some b)) (hH:H[id]? = some (.var c)) (hw:w.heap[b]? = some (.cells ys T (0,0))) (ok:(⟨H,bs,w,F⟩:Mem).OK)
  (hc:Rc ⟨H,bs,w,F⟩ c' ys'.toList):(⟨H.set id (.var c'),bs,aZ w b (.cells ys' T (0,0)),F⟩:Mem).OK:=
 OK.put hb hH rfl rfl ok (λa=>tN hw a) ⟨b,ys',T,rfl,bK (cG hw),Rc.ext (Ext.store (c':=c') (ys':=ys') hb hH hw ok) _ _ hc⟩
theorem Ext.grow{F:Nat->Nat->Prop}{H:List Box}{bs:List (Option Nat)}{w:World}{id b m m':Nat}{ys ys':Array Value}{T:TypeId}
  (hb:bs[id]? = some (some b)) (hH:H[id]? = some (.tail m)) (hw:w.heap[b]? = some (.cells ys T (0,0))) (ok:(⟨H,bs,w,F⟩:Mem).OK)
  (hm:m<=m') (hs:ys'.size=ys.size) (hlow:∀i,i < m->ys'[i]? = ys[i]?) :
  Ext ⟨H,bs,w,F⟩ ⟨H.set id (.tail m'),bs,aZ w b (.cells ys' T (0,0)),F⟩ where
 size:=by simp[aZ]
 len:=by simp
 cells b' o hb' hmm:=by
  by_cases e:b=b'
  ·subst e;have:o < m:=by
    rcases eo o m with h | h
    ·exact h
    ·exact absurd ⟨id,hb,.inr ⟨m,hH,h⟩⟩ hmm
   simp only[World.cell?,bK (cG hw),hw]
   simpa using hlow o this
  ·exact mR (bO e)
 blocks b' hb' hmm:=by
  by_cases e:b=b'
  ·subst e;exact absurd ⟨id,hb,.inr ⟨m,hH,ca _⟩⟩ (hmm m)
  ·exact bO e
 mm b' o hb' hmm:=by
  obtain⟨i,h1,h2⟩:=hmm;dsimp only at h1 h2;refine⟨i,h1,?_⟩
  rcases h2 with ⟨x,h2,hw2⟩ | ⟨m2,h2,h3⟩
  ·rcases dV h2 with ⟨_,e⟩ | ⟨_,e⟩
   ·subst e;cases hw2
   ·exact .inl ⟨x,e,hw2⟩
  ·rcases dV h2 with ⟨e,e'⟩ | ⟨_,e⟩
   ·subst e;cases e';exact .inr ⟨m,hH,by omega⟩
   ·exact .inr ⟨m2,e,h3⟩
 same:=rfl
 vars i x hx:=by
  have hne:id≠i:=λe=>by subst e;dsimp only at hx;rw[hH] at hx;cases hx
  exact⟨⟨x,(aW hne).trans hx⟩,rfl⟩
 maps i x hx:=by
  have hne:id≠i:=λe=>by subst e;dsimp only at hx;rw[hH] at hx;cases hx
  exact⟨⟨x,(aW hne).trans hx⟩,rfl⟩
 loops i x hx:=by
  have hne:id≠i:=λe=>by subst e;dsimp only at hx;rw[hH] at hx;cases hx
  exact⟨⟨x,(aW hne).trans hx⟩,rfl⟩
 toks i m2 hi hm2:=by
  dsimp only at hm2;rcases dV hm2 with ⟨e,e'⟩ | ⟨hne,e⟩
  ·subst e;cases e';refine⟨m,hH,hm,λ_=>⟨rfl,λb' s hb' hr=>?_⟩⟩
   dsimp only at hb';rw[hb] at hb';cases hb';obtain⟨c,T',h1,h2⟩:=hr;dsimp only at h1;rw[hw] at h1;cases h1;exact⟨ys',T,bK (cG hw),hs.trans h2⟩
  ·refine⟨m2,e,ca _,λ_=>⟨rfl,λb' s hb' hr=>oI (bO ?_) hr⟩⟩
   intro hbb;subst hbb;exact hne (ok.apart id i b _ _ hb hb' hH e (by simp) (by simp))
 gros i q es' hi hm2:=by
  dsimp only at hm2;rcases dV hm2 with ⟨e,e'⟩ | ⟨hne,e⟩
  ·cases e'
  ·refine⟨es',e,ca _,λ_=>⟨rfl,λb' s T hb' hr=>mV (bO ?_) hr⟩⟩
   intro hbb;subst hbb;exact hne (ok.apart id i b _ _ hb hb' hH e (by simp) (by simp))
 os:=rfl
 tape:=rfl
 output:=rfl
theorem OK.grow{F:Nat->Nat->Prop}{H:List Box}{bs:List (Option Nat)}{w:World}{id b m m':Nat}{ys ys':Array Value}{T:TypeId}
  (hb:bs[id]? = some (some b)) (hH:H[id]? = some (.tail m)) (hw:w.heap[b]? = some (.cells ys T (0,0))) (ok:(⟨H,bs,w,F⟩:Mem).OK)
  (hm:m<=m') (hs:ys'.size=ys.size) (hlow:∀i,i < m->ys'[i]? = ys[i]?) (hm':m'<=ys'.size) :
  (⟨H.set id (.tail m'),bs,aZ w b (.cells ys' T (0,0)),F⟩:Mem).OK:=by
 have ext:=Ext.grow hb hH hw ok hm hs hlow;refine⟨λb o hf=>by have:=ok.foreign b o hf;simpa[aZ] using this,λb o hown hf=>ok.clear b o (ext.mm b o (ok.foreign b o hf) hown) hf,by have:=ok.len;simp at this ⊢;omega,?_,?_,λg hg=>ext.globAt (ok.glob g hg)⟩
 ·intro i o x ho hx;dsimp only at ho hx;rcases dV hx with ⟨e,hx2⟩ | ⟨hne,hx⟩
  ·subst e hx2;intro b' hb';rw[hb] at ho;cases ho;cases hb';exact⟨ys'.size,⟨ys',T,bK (cG hw),rfl⟩,hm'⟩
  ·have hn:∀b',o=some b'->x ≠ .dead->b≠b':=λb' e hd e'=>by
    subst e e';exact hne (ok.apart id i b _ _ hb ho hH hx (by simp) hd)
   refine mE ext (λb' hb' hd=>?_) (ok.box i o x ho hx)
   exact bO (hn b' hb' hd)
 ·intro i j b' x y hi hj hx hy hxd hyd;dsimp only at hi hj hx hy;have old:∀(i:Nat) (x:Box),(H.set id (.tail m'))[i]? = some x->x ≠ .dead->∃x',H[i]? = some x'/\x' ≠ .dead:=by
   intro i x hx hd;rcases dV hx with ⟨e,_⟩ | ⟨_,e⟩
   ·subst e;exact⟨_,hH,by simp⟩
   ·exact⟨x,e,hd⟩
  obtain⟨x',hx1,hx2⟩:=old i x hx hxd;obtain⟨y',hy1,hy2⟩:=old j y hy hyd;exact ok.apart i j b' x' y' hi hj hx1 hy1 hx2 hy2
theorem Ext.move{F:Nat->Nat->Prop}{H:List Box}{bs:List (Option Nat)}{w w':World}{id m m' nb:Nat}{o:Option Nat}
  (_hb:bs[id]? = some o) (hH:H[id]? = some (.tail m)) (h:cL w w') (hn:w.heap.size<=nb)
  (hm:m < m'):Ext ⟨H,bs,w,F⟩ ⟨H.set id (.tail m'),bs.set id (some nb),w',F⟩ where
 size:=h.size
 len:=by simp
 cells b o hb _:=mR (h.block b hb)
 blocks b hb _:=h.block b hb
 mm b' o hb' hmm:=by
  obtain⟨i,h1,h2⟩:=hmm;dsimp only at h1 h2 hb';rcases dV h1 with ⟨_,e⟩ | ⟨hne,h1⟩
  ·cases e;omega
  ·refine⟨i,h1,?_⟩
   dsimp only;rcases h2 with ⟨x,h2,hw2⟩ | ⟨m2,h2,h3⟩
   ·rw[aW hne] at h2;exact .inl ⟨x,h2,hw2⟩
   ·rw[aW hne] at h2;exact .inr ⟨m2,h2,h3⟩
 same:=rfl
 vars i x hx:=by
  have hne:id≠i:=λe=>by subst e;dsimp only at hx;rw[hH] at hx;cases hx
  exact⟨⟨x,(aW hne).trans hx⟩,aW hne⟩
 maps i x hx:=by
  have hne:id≠i:=λe=>by subst e;dsimp only at hx;rw[hH] at hx;cases hx
  exact⟨⟨x,(aW hne).trans hx⟩,aW hne⟩
 loops i x hx:=by
  have hne:id≠i:=λe=>by subst e;dsimp only at hx;rw[hH] at hx;cases hx
  exact⟨⟨x,(aW hne).trans hx⟩,aW hne⟩
 toks i m2 hi hm2:=by
  dsimp only at hm2;rcases dV hm2 with ⟨e,e'⟩ | ⟨hne,e⟩
  ·subst e;cases e';exact⟨m,hH,by omega,λ_=>by omega⟩
  ·exact⟨m2,e,ca _,λ_=>⟨aW hne,λb' s hb' hr=>oI (h.block b' (by obtain⟨c,T,h1,_⟩:=hr;exact cG h1)) hr⟩⟩
 gros i q es' hi hm2:=by
  dsimp only at hm2;rcases dV hm2 with ⟨e,e'⟩ | ⟨hne,e⟩
  ·cases e'
  ·exact⟨es',e,ca _,λ_=>⟨aW hne,λb' s T hb' hr=>mV (h.block b' (by obtain⟨c,h1,_⟩:=hr;exact cG h1)) hr⟩⟩
 os:=h.os
 tape:=h.tape
 output:=h.output
theorem OK.move{F:Nat->Nat->Prop}{H:List Box}{bs:List (Option Nat)}{w w':World}{id m m' nb:Nat}{o:Option Nat}
  (hb:bs[id]? = some o) (hH:H[id]? = some (.tail m)) (ok:(⟨H,bs,w,F⟩:Mem).OK) (h:cL w w') (hn:w.heap.size<=nb)
  (hm:m < m') (hrow:∃s,(⟨H,bs,w',F⟩:Mem).row nb s/\m'<=s):(⟨H.set id (.tail m'),bs.set id (some nb),w',F⟩:Mem).OK:=by
 have ext:=Ext.move (F:=F) (m':=m') hb hH h hn hm;refine⟨λb o hf=>cu (ok.foreign b o hf) h.size,λb o hown hf=>ok.clear b o (ext.mm b o (ok.foreign b o hf) hown) hf,by have:=ok.len;simp at this ⊢;omega,?_,?_,λg hg=>ext.globAt (ok.glob g hg)⟩
 ·intro i o' x ho hx;dsimp only at ho hx;rcases dV hx with ⟨e,hx2⟩ | ⟨hne,hx⟩
  ·subst e hx2;rw[bW hb] at ho;cases ho;intro b' hb';cases hb';obtain⟨s,⟨c,T,h1,h2⟩,h3⟩:=hrow;exact⟨s,⟨c,T,h1,h2⟩,h3⟩
  ·rw[aW hne] at ho;have hok:=ok.box i o' x ho hx;refine mE ext (λb' hb' hd=>?_) hok;subst hb';exact h.block b' (aAT hd hok)
 ·intro i j b' x y hi hj hx hy hxd hyd;dsimp only at hi hj hx hy;by_cases ei:id=i
  ·subst ei;rw[bW hb] at hi;cases hi;by_cases ej:id=j
   ·exact ej
   ·rw[aW ej] at hj hy;have:=bU ok (b:=nb) hj hy hyd;dsimp only at this;omega
  ·rw[aW ei] at hi hx;by_cases ej:id=j
   ·subst ej;rw[bW hb] at hj;cases hj;have:=bU ok (b:=nb) hi hx hxd;dsimp only at this;omega
   ·rw[aW ej] at hj hy;exact ok.apart i j b' x y hi hj hx hy hxd hyd
theorem Ext.gput{F:Nat->Nat->Prop}{H:List Box}{bs:List (Option Nat)}{w:World}{id b k:Nat}{es es':List AV}{ys ys':Array Value}{T:TypeId}
  (hb:bs[id]? = some (some b)) (hH:H[id]? = some (.gro k es)) (hw:w.heap[b]? = some (.cells ys T (0,0))) (ok:(⟨H,bs,w,F⟩:Mem).OK) (hl:es.length<=es'.length) (hs:ys'.size=ys.size) :
  Ext ⟨H,bs,w,F⟩ ⟨H.set id (.gro k es'),bs,aZ w b (.cells ys' T (0,0)),F⟩ where
 size:=by simp[aZ]
 len:=by simp
 cells b' o hb' hmm:=by
  by_cases e:b=b'
  ·subst e;exact absurd ⟨id,hb,.inl ⟨_,hH,rfl⟩⟩ hmm
  ·exact mR (bO e)
 blocks b' hb' hmm:=by
  by_cases e:b=b'
  ·subst e;exact absurd ⟨id,hb,.inl ⟨_,hH,rfl⟩⟩ (hmm 0)
  ·exact bO e
 mm b' o hb' hmm:=by
  obtain⟨i,h1,h2⟩:=hmm;dsimp only at h1 h2;refine⟨i,h1,?_⟩
  rcases h2 with ⟨x,h2,hw2⟩ | ⟨m2,h2,h3⟩
  ·rcases dV h2 with ⟨e,_⟩ | ⟨_,e⟩
   ·subst e;exact .inl ⟨_,hH,rfl⟩
   ·exact .inl ⟨x,e,hw2⟩
  ·rcases dV h2 with ⟨e,e'⟩ | ⟨_,e⟩
   ·cases e'
   ·exact .inr ⟨m2,e,h3⟩
 same:=rfl
 vars i x hx:=by
  have hne:id≠i:=λe=>by subst e;dsimp only at hx;rw[hH] at hx;cases hx
  exact⟨⟨x,(aW hne).trans hx⟩,rfl⟩
 maps i x hx:=by
  have hne:id≠i:=λe=>by subst e;dsimp only at hx;rw[hH] at hx;cases hx
  exact⟨⟨x,(aW hne).trans hx⟩,rfl⟩
 loops i x hx:=by
  have hne:id≠i:=λe=>by subst e;dsimp only at hx;rw[hH] at hx;cases hx
  exact⟨⟨x,(aW hne).trans hx⟩,rfl⟩
 toks i m2 hi hm2:=by
  dsimp only at hm2;rcases dV hm2 with ⟨e,e'⟩ | ⟨hne,e⟩
  ·cases e'
  ·refine⟨m2,e,ca _,λ_=>⟨rfl,λb' s hb' hr=>oI (bO ?_) hr⟩⟩
   intro hbb;subst hbb;exact hne (ok.apart id i b _ _ hb hb' hH e (by simp) (by simp))
 gros i q es2 hi hm2:=by
  dsimp only at hm2;rcases dV hm2 with ⟨e,e'⟩ | ⟨hne,e⟩
  ·subst e;cases e';refine⟨es,hH,hl,λ_=>⟨rfl,λb' s T hb' hr=>?_⟩⟩
   dsimp only at hb';rw[hb] at hb';cases hb';obtain⟨c,h1,h2⟩:=hr;dsimp only at h1;rw[hw] at h1;cases h1;exact⟨ys',bK (cG hw),hs.trans h2⟩
  ·refine⟨es2,e,ca _,λ_=>⟨rfl,λb' s T hb' hr=>mV (bO ?_) hr⟩⟩
   intro hbb;subst hbb;exact hne (ok.apart id i b _ _ hb hb' hH e (by simp) (by simp))
 os:=rfl
 tape:=rfl
 output:=rfl
theorem OK.gput{F:Nat->Nat->Prop}{H:List Box}{bs:List (Option Nat)}{w:World}{id b k:Nat}{es es':List AV}{ys ys':Array Value}{T:TypeId}
  (hb:bs[id]? = some (some b)) (hH:H[id]? = some (.gro k es)) (hw:w.heap[b]? = some (.cells ys T (0,0))) (ok:(⟨H,bs,w,F⟩:Mem).OK) (hl:es.length<=es'.length) (hs:ys'.size=ys.size)
  (hk:∀e∈es',e.n=k) {y1 y2:List Value} (hy:ys'.toList=y1++y2) (hr:RdL w (⟨H,bs,w,F⟩:Mem).M es' y1):(⟨H.set id (.gro k es'),bs,aZ w b (.cells ys' T (0,0)),F⟩:Mem).OK:=by
 have ext:=Ext.gput (es':=es') hb hH hw ok hl hs;refine⟨λb o hf=>by have:=ok.foreign b o hf;simpa[aZ] using this,λb o hown hf=>ok.clear b o (ext.mm b o (ok.foreign b o hf) hown) hf,by have:=ok.len;simp at this ⊢;omega,?_,?_,λg hg=>ext.globAt (ok.glob g hg)⟩
 ·intro i o x ho hx;dsimp only at ho hx;rcases dV hx with ⟨e,hx2⟩ | ⟨hne,hx⟩
  ·subst e hx2;rw[hb] at ho;cases ho;exact⟨hk,.inr ⟨b,ys',T,rfl,bK (cG hw),y1,y2,hy,RdL.mono ext.keeps _ _ hr⟩⟩
  ·have hn:∀b',o=some b'->x ≠ .dead->b≠b':=λb' e hd e'=>by
    subst e e';exact hne (ok.apart id i b _ _ hb ho hH hx (by simp) hd)
   refine mE ext (λb' hb' hd=>?_) (ok.box i o x ho hx)
   exact bO (hn b' hb' hd)
 ·intro i j b' x y hi hj hx hy hxd hyd;dsimp only at hi hj hx hy;have old:∀(i:Nat) (x:Box),(H.set id (.gro k es'))[i]? = some x->x ≠ .dead->∃x',H[i]? = some x'/\x' ≠ .dead:=by
   intro i x hx hd;rcases dV hx with ⟨e,_⟩ | ⟨_,e⟩
   ·subst e;exact⟨_,hH,by simp⟩
   ·exact⟨x,e,hd⟩
  obtain⟨x',hx1,hx2⟩:=old i x hx hxd;obtain⟨y',hy1,hy2⟩:=old j y hy hyd;exact ok.apart i j b' x' y' hi hj hx1 hy1 hx2 hy2
theorem Ext.gmove{F:Nat->Nat->Prop}{H:List Box}{bs:List (Option Nat)}{w w':World}{id k nb:Nat}{es es':List AV}{o:Option Nat}
  (_hb:bs[id]? = some o) (hH:H[id]? = some (.gro k es)) (h:cL w w') (hn:w.heap.size<=nb)
  (hm:es.length < es'.length):Ext ⟨H,bs,w,F⟩ ⟨H.set id (.gro k es'),bs.set id (some nb),w',F⟩ where
 size:=h.size
 len:=by simp
 cells b o hb _:=mR (h.block b hb)
 blocks b hb _:=h.block b hb
 mm b' o hb' hmm:=by
  obtain⟨i,h1,h2⟩:=hmm;dsimp only at h1 h2 hb';rcases dV h1 with ⟨_,e⟩ | ⟨hne,h1⟩
  ·cases e;omega
  ·refine⟨i,h1,?_⟩
   dsimp only;rcases h2 with ⟨x,h2,hw2⟩ | ⟨m2,h2,h3⟩
   ·rw[aW hne] at h2;exact .inl ⟨x,h2,hw2⟩
   ·rw[aW hne] at h2;exact .inr ⟨m2,h2,h3⟩
 same:=rfl
 vars i x hx:=by
  have hne:id≠i:=λe=>by subst e;dsimp only at hx;rw[hH] at hx;cases hx
  exact⟨⟨x,(aW hne).trans hx⟩,aW hne⟩
 maps i x hx:=by
  have hne:id≠i:=λe=>by subst e;dsimp only at hx;rw[hH] at hx;cases hx
  exact⟨⟨x,(aW hne).trans hx⟩,aW hne⟩
 loops i x hx:=by
  have hne:id≠i:=λe=>by subst e;dsimp only at hx;rw[hH] at hx;cases hx
  exact⟨⟨x,(aW hne).trans hx⟩,aW hne⟩
 toks i m2 hi hm2:=by
  dsimp only at hm2;rcases dV hm2 with ⟨e,e'⟩ | ⟨hne,e⟩
  ·cases e'
  ·exact⟨m2,e,ca _,λ_=>⟨aW hne,λb' s hb' hr=>oI (h.block b' (by obtain⟨c,T,h1,_⟩:=hr;exact cG h1)) hr⟩⟩
 gros i q es2 hi hm2:=by
  dsimp only at hm2;rcases dV hm2 with ⟨e,e'⟩ | ⟨hne,e⟩
  ·subst e;cases e';exact⟨es,hH,by omega,λ_=>by omega⟩
  ·exact⟨es2,e,ca _,λ_=>⟨aW hne,λb' s T hb' hr=>mV (h.block b' (by obtain⟨c,h1,_⟩:=hr;exact cG h1)) hr⟩⟩
 os:=h.os
 tape:=h.tape
 output:=h.output
theorem OK.gmove{F:Nat->Nat->Prop}{H:List Box}{bs:List (Option Nat)}{w w':World}{id k nb:Nat}{es es':List AV}{o:Option Nat}
  (hb:bs[id]? = some o) (hH:H[id]? = some (.gro k es)) (ok:(⟨H,bs,w,F⟩:Mem).OK) (h:cL w w') (hn:w.heap.size<=nb)
  (hm:es.length < es'.length) (hk:∀e∈es',e.n=k) {ys:Array Value} {T:TypeId} (hnew:w'.heap[nb]? = some (.cells ys T (0,0))) {y1 y2:List Value} (hy:ys.toList=y1++y2) (hr:RdL w (⟨H,bs,w,F⟩:Mem).M es' y1) :
  (⟨H.set id (.gro k es'),bs.set id (some nb),w',F⟩:Mem).OK:=by
 have ext:=Ext.gmove (F:=F) (es':=es') hb hH h hn hm;refine⟨λb o hf=>cu (ok.foreign b o hf) h.size,λb o hown hf=>ok.clear b o (ext.mm b o (ok.foreign b o hf) hown) hf,by have:=ok.len;simp at this ⊢;omega,?_,?_,λg hg=>ext.globAt (ok.glob g hg)⟩
 ·intro i o' x ho hx;dsimp only at ho hx;rcases dV hx with ⟨e,hx2⟩ | ⟨hne,hx⟩
  ·subst e hx2;rw[bW hb] at ho;cases ho;exact⟨hk,.inr ⟨nb,ys,T,rfl,hnew,y1,y2,hy,RdL.mono ext.keeps _ _ hr⟩⟩
  ·rw[aW hne] at ho;have hok:=ok.box i o' x ho hx;refine mE ext (λb' hb' hd=>?_) hok;subst hb';exact h.block b' (aAT hd hok)
 ·intro i j b' x y hi hj hx hy hxd hyd;dsimp only at hi hj hx hy;by_cases ei:id=i
  ·subst ei;rw[bW hb] at hi;cases hi;by_cases ej:id=j
   ·exact ej
   ·rw[aW ej] at hj hy;have:=bU ok (b:=nb) hj hy hyd;dsimp only at this;omega
  ·rw[aW ei] at hi hx;by_cases ej:id=j
   ·subst ej;rw[bW hb] at hj;cases hj;have:=bU ok (b:=nb) hi hx hxd;dsimp only at this;omega
   ·rw[aW ej] at hj hy;exact ok.apart i j b' x y hi hj hx hy hxd hyd
end Go.UK

open Nat renaming beq→bp,eq_of_beq_eq_true→ak
namespace Go.UK
open Go
set_option linter.all false
variable [bL]
inductive TK where
 | bool
 | int (k:IntKind)
 | str
 | ptr (e:TypeId)
 | sl (e:TypeId)
 | arr (len:Nat) (e:TypeId)
 | st (fs:List (Nat×TypeId))
 | other
structure TI where
 size:Nat
 bytes:Nat
 zero:AV
 kind:TK
def TK.fits : TK->TypeDesc->Prop
 | .bool,d=>d = .bool
 | .int k,d=>d = .int k
 | .str,d=>d = .string
 | .ptr e,d=>d = .pointer e
 | .sl e,d=>d = .slice e
 | .arr n e,d=>d = .array n e
 | .st l,d=>∃fs,d = .struct fs/\fs.toList.map (λf=>(f.offset,f.type))=l
 | .other,d=>(∀fs,d ≠ .struct fs)/\(∀n e,d ≠ .array n e)
def TK.agg : TK->Bool
 | .arr .. => true
 | .st _=>true
 | _=>false
mutual
def cst : AV->Option (List Value)
 | .v x=>match x.oneCell' with | true=>some [x] | false=>none
 | .st n ps=>match cstL ps with
  | some ys=>match bp ys.length n with | true=>some ys | false=>none
  | none=>none
 | .arr n k es=>match cstL es with
  | some ys=>match bp ys.length n&&es.all (λe=>bp e.n k) with | true=>some ys | false=>none
  | none=>none
 | _=>none
def cstL : List AV->Option (List Value)
 | []=>some []
 | p :: ps=>match cst p,cstL ps with
  | some y,some r=>some (y++r)
  | _,_=>none
end
mutual
theorem aEh{w:World}{M:Nat->Nat->Prop}:∀(x:AV) (ys:List Value),cst x=some ys->Rd w M x ys
 | .v x,ys,h=>by
  simp only[cst] at h;split at h
  ·rename_i hb;cases h;simp[Rd,hb]
  ·cases h
 | .st n ps,ys,h=>by
  simp only[cst] at h;split at h
  ·rename_i zs hz;split at h
   ·rename_i hb;cases h;simp only[Rd]
    exact⟨ak hb,cstL_rd ps _ hz⟩
   ·cases h
  ·cases h
 | .arr n k es,ys,h=>by
  simp only[cst] at h;split at h
  ·rename_i zs hz;split at h
   ·rename_i hb;cases h;simp only[Bool.and_eq_true,List.all_eq_true] at hb;simp only[Rd]
    exact⟨ak hb.1,λe he=>ak (hb.2 e he),cstL_rd es _ hz⟩
   ·cases h
  ·cases h
 | .sl ..,_,h=>by simp[cst] at h
 | .own ..,_,h=>by simp[cst] at h
 | .ref ..,_,h=>by simp[cst] at h
 | .bsl ..,_,h=>by simp[cst] at h
 | .im _,_,h=>by simp[cst] at h
 | .tup _,_,h=>by simp[cst] at h
 | .fn ..,_,h=>by simp[cst] at h
 | .ifc ..,_,h=>by simp[cst] at h
 | .mp _,_,h=>by simp[cst] at h
 | .it _,_,h=>by simp[cst] at h
 | .yld _,_,h=>by simp[cst] at h
 | .gro ..,_,h=>by simp[cst] at h
theorem cstL_rd{w:World}{M:Nat->Nat->Prop}:∀(ps:List AV) (ys:List Value),cstL ps=some ys->RdL w M ps ys
 | [],ys,h=>by simp only[cstL,Option.some.injEq] at h;simp[RdL,<- h]
 | p :: ps,ys,h=>by
  simp only[cstL] at h;split at h
  ·rename_i y r h1 h2;cases h;simp only[RdL]
   exact⟨y,r,rfl,aEh p _ h1,cstL_rd ps _ h2⟩
  ·cases h
end
theorem aBs{μ:Mem}(x:AV)(ys:List Value)(h:cst x=some ys):Rc μ x ys:=Rd.rc _ _ (aEh x ys h)
structure TyOK(P:Program)(t:TypeId)(i:TI):Prop where
 info:∃ti ys,P.info? t=some ti/\ti.size=i.size/\ti.bytes=i.bytes/\cst i.zero=some ys/\ti.zero=some (if i.kind.agg then .agg ys.toArray else ys.headD undef)/\ys.length=i.size
 kind:∃d,P.underlying t=some d/\i.kind.fits d
 shape:i.zero.isAgg=i.kind.agg
def TOK(P:Program)(T:TypeId->Option TI):Prop:=∀t i,T t=some i->TyOK P t i
section
variable {P:Program} {T:TypeId→Option TI} (hT:TOK P T) {t:TypeId} {i:TI} (h:T t=some i) (w:World)
include hT h
theorem lU : (sizeOf t).run P w = .ok i.size w:=by
 obtain⟨ti,ys,h1,h2,_⟩:=(hT t i h).info;simp[sizeOf,typeInfo,h1,h2]
theorem aEx : ∃ti,(typeInfo t).run P w = .ok ti w/\ti.bytes=i.bytes/\ti.size=i.size:=by
 obtain⟨ti,ys,h1,h2,h3,_⟩:=(hT t i h).info;exact⟨ti,by simp[typeInfo,h1],h3,h2⟩
theorem uL : ∃y ys,(zeroValue t).run P w = .ok y w/\cst i.zero=some ys/\y.cells=ys.toArray/\ys.length=i.size/\∀μ,Rv0 μ i.zero y:=by
 obtain⟨ti,ys,h1,h2,h3,h4,h5,h6⟩:=(hT t i h).info;have hs:=(hT t i h).shape;refine⟨_,ys,by simp[zeroValue,typeInfo,h1,h5];rfl,h4,?_,h6,?_⟩
 ·cases ha:i.kind.agg with
  | true=>simp[Value.cells]
  | false=>
   have hr:=aBs (μ:=⟨[],[],default,λ_ _=>False⟩) _ _ h4;obtain⟨y,e⟩:=hr.one (hs.trans ha)
   have h1:=Rc.oneCell _ _ hr y (by rw[e];simp)
   subst e;simp[aI2 h1]
 ·intro μ;have hr:=aBs (μ:=μ) _ _ h4;unfold Rv0;rw[hs]
  cases ha:i.kind.agg with
  | true=>exact⟨ys.toArray,rfl,by simpa using hr⟩
  | false=>
   have hag:i.zero.isAgg=false:=hs.trans ha;obtain⟨y,e⟩:=hr.one hag;subst e;simpa using hr
end
end Go.UK

