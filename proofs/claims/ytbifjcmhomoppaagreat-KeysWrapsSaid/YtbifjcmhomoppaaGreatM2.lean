/- A part of the proof: what the functions of the program compute. -/
import Derived.Test.YtbifjcmhomoppaaGreatM1
open List renaming length_append→ai,mem_cons→d8,not_mem_nil→d9,replicate→ak
open Option renaming bind_some→aa
namespace Go.UK
open Go Go.Proofs
set_option maxRecDepth 20000
set_option maxHeartbeats 2000000
set_option linter.all false
def tW(n:Int):List Int:=[U8 (shr .i64 n 0),U8 (shr .i64 n 8),U8 (shr .i64 n 16),U8 (shr .i64 n 24),U8 (shr .i64 n 32),U8 (shr .i64 n 40),U8 (shr .i64 n 48),U8 (shr .i64 n 56)]
theorem aTw(N K:Nat)(a:Int):uJ N 8 a (K+9) (ak 8 0) 0=some (tW a):=by kernel_rfl
theorem aQ2(N:Nat)(hN:20 < N)(a:Int):wD N a=some (tW a):=by
 obtain⟨K,rfl⟩:∃K,N=K+9:=⟨N - 9,by omega⟩
 unfold wD;rw[show mkO 1 8=some () from rfl,aa,aC]
 have e:uJ (K+9) ((8:Int).toNat:Int) a (K+9) (ak (8:Int).toNat 0) 0=some (tW a):=aTw (K+9) K a;rw[e]
 rfl
theorem zL(a:Int):aQ (tW a):=by
 intro x hx;simp only[tW,d8,d9,or_false] at hx;rcases hx with rfl | rfl | rfl | rfl | rfl | rfl | rfl | rfl <;> exact aIa _
theorem xQ(a:Int):(tW a).length=8:=rfl
theorem aE5(s:ByteArray):aQ (uZ s):=by
 intro x hx;obtain⟨b,_,rfl⟩:=List.mem_map.1 hx;exact⟨by omega,by have:=b.toNat_lt;omega⟩
theorem aDv(s:ByteArray):(uZ s).length=s.size:=by unfold uZ;rw[List.length_map];rfl
def aCQ(name:ByteArray)(ps:List (List Int)):List (List Int):=[tW (name.size:Int),uZ name]++ps.flatMap λp=>[tW (p.length:Int),p]
def derV(key:Vector Int 32)(name:ByteArray)(ps:List (List Int)):Vector Int 32:=aKu key.toList (aCQ name ps).flatten
theorem aMe(key:Vector Int 32)(name:ByteArray)(ps:List (List Int)):eH (derV key name ps):=aK2 _ _
theorem aDc : ∀(ls:List (List Int)) (m:Nat),(∀l∈ls,l.length<=m)->ls.flatten.length<=ls.length*m
 | [],m,_=>by simp
 | l :: ls,m,h=>by
  have h1:=h l (by simp)
  have h2:=aDc ls m (λx hx=>h x (by simp[hx]))
  simp only[List.flatten_cons,ai,List.length_cons,Nat.succ_mul]
  omega
theorem aBh{α β:Type}(f g:α->β):∀l:List α,(l.flatMap λp=>[f p,g p]).length=2*l.length
 | []=>rfl
 | a :: l=>by simp[aBh f g l];omega
theorem aSb(N:Nat)(hN:1000 < N)(ps:List (List Int))(hps:ps.length<=100):∀(k i:Nat) (s:List (List Int)),s.length<=100+2*i->i<=ps.length->ps.length - i < k->qJ N ps k s (i:Int)=some (s++(ps.drop i).flatMap λp=>[tW (p.length:Int),p])
 | 0,_,_,_,_,h=>by omega
 | k+1,i,s,hs,hi,hk=>by
  by_cases h:i < ps.length
  ·rw[qJ,aC,dt (by omega),cond_true,dJ h,aa,aQ2 N (by omega),aa,eF (by simp;omega),aa,cZ (by omega),aSb N hN ps hps k (i+1) _ (by simp;omega) (by omega) (by omega),List.drop_eq_getElem_cons h,List.flatMap_cons,List.append_assoc]
  ·obtain rfl:i=ps.length:=by omega
   rw[qJ,aC,df (by omega),cond_false,List.drop_length]
   simp
theorem aRH(N:Nat)(hN:1000 < N)(key:Vector Int 32)(hk:eH key)(name:ByteArray)(hn:name.size<=100)(ps:List (List Int))(hps:ps.length<=100)(hb:∀p∈ps,aQ p/\p.length<=100):wO N key name ps=some (derV key name ps):=by
 unfold wO;have h1:=aSb N hN ps hps N 0 [tW (name.size:Int),uZ name] (by simp) (by omega) (by omega)
 rw[List.drop_zero,show((0:Nat):Int)=0 from rfl] at h1;rw[aC,aQ2 N (by omega),aa,h1,aa,aME,aa]
 have hl:(aCQ name ps).length<=202:=by unfold aCQ;rw[ai,aBh];simp;omega
 have hm:∀p∈aCQ name ps,aQ p/\p.length<=100:=by
  intro p hp;unfold aCQ at hp;rcases List.mem_append.1 hp with hp | hp
  ·simp only[d8,d9,or_false] at hp;rcases hp with rfl | rfl
   ·exact⟨zL _,by rw[xQ];omega⟩
   ·exact⟨aE5 _,by rw[aDv];exact hn⟩
  ·obtain⟨q,hq,hp⟩:=List.mem_flatMap.1 hp;simp only[d8,d9,or_false] at hp;rcases hp with rfl | rfl
   ·exact⟨zL _,by rw[xQ];omega⟩
   ·exact hb _ hq
 have hf:=aDc (aCQ name ps) 100 (λp hp=>(hm p hp).2)
 have:=hmacP N (by omega) key.toList (aCQ name ps) hk (by simp;omega) (by simp) (λp hp=>(hm p hp).1) (λp hp=>by have:=(hm p hp).2;omega) (by omega) (by omega) (by omega)
 unfold aCQ at this;rw[this,aa]
 rfl
def aMr(m:Vector Int 32)(id epoch:Int):Vector Int 32:=derV m aLW [leB 2 (cF .u64 (U64 id) 65535),leB 4 (cF .u64 (U64 epoch) 4294967295)]
theorem aMQ(m:Vector Int 32)(id epoch:Int):eH (aMr m id epoch):=aMe _ _ _
theorem aN5(a:Int)(n:Nat)(h:n < 18446744073709551616):0<=cF .u64 a (n:Int)/\cF .u64 a (n:Int)<=(n:Int):=by
 have e:cF .u64 a (n:Int)=(((U64 a).toNat &&& n:Nat):Int):=by
  have h1:=aJ0 (a:=U64 a) (b:=(n:Int)) (aCP a) (aFk a) (by omega) (by omega)
  rw[Int.toNat_natCast] at h1;rw[<- h1]
  unfold cF;congr 2;rw[aIG]
  congr 1;apply BitVec.eq_of_toNat_eq;simp only[BitVec.toNat_and,BitVec.toNat_ofInt]
  rw[show(((2 ^ IntKind.u64.bits:Nat):Int))=18446744073709551616 from rfl,Int.emod_emod]
 rw[e]
 have:(U64 a).toNat &&& n<=n:=Nat.and_le_right;omega
theorem aJz(N:Nat)(hN:20 < N)(b:List Int)(hb:b.length<=1000)(w:Nat)(hw0:1<=w)(hw:w<=8)(x:Int)(h0:0<=x)(h1:x < cH w):bO N b (w:Int) [x]=some (b++leB w x,0):=by
 have hp:=aGs hw;rw[aOX N b w hw0 hw [x] (by intro y hy;simp at hy;subst hy;omega) (by omega) (by simp) (by omega) (by simp;omega)]
 unfold aI1;rw[show List.any [x] (big w)=false by simp[big,h1],cond_false]
 simp
theorem keyP(N:Nat)(hN:1000 < N)(m:Vector Int 32)(hm:eH m)(id epoch:Int):vW N m id epoch=some (aMr m id epoch):=by
 unfold vW;have b1:=aN5 (U64 id) 65535 (by decide)
 have b2:=aN5 (U64 epoch) 4294967295 (by decide)
 rw[show((65535:Nat):Int)=65535 from rfl] at b1;rw[show((4294967295:Nat):Int)=4294967295 from rfl] at b2;have p1:=aJz N (by omega) [] (by simp) 2 (by decide) (by decide) _ b1.1 (by rw[show cH 2=65536 from rfl];omega)
 have p2:=aJz N (by omega) [] (by simp) 4 (by decide) (by decide) _ b2.1 (by rw[show cH 4=4294967296 from rfl];omega)
 rw[aC,show(2:Int)=((2:Nat):Int) from rfl,p1,aa,aC,show(4:Int)=((4:Nat):Int) from rfl,p2,aa]
 dsimp only[List.nil_append]
 rw[aRH N hN m hm aLW (by decide) _ (by simp) (by intro p hp;simp at hp;rcases hp with rfl | rfl <;> exact⟨pG _ _,by rw[iI];omega⟩)]
 rfl
end Go.UK
