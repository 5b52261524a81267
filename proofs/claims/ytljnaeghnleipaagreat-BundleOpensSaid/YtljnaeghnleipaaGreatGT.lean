/- A part of the proof: what the functions of the program compute. -/
import Derived.Test.YtljnaeghnleipaaGreatLib14
import Derived.Test.YtljnaeghnleipaaGreatChecked
open List renaming replicate→ap
namespace Go.UK
open Go Go.Proofs
set_option maxRecDepth 20000
set_option maxHeartbeats 40000000
set_option linter.all false
instance : cC:=⟨⟨[],[]⟩⟩
structure aN where
 gh:(Vector Int 3)
def aN.enc(s:aN):AV := .st 3 [(eA 3 1 k64 s.gh)]
structure aP where
 gT:aN
 gA:Bool
 gr0:Int
 gr1:Int
 gs0:Int
 gs1:Int
 gN:(List Int)
 gO:Int
def aP.enc(s:aP):AV := .st 10 [(aN.enc s.gT),(eB s.gA),(k64 s.gr0),(k64 s.gr1),(k64 s.gs0),(k64 s.gs1),(eL 1 k8 s.gN),(j64 s.gO)]
structure aA where
 gb:(List Int)
 ge:Int
 gA:Bool
def aA.enc(s:aA):AV := .st 3 [(eL 1 k8 s.gb),(j64 s.ge),(eB s.gA)]
structure aE where
 gId:Int
 gC:Int
 gA3:Int
 gA1:(Vector Int 8)
 gA2:Int
 gTo:Int
 gR:Int
 gA0:Int
def aE.enc(s:aE):AV := .st 15 [(k64 s.gId),(j64 s.gC),(k32 s.gA3),(eA 8 1 k8 s.gA1),(k32 s.gA2),(k32 s.gTo),(j64 s.gR),(j64 s.gA0)]
structure aD where
 gB:(List Int)
 gAt:Int
 gE:Int
def aD.enc(s:aD):AV := .st 3 [(eL 1 k8 s.gB),(j64 s.gAt),(j64 s.gE)]
structure aB where
 gX:Int
 gY:Int
 gZ:Int
def aB.enc(s:aB):AV := .st 3 [(j64 s.gX),(j64 s.gY),(j64 s.gZ)]
structure aK where
 gG:(List aB)
 gL:(List (Vector Int 2))
 gJ:(List (Vector Int 3))
def aK.enc(s:aK):AV := .st 3 [(eL 3 aB.enc s.gG),(eL 2 (eA 2 1 j64) s.gL),(eL 3 (eA 3 1 j64) s.gJ)]
structure aH where
 gM:Int
 gK:(List (Vector Int 3))
def aH.enc(s:aH):AV := .st 2 [(j64 s.gM),(eL 3 (eA 3 1 j64) s.gK)]
structure aG where
 gC:Int
 gF:(Vector Int 3)
 gW:Int
def aG.enc(s:aG):AV := .st 5 [(j64 s.gC),(eA 3 1 j64 s.gF),(j64 s.gW)]
structure aL where
 gC:Int
 gF:(Vector Int 3)
 gAt:aB
 gU:aB
 gV:aB
def aL.enc(s:aL):AV := .st 13 [(j64 s.gC),(eA 3 1 j64 s.gF),(aB.enc s.gAt),(aB.enc s.gU),(aB.enc s.gV)]
structure aI where
 gC:Int
 gP:aK
 gQ:aH
 gI:aG
 gD:aL
def aI.enc(s:aI):AV := .st 24 [(j64 s.gC),(aK.enc s.gP),(aH.enc s.gQ),(aG.enc s.gI),(aL.enc s.gD)]
def tbl : TypeId->Option TI
 | 2=>some ⟨1,8,(.v (.int .i64 0)),.int .i64⟩
 | 3=>some ⟨1,8,(.v (.int .i64 0)),.int .i64⟩
 | 4=>some ⟨1,1,(.v (.bool false)),.bool⟩
 | 5=>some ⟨1,1,(.v (.int .u8 0)),.int .u8⟩
 | 9=>some ⟨1,16,(.v (.string (ByteArray.mk #[]))),.str⟩
 | 22=>some ⟨32,32,(.arr 32 1 (ap 32 (.v (.int .u8 0)))),.arr 32 5⟩
 | 23=>some ⟨8,8,(.arr 8 1 (ap 8 (.v (.int .u8 0)))),.arr 8 5⟩
 | 24=>some ⟨1,8,(.v (.int .u64 0)),.int .u64⟩
 | 25=>some ⟨1,4,(.v (.int .u32 0)),.int .u32⟩
 | 27=>some ⟨15,56,(.st 15 [(.v (.int .u64 0)),(.v (.int .i64 0)),(.v (.int .u32 0)),(.arr 8 1 (ap 8 (.v (.int .u8 0)))),(.v (.int .u32 0)),(.v (.int .u32 0)),(.v (.int .i64 0)),(.v (.int .i64 0))]),.st [(0,24),(1,3),(2,25),(3,23),(11,25),(12,25),(13,3),(14,3)]⟩
 | 30=>some ⟨1,24,(.v (.slice none 0 0)),.sl 41⟩
 | 31=>some ⟨1,24,(.v (.slice none 0 0)),.sl 136⟩
 | 32=>some ⟨1,24,(.v (.slice none 0 0)),.sl 37⟩
 | 34=>some ⟨3,72,(.st 3 [(.v (.slice none 0 0)),(.v (.slice none 0 0)),(.v (.slice none 0 0))]),.st [(0,30),(1,31),(2,32)]⟩
 | 36=>some ⟨2,32,(.st 2 [(.v (.int .i64 0)),(.v (.slice none 0 0))]),.st [(0,3),(1,32)]⟩
 | 37=>some ⟨3,24,(.arr 3 1 (ap 3 (.v (.int .i64 0)))),.arr 3 3⟩
 | 39=>some ⟨5,40,(.st 5 [(.v (.int .i64 0)),(.arr 3 1 (ap 3 (.v (.int .i64 0)))),(.v (.int .i64 0))]),.st [(0,3),(1,37),(4,3)]⟩
 | 41=>some ⟨3,24,(.st 3 [(.v (.int .i64 0)),(.v (.int .i64 0)),(.v (.int .i64 0))]),.st [(0,3),(1,3),(2,3)]⟩
 | 43=>some ⟨13,104,(.st 13 [(.v (.int .i64 0)),(.arr 3 1 (ap 3 (.v (.int .i64 0)))),(.st 3 [(.v (.int .i64 0)),(.v (.int .i64 0)),(.v (.int .i64 0))]),(.st 3 [(.v (.int .i64 0)),(.v (.int .i64 0)),(.v (.int .i64 0))]),(.st 3 [(.v (.int .i64 0)),(.v (.int .i64 0)),(.v (.int .i64 0))])]),.st [(0,3),(1,37),(4,41),(7,41),(10,41)]⟩
 | 45=>some ⟨24,256,(.st 24 [(.v (.int .i64 0)),(.st 3 [(.v (.slice none 0 0)),(.v (.slice none 0 0)),(.v (.slice none 0 0))]),(.st 2 [(.v (.int .i64 0)),(.v (.slice none 0 0))]),(.st 5 [(.v (.int .i64 0)),(.arr 3 1 (ap 3 (.v (.int .i64 0)))),(.v (.int .i64 0))]),(.st 13 [(.v (.int .i64 0)),(.arr 3 1 (ap 3 (.v (.int .i64 0)))),(.st 3 [(.v (.int .i64 0)),(.v (.int .i64 0)),(.v (.int .i64 0))]),(.st 3 [(.v (.int .i64 0)),(.v (.int .i64 0)),(.v (.int .i64 0))]),(.st 3 [(.v (.int .i64 0)),(.v (.int .i64 0)),(.v (.int .i64 0))])])]),.st [(0,3),(1,34),(4,36),(6,39),(11,43)]⟩
 | 47=>some ⟨1,24,(.v (.slice none 0 0)),.sl 5⟩
 | 48=>some ⟨1,8,(.v (.int .i64 0)),.int .i64⟩
 | 54=>some ⟨12,12,(.arr 12 1 (ap 12 (.v (.int .u8 0)))),.arr 12 5⟩
 | 75=>some ⟨1,8,(.v .nilFunc),.other⟩
 | 86=>some ⟨1,8,(.v (.pointer none)),.ptr 122⟩
 | 100=>some ⟨1,24,(.v (.slice none 0 0)),.sl 47⟩
 | 103=>some ⟨16,16,(.arr 16 1 (ap 16 (.v (.int .u8 0)))),.arr 16 5⟩
 | 106=>some ⟨1,24,(.v (.slice none 0 0)),.sl 24⟩
 | 113=>some ⟨1,8,(.st 1 [(.v (.pointer none))]),.st [(0,86)]⟩
 | 120=>some ⟨3,40,(.st 3 [(.v (.slice none 0 0)),(.v (.int .i64 0)),(.v (.int .i64 0))]),.st [(0,47),(1,3),(2,3)]⟩
 | 122=>some ⟨3,40,(.st 3 [(.v (.slice none 0 0)),(.v (.int .i64 0)),(.v (.bool false))]),.st [(0,47),(1,48),(2,4)]⟩
 | 123=>some ⟨1,8,(.st 1 [(.v (.pointer none))]),.st [(0,86)]⟩
 | 136=>some ⟨2,16,(.arr 2 1 (ap 2 (.v (.int .i64 0)))),.arr 2 3⟩
 | 139=>some ⟨1,24,(.v (.slice none 0 0)),.sl 3⟩
 | 154=>some ⟨1,8,(.st 1 [(.v (.pointer none))]),.st [(0,86)]⟩
 | 162=>some ⟨5,40,(.arr 5 1 (ap 5 (.v (.int .i64 0)))),.arr 5 3⟩
 | 163=>some ⟨64,64,(.arr 64 1 (ap 64 (.v (.int .u8 0)))),.arr 64 5⟩
 | 165=>some ⟨1,8,(.v (.pointer none)),.ptr 198⟩
 | 172=>some ⟨17,17,(.arr 17 1 (ap 17 (.v (.int .u8 0)))),.arr 17 5⟩
 | 174=>some ⟨1,24,(.v (.slice none 0 0)),.sl 172⟩
 | 178=>some ⟨1,8,(.v (.int .u64 0)),.int .u64⟩
 | 187=>some ⟨16,64,(.arr 16 1 (ap 16 (.v (.int .u32 0)))),.arr 16 25⟩
 | 189=>some ⟨4,32,(.arr 4 1 (ap 4 (.v (.int .i64 0)))),.arr 4 3⟩
 | 190=>some ⟨32,256,(.arr 32 4 (ap 8 (.arr 4 1 (ap 4 (.v (.int .i64 0)))))),.arr 8 189⟩
 | 191=>some ⟨4,16,(.arr 4 1 (ap 4 (.v (.int .u32 0)))),.arr 4 25⟩
 | 194=>some ⟨3,24,(.arr 3 1 (ap 3 (.v (.int .u64 0)))),.arr 3 24⟩
 | 196=>some ⟨3,24,(.st 3 [(.arr 3 1 (ap 3 (.v (.int .u64 0))))]),.st [(0,194)]⟩
 | 198=>some ⟨10,96,(.st 10 [(.st 3 [(.arr 3 1 (ap 3 (.v (.int .u64 0))))]),(.v (.bool false)),(.v (.int .u64 0)),(.v (.int .u64 0)),(.v (.int .u64 0)),(.v (.int .u64 0)),(.v (.slice none 0 0)),(.v (.int .i64 0))]),.st [(0,196),(3,4),(4,24),(5,24),(6,24),(7,24),(8,47),(9,3)]⟩
 | _=>none
theorem hT : TOK Tryz.prog tbl:=by
 intro t i h;unfold tbl at h;split at h
 ·cases h;exact⟨⟨_,_,rfl,rfl,rfl,rfl,rfl,rfl⟩,⟨_,rfl,rfl⟩,rfl⟩
 ·cases h;exact⟨⟨_,_,rfl,rfl,rfl,rfl,rfl,rfl⟩,⟨_,rfl,rfl⟩,rfl⟩
 ·cases h;exact⟨⟨_,_,rfl,rfl,rfl,rfl,rfl,rfl⟩,⟨_,rfl,rfl⟩,rfl⟩
 ·cases h;exact⟨⟨_,_,rfl,rfl,rfl,rfl,rfl,rfl⟩,⟨_,rfl,rfl⟩,rfl⟩
 ·cases h;exact⟨⟨_,_,rfl,rfl,rfl,rfl,rfl,rfl⟩,⟨_,rfl,rfl⟩,rfl⟩
 ·cases h;exact⟨⟨_,_,rfl,rfl,rfl,rfl,rfl,rfl⟩,⟨_,rfl,rfl⟩,rfl⟩
 ·cases h;exact⟨⟨_,_,rfl,rfl,rfl,rfl,rfl,rfl⟩,⟨_,rfl,rfl⟩,rfl⟩
 ·cases h;exact⟨⟨_,_,rfl,rfl,rfl,rfl,rfl,rfl⟩,⟨_,rfl,rfl⟩,rfl⟩
 ·cases h;exact⟨⟨_,_,rfl,rfl,rfl,rfl,rfl,rfl⟩,⟨_,rfl,rfl⟩,rfl⟩
 ·cases h;exact⟨⟨_,_,rfl,rfl,rfl,rfl,rfl,rfl⟩,⟨_,rfl,⟨_,rfl,rfl⟩⟩,rfl⟩
 ·cases h;exact⟨⟨_,_,rfl,rfl,rfl,rfl,rfl,rfl⟩,⟨_,rfl,rfl⟩,rfl⟩
 ·cases h;exact⟨⟨_,_,rfl,rfl,rfl,rfl,rfl,rfl⟩,⟨_,rfl,rfl⟩,rfl⟩
 ·cases h;exact⟨⟨_,_,rfl,rfl,rfl,rfl,rfl,rfl⟩,⟨_,rfl,rfl⟩,rfl⟩
 ·cases h;exact⟨⟨_,_,rfl,rfl,rfl,rfl,rfl,rfl⟩,⟨_,rfl,⟨_,rfl,rfl⟩⟩,rfl⟩
 ·cases h;exact⟨⟨_,_,rfl,rfl,rfl,rfl,rfl,rfl⟩,⟨_,rfl,⟨_,rfl,rfl⟩⟩,rfl⟩
 ·cases h;exact⟨⟨_,_,rfl,rfl,rfl,rfl,rfl,rfl⟩,⟨_,rfl,rfl⟩,rfl⟩
 ·cases h;exact⟨⟨_,_,rfl,rfl,rfl,rfl,rfl,rfl⟩,⟨_,rfl,⟨_,rfl,rfl⟩⟩,rfl⟩
 ·cases h;exact⟨⟨_,_,rfl,rfl,rfl,rfl,rfl,rfl⟩,⟨_,rfl,⟨_,rfl,rfl⟩⟩,rfl⟩
 ·cases h;exact⟨⟨_,_,rfl,rfl,rfl,rfl,rfl,rfl⟩,⟨_,rfl,⟨_,rfl,rfl⟩⟩,rfl⟩
 ·cases h;exact⟨⟨_,_,rfl,rfl,rfl,rfl,rfl,rfl⟩,⟨_,rfl,⟨_,rfl,rfl⟩⟩,rfl⟩
 ·cases h;exact⟨⟨_,_,rfl,rfl,rfl,rfl,rfl,rfl⟩,⟨_,rfl,rfl⟩,rfl⟩
 ·cases h;exact⟨⟨_,_,rfl,rfl,rfl,rfl,rfl,rfl⟩,⟨_,rfl,rfl⟩,rfl⟩
 ·cases h;exact⟨⟨_,_,rfl,rfl,rfl,rfl,rfl,rfl⟩,⟨_,rfl,rfl⟩,rfl⟩
 ·cases h;exact⟨⟨_,_,rfl,rfl,rfl,rfl,rfl,rfl⟩,⟨_,rfl,(by unfold TK.fits;exact⟨(by intro fs h;cases h),(by intro n e h;cases h)⟩)⟩,rfl⟩
 ·cases h;exact⟨⟨_,_,rfl,rfl,rfl,rfl,rfl,rfl⟩,⟨_,rfl,rfl⟩,rfl⟩
 ·cases h;exact⟨⟨_,_,rfl,rfl,rfl,rfl,rfl,rfl⟩,⟨_,rfl,rfl⟩,rfl⟩
 ·cases h;exact⟨⟨_,_,rfl,rfl,rfl,rfl,rfl,rfl⟩,⟨_,rfl,rfl⟩,rfl⟩
 ·cases h;exact⟨⟨_,_,rfl,rfl,rfl,rfl,rfl,rfl⟩,⟨_,rfl,rfl⟩,rfl⟩
 ·cases h;exact⟨⟨_,_,rfl,rfl,rfl,rfl,rfl,rfl⟩,⟨_,rfl,⟨_,rfl,rfl⟩⟩,rfl⟩
 ·cases h;exact⟨⟨_,_,rfl,rfl,rfl,rfl,rfl,rfl⟩,⟨_,rfl,⟨_,rfl,rfl⟩⟩,rfl⟩
 ·cases h;exact⟨⟨_,_,rfl,rfl,rfl,rfl,rfl,rfl⟩,⟨_,rfl,⟨_,rfl,rfl⟩⟩,rfl⟩
 ·cases h;exact⟨⟨_,_,rfl,rfl,rfl,rfl,rfl,rfl⟩,⟨_,rfl,⟨_,rfl,rfl⟩⟩,rfl⟩
 ·cases h;exact⟨⟨_,_,rfl,rfl,rfl,rfl,rfl,rfl⟩,⟨_,rfl,rfl⟩,rfl⟩
 ·cases h;exact⟨⟨_,_,rfl,rfl,rfl,rfl,rfl,rfl⟩,⟨_,rfl,rfl⟩,rfl⟩
 ·cases h;exact⟨⟨_,_,rfl,rfl,rfl,rfl,rfl,rfl⟩,⟨_,rfl,⟨_,rfl,rfl⟩⟩,rfl⟩
 ·cases h;exact⟨⟨_,_,rfl,rfl,rfl,rfl,rfl,rfl⟩,⟨_,rfl,rfl⟩,rfl⟩
 ·cases h;exact⟨⟨_,_,rfl,rfl,rfl,rfl,rfl,rfl⟩,⟨_,rfl,rfl⟩,rfl⟩
 ·cases h;exact⟨⟨_,_,rfl,rfl,rfl,rfl,rfl,rfl⟩,⟨_,rfl,rfl⟩,rfl⟩
 ·cases h;exact⟨⟨_,_,rfl,rfl,rfl,rfl,rfl,rfl⟩,⟨_,rfl,rfl⟩,rfl⟩
 ·cases h;exact⟨⟨_,_,rfl,rfl,rfl,rfl,rfl,rfl⟩,⟨_,rfl,rfl⟩,rfl⟩
 ·cases h;exact⟨⟨_,_,rfl,rfl,rfl,rfl,rfl,rfl⟩,⟨_,rfl,rfl⟩,rfl⟩
 ·cases h;exact⟨⟨_,_,rfl,rfl,rfl,rfl,rfl,rfl⟩,⟨_,rfl,rfl⟩,rfl⟩
 ·cases h;exact⟨⟨_,_,rfl,rfl,rfl,rfl,rfl,rfl⟩,⟨_,rfl,rfl⟩,rfl⟩
 ·cases h;exact⟨⟨_,_,rfl,rfl,rfl,rfl,rfl,rfl⟩,⟨_,rfl,rfl⟩,rfl⟩
 ·cases h;exact⟨⟨_,_,rfl,rfl,rfl,rfl,rfl,rfl⟩,⟨_,rfl,rfl⟩,rfl⟩
 ·cases h;exact⟨⟨_,_,rfl,rfl,rfl,rfl,rfl,rfl⟩,⟨_,rfl,rfl⟩,rfl⟩
 ·cases h;exact⟨⟨_,_,rfl,rfl,rfl,rfl,rfl,rfl⟩,⟨_,rfl,⟨_,rfl,rfl⟩⟩,rfl⟩
 ·cases h;exact⟨⟨_,_,rfl,rfl,rfl,rfl,rfl,rfl⟩,⟨_,rfl,⟨_,rfl,rfl⟩⟩,rfl⟩
 ·cases h
theorem hmo : Tryz.prog.follows .mixedOrders=true:=by rfl
theorem tt3 : tbl 3=some ⟨1,8,(.v (.int .i64 0)),.int .i64⟩:=rfl
theorem tt5 : tbl 5=some ⟨1,1,(.v (.int .u8 0)),.int .u8⟩:=rfl
theorem tt23 : tbl 23=some ⟨8,8,(.arr 8 1 (ap 8 (.v (.int .u8 0)))),.arr 8 5⟩:=rfl
theorem tt24 : tbl 24=some ⟨1,8,(.v (.int .u64 0)),.int .u64⟩:=rfl
theorem tt25 : tbl 25=some ⟨1,4,(.v (.int .u32 0)),.int .u32⟩:=rfl
theorem tt37 : tbl 37=some ⟨3,24,(.arr 3 1 (ap 3 (.v (.int .i64 0)))),.arr 3 3⟩:=rfl
theorem tt41 : tbl 41=some ⟨3,24,(.st 3 [(.v (.int .i64 0)),(.v (.int .i64 0)),(.v (.int .i64 0))]),.st [(0,3),(1,3),(2,3)]⟩:=rfl
theorem aAk : EqT Tryz.prog 3 (α:=Int) j64 (λa b=>a==b) 1:=
 aE9 Tryz.underlying3
def aB.eq(a b:aB):Bool:=(λa b=>a==b) a.gX b.gX&&((λa b=>a==b) a.gY b.gY&&((λa b=>a==b) a.gZ b.gZ&&true))
theorem uH : EqT Tryz.prog 41 (α:=aB) aB.enc aB.eq 2:=
 aAT (N:=3) Tryz.underlying41 (by kernel_rfl) (λ_=>rfl) (λa b=>mG hT a.gX b.gX (by decide) rfl tt3 rfl (λ_=>rfl) (λ_=>rfl) (λ_=>rfl) aAk (by decide) (mG hT a.gY b.gY (by decide) rfl tt3 rfl (λ_=>rfl) (λ_=>rfl) (λ_=>rfl) aAk (by decide) (mG hT a.gZ b.gZ (by decide) rfl tt3 rfl (λ_=>rfl) (λ_=>rfl) (λ_=>rfl) aAk (by decide) (aFE))))
theorem aFy : EqT Tryz.prog 37 (α:=(Vector Int 3)) (eA 3 1 j64) (eqV (λa b=>a==b)) 2:=
 aDx (M:=3) hT tt3 Tryz.underlying37 (by kernel_rfl) (λ_=>rfl) rfl (λ_=>rfl) (λ_=>rfl) aAk
def aG.eq(a b:aG):Bool:=(λa b=>a==b) a.gC b.gC&&((eqV (λa b=>a==b)) a.gF b.gF&&((λa b=>a==b) a.gW b.gW&&true))
theorem aF2 : EqT Tryz.prog 39 (α:=aG) aG.enc aG.eq 3:=
 aAT (N:=5) Tryz.underlying39 (by kernel_rfl) (λ_=>rfl) (λa b=>mG hT a.gC b.gC (by decide) rfl tt3 rfl (λ_=>rfl) (λ_=>rfl) (λ_=>rfl) aAk (by decide) (mG hT a.gF b.gF (by decide) rfl tt37 rfl (λ_=>rfl) (λ_=>rfl) (λ_=>rfl) aFy (by decide) (mG hT a.gW b.gW (by decide) rfl tt3 rfl (λ_=>rfl) (λ_=>rfl) (λ_=>rfl) aAk (by decide) (aFE))))
def aL.eq(a b:aL):Bool:=(λa b=>a==b) a.gC b.gC&&((eqV (λa b=>a==b)) a.gF b.gF&&(aB.eq a.gAt b.gAt&&(aB.eq a.gU b.gU&&(aB.eq a.gV b.gV&&true))))
theorem aGS : EqT Tryz.prog 43 (α:=aL) aL.enc aL.eq 3:=
 aAT (N:=13) Tryz.underlying43 (by kernel_rfl) (λ_=>rfl) (λa b=>mG hT a.gC b.gC (by decide) rfl tt3 rfl (λ_=>rfl) (λ_=>rfl) (λ_=>rfl) aAk (by decide) (mG hT a.gF b.gF (by decide) rfl tt37 rfl (λ_=>rfl) (λ_=>rfl) (λ_=>rfl) aFy (by decide) (mG hT a.gAt b.gAt (by decide) rfl tt41 rfl (λ_=>rfl) (λ_=>rfl) (λ_=>rfl) uH (by decide) (mG hT a.gU b.gU (by decide) rfl tt41 rfl (λ_=>rfl) (λ_=>rfl) (λ_=>rfl) uH (by decide) (mG hT a.gV b.gV (by decide) rfl tt41 rfl (λ_=>rfl) (λ_=>rfl) (λ_=>rfl) uH (by decide) (aFE))))))
theorem aLW : EqT Tryz.prog 136 (α:=(Vector Int 2)) (eA 2 1 j64) (eqV (λa b=>a==b)) 2:=
 aDx (M:=2) hT tt3 Tryz.underlying136 (by kernel_rfl) (λ_=>rfl) rfl (λ_=>rfl) (λ_=>rfl) aAk
theorem aRe : EqT Tryz.prog 24 (α:=Int) k64 (λa b=>a==b) 1:=
 aE9 Tryz.underlying24
theorem aKZ : EqT Tryz.prog 25 (α:=Int) k32 (λa b=>a==b) 1:=
 aE9 Tryz.underlying25
theorem eqT_5 : EqT Tryz.prog 5 (α:=Int) k8 (λa b=>a==b) 1:=
 aE9 Tryz.underlying5
theorem aSG : EqT Tryz.prog 23 (α:=(Vector Int 8)) (eA 8 1 k8) (eqV (λa b=>a==b)) 2:=
 aDx (M:=8) hT tt5 Tryz.underlying23 (by kernel_rfl) (λ_=>rfl) rfl (λ_=>rfl) (λ_=>rfl) eqT_5
def aE.eq(a b:aE):Bool:=(λa b=>a==b) a.gId b.gId&&((λa b=>a==b) a.gC b.gC&&((λa b=>a==b) a.gA3 b.gA3&&((eqV (λa b=>a==b)) a.gA1 b.gA1&&((λa b=>a==b) a.gA2 b.gA2&&((λa b=>a==b) a.gTo b.gTo&&((λa b=>a==b) a.gR b.gR&&((λa b=>a==b) a.gA0 b.gA0&&true)))))))
theorem aID : EqT Tryz.prog 27 (α:=aE) aE.enc aE.eq 3:=
 aAT (N:=15) Tryz.underlying27 (by kernel_rfl) (λ_=>rfl) (λa b=>mG hT a.gId b.gId (by decide) rfl tt24 rfl (λ_=>rfl) (λ_=>rfl) (λ_=>rfl) aRe (by decide) (mG hT a.gC b.gC (by decide) rfl tt3 rfl (λ_=>rfl) (λ_=>rfl) (λ_=>rfl) aAk (by decide) (mG hT a.gA3 b.gA3 (by decide) rfl tt25 rfl (λ_=>rfl) (λ_=>rfl) (λ_=>rfl) aKZ (by decide) (mG hT a.gA1 b.gA1 (by decide) rfl tt23 rfl (λ_=>rfl) (λ_=>rfl) (λ_=>rfl) aSG (by decide) (mG hT a.gA2 b.gA2 (by decide) rfl tt25 rfl (λ_=>rfl) (λ_=>rfl) (λ_=>rfl) aKZ (by decide) (mG hT a.gTo b.gTo (by decide) rfl tt25 rfl (λ_=>rfl) (λ_=>rfl) (λ_=>rfl) aKZ (by decide) (mG hT a.gR b.gR (by decide) rfl tt3 rfl (λ_=>rfl) (λ_=>rfl) (λ_=>rfl) aAk (by decide) (mG hT a.gA0 b.gA0 (by decide) rfl tt3 rfl (λ_=>rfl) (λ_=>rfl) (λ_=>rfl) aAk (by decide) (aFE)))))))))
def aLt : ByteArray:=(ByteArray.mk #[101,120,112,97,110,100,32,51,50,45,98,121,116,101,32,107])
abbrev zG : AV:=(.st 15 [(k64 0),(j64 0),(k32 0),(eA 8 1 k8 (Vector.replicate 8 0)),(k32 0),(k32 0),(j64 0),(j64 0)])
abbrev aIl : AV:=(.arr 32 4 [(.arr 4 1 [(j64 0),(j64 4),(j64 8),(j64 12)]),(.arr 4 1 [(j64 1),(j64 5),(j64 9),(j64 13)]),(.arr 4 1 [(j64 2),(j64 6),(j64 10),(j64 14)]),(.arr 4 1 [(j64 3),(j64 7),(j64 11),(j64 15)]),(.arr 4 1 [(j64 0),(j64 5),(j64 10),(j64 15)]),(.arr 4 1 [(j64 1),(j64 6),(j64 11),(j64 12)]),(.arr 4 1 [(j64 2),(j64 7),(j64 8),(j64 13)]),(.arr 4 1 [(j64 3),(j64 4),(j64 9),(j64 14)])])
end Go.UK
