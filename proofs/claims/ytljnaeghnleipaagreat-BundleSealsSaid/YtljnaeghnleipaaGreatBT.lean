/- A part of the proof: what the functions of the program compute. -/
import Derived.Test.YtljnaeghnleipaaGreatLib14
import Derived.Test.YtljnaeghnleipaaGreatChecked
open List renaming replicate→am
namespace Go.UK
open Go Go.Proofs
set_option maxRecDepth 20000
set_option maxHeartbeats 40000000
set_option linter.all false
instance : bS:=⟨⟨[],[]⟩⟩
structure aD where
 gId:Int
 gC:Int
 gA2:Int
 gR:(Vector Int 8)
 gT:Int
 gTo:Int
 gP:Int
 gA3:Int
def aD.enc(s:aD):AV := .st 15 [(k64 s.gId),(j64 s.gC),(k32 s.gA2),(eA 8 1 k8 s.gR),(k32 s.gT),(k32 s.gTo),(j64 s.gP),(j64 s.gA3)]
structure bU where
 gA5:(Vector Int 32)
 gA4:(Vector Int 8)
 gM:aD
def bU.enc(s:bU):AV := .st 55 [(eA 32 1 k8 s.gA5),(eA 8 1 k8 s.gA4),(aD.enc s.gM)]
structure aB where
 gX:Int
 gY:Int
 gZ:Int
def aB.enc(s:aB):AV := .st 3 [(j64 s.gX),(j64 s.gY),(j64 s.gZ)]
structure aM where
 gF:(List aB)
 gJ:(List (Vector Int 2))
 gI:(List (Vector Int 3))
def aM.enc(s:aM):AV := .st 3 [(eL 3 aB.enc s.gF),(eL 2 (eA 2 1 j64) s.gJ),(eL 3 (eA 3 1 j64) s.gI)]
structure aI where
 gN:Int
 gK:(List (Vector Int 3))
def aI.enc(s:aI):AV := .st 2 [(j64 s.gN),(eL 3 (eA 3 1 j64) s.gK)]
structure aF where
 gC:Int
 gE:(Vector Int 3)
 gA1:Int
def aF.enc(s:aF):AV := .st 5 [(j64 s.gC),(eA 3 1 j64 s.gE),(j64 s.gA1)]
structure aJ where
 gC:Int
 gE:(Vector Int 3)
 gAt:aB
 gU:aB
 gV:aB
def aJ.enc(s:aJ):AV := .st 13 [(j64 s.gC),(eA 3 1 j64 s.gE),(aB.enc s.gAt),(aB.enc s.gU),(aB.enc s.gV)]
structure aE where
 gC:Int
 gQ:aM
 gW:aI
 gG:aF
 gD:aJ
def aE.enc(s:aE):AV := .st 24 [(j64 s.gC),(aM.enc s.gQ),(aI.enc s.gW),(aF.enc s.gG),(aJ.enc s.gD)]
structure aH where
 gh:(Vector Int 3)
def aH.enc(s:aH):AV := .st 3 [(eA 3 1 k64 s.gh)]
structure aN where
 gA0:aH
 gA:Bool
 gr0:Int
 gr1:Int
 gs0:Int
 gs1:Int
 gL:(List Int)
 gO:Int
def aN.enc(s:aN):AV := .st 10 [(aH.enc s.gA0),(eB s.gA),(k64 s.gr0),(k64 s.gr1),(k64 s.gs0),(k64 s.gs1),(eL 1 k8 s.gL),(j64 s.gO)]
structure aA where
 gb:(List Int)
 ge:Int
 gA:Bool
def aA.enc(s:aA):AV := .st 3 [(eL 1 k8 s.gb),(j64 s.ge),(eB s.gA)]
def tbl : TypeId->Option TI
 | 2=>some ⟨1,8,(.v (.int .i64 0)),.int .i64⟩
 | 3=>some ⟨1,8,(.v (.int .i64 0)),.int .i64⟩
 | 4=>some ⟨1,1,(.v (.bool false)),.bool⟩
 | 5=>some ⟨1,1,(.v (.int .u8 0)),.int .u8⟩
 | 9=>some ⟨1,16,(.v (.string (ByteArray.mk #[]))),.str⟩
 | 22=>some ⟨32,32,(.arr 32 1 (am 32 (.v (.int .u8 0)))),.arr 32 5⟩
 | 23=>some ⟨8,8,(.arr 8 1 (am 8 (.v (.int .u8 0)))),.arr 8 5⟩
 | 24=>some ⟨1,8,(.v (.int .u64 0)),.int .u64⟩
 | 25=>some ⟨1,4,(.v (.int .u32 0)),.int .u32⟩
 | 27=>some ⟨15,56,(.st 15 [(.v (.int .u64 0)),(.v (.int .i64 0)),(.v (.int .u32 0)),(.arr 8 1 (am 8 (.v (.int .u8 0)))),(.v (.int .u32 0)),(.v (.int .u32 0)),(.v (.int .i64 0)),(.v (.int .i64 0))]),.st [(0,24),(1,3),(2,25),(3,23),(11,25),(12,25),(13,3),(14,3)]⟩
 | 29=>some ⟨55,96,(.st 55 [(.arr 32 1 (am 32 (.v (.int .u8 0)))),(.arr 8 1 (am 8 (.v (.int .u8 0)))),(.st 15 [(.v (.int .u64 0)),(.v (.int .i64 0)),(.v (.int .u32 0)),(.arr 8 1 (am 8 (.v (.int .u8 0)))),(.v (.int .u32 0)),(.v (.int .u32 0)),(.v (.int .i64 0)),(.v (.int .i64 0))])]),.st [(0,22),(32,23),(40,27)]⟩
 | 30=>some ⟨1,24,(.v (.slice none 0 0)),.sl 41⟩
 | 31=>some ⟨1,24,(.v (.slice none 0 0)),.sl 136⟩
 | 32=>some ⟨1,24,(.v (.slice none 0 0)),.sl 37⟩
 | 34=>some ⟨3,72,(.st 3 [(.v (.slice none 0 0)),(.v (.slice none 0 0)),(.v (.slice none 0 0))]),.st [(0,30),(1,31),(2,32)]⟩
 | 36=>some ⟨2,32,(.st 2 [(.v (.int .i64 0)),(.v (.slice none 0 0))]),.st [(0,3),(1,32)]⟩
 | 37=>some ⟨3,24,(.arr 3 1 (am 3 (.v (.int .i64 0)))),.arr 3 3⟩
 | 39=>some ⟨5,40,(.st 5 [(.v (.int .i64 0)),(.arr 3 1 (am 3 (.v (.int .i64 0)))),(.v (.int .i64 0))]),.st [(0,3),(1,37),(4,3)]⟩
 | 41=>some ⟨3,24,(.st 3 [(.v (.int .i64 0)),(.v (.int .i64 0)),(.v (.int .i64 0))]),.st [(0,3),(1,3),(2,3)]⟩
 | 43=>some ⟨13,104,(.st 13 [(.v (.int .i64 0)),(.arr 3 1 (am 3 (.v (.int .i64 0)))),(.st 3 [(.v (.int .i64 0)),(.v (.int .i64 0)),(.v (.int .i64 0))]),(.st 3 [(.v (.int .i64 0)),(.v (.int .i64 0)),(.v (.int .i64 0))]),(.st 3 [(.v (.int .i64 0)),(.v (.int .i64 0)),(.v (.int .i64 0))])]),.st [(0,3),(1,37),(4,41),(7,41),(10,41)]⟩
 | 45=>some ⟨24,256,(.st 24 [(.v (.int .i64 0)),(.st 3 [(.v (.slice none 0 0)),(.v (.slice none 0 0)),(.v (.slice none 0 0))]),(.st 2 [(.v (.int .i64 0)),(.v (.slice none 0 0))]),(.st 5 [(.v (.int .i64 0)),(.arr 3 1 (am 3 (.v (.int .i64 0)))),(.v (.int .i64 0))]),(.st 13 [(.v (.int .i64 0)),(.arr 3 1 (am 3 (.v (.int .i64 0)))),(.st 3 [(.v (.int .i64 0)),(.v (.int .i64 0)),(.v (.int .i64 0))]),(.st 3 [(.v (.int .i64 0)),(.v (.int .i64 0)),(.v (.int .i64 0))]),(.st 3 [(.v (.int .i64 0)),(.v (.int .i64 0)),(.v (.int .i64 0))])])]),.st [(0,3),(1,34),(4,36),(6,39),(11,43)]⟩
 | 47=>some ⟨1,24,(.v (.slice none 0 0)),.sl 5⟩
 | 48=>some ⟨1,8,(.v (.int .i64 0)),.int .i64⟩
 | 54=>some ⟨12,12,(.arr 12 1 (am 12 (.v (.int .u8 0)))),.arr 12 5⟩
 | 75=>some ⟨1,8,(.v .nilFunc),.other⟩
 | 86=>some ⟨1,8,(.v (.pointer none)),.ptr 122⟩
 | 100=>some ⟨1,24,(.v (.slice none 0 0)),.sl 47⟩
 | 103=>some ⟨16,16,(.arr 16 1 (am 16 (.v (.int .u8 0)))),.arr 16 5⟩
 | 106=>some ⟨1,24,(.v (.slice none 0 0)),.sl 24⟩
 | 113=>some ⟨1,8,(.st 1 [(.v (.pointer none))]),.st [(0,86)]⟩
 | 122=>some ⟨3,40,(.st 3 [(.v (.slice none 0 0)),(.v (.int .i64 0)),(.v (.bool false))]),.st [(0,47),(1,48),(2,4)]⟩
 | 123=>some ⟨1,8,(.st 1 [(.v (.pointer none))]),.st [(0,86)]⟩
 | 136=>some ⟨2,16,(.arr 2 1 (am 2 (.v (.int .i64 0)))),.arr 2 3⟩
 | 139=>some ⟨1,24,(.v (.slice none 0 0)),.sl 3⟩
 | 154=>some ⟨1,8,(.st 1 [(.v (.pointer none))]),.st [(0,86)]⟩
 | 162=>some ⟨5,40,(.arr 5 1 (am 5 (.v (.int .i64 0)))),.arr 5 3⟩
 | 163=>some ⟨64,64,(.arr 64 1 (am 64 (.v (.int .u8 0)))),.arr 64 5⟩
 | 165=>some ⟨1,8,(.v (.pointer none)),.ptr 198⟩
 | 172=>some ⟨17,17,(.arr 17 1 (am 17 (.v (.int .u8 0)))),.arr 17 5⟩
 | 174=>some ⟨1,24,(.v (.slice none 0 0)),.sl 172⟩
 | 178=>some ⟨1,8,(.v (.int .u64 0)),.int .u64⟩
 | 187=>some ⟨16,64,(.arr 16 1 (am 16 (.v (.int .u32 0)))),.arr 16 25⟩
 | 189=>some ⟨4,32,(.arr 4 1 (am 4 (.v (.int .i64 0)))),.arr 4 3⟩
 | 190=>some ⟨32,256,(.arr 32 4 (am 8 (.arr 4 1 (am 4 (.v (.int .i64 0)))))),.arr 8 189⟩
 | 191=>some ⟨4,16,(.arr 4 1 (am 4 (.v (.int .u32 0)))),.arr 4 25⟩
 | 194=>some ⟨3,24,(.arr 3 1 (am 3 (.v (.int .u64 0)))),.arr 3 24⟩
 | 196=>some ⟨3,24,(.st 3 [(.arr 3 1 (am 3 (.v (.int .u64 0))))]),.st [(0,194)]⟩
 | 198=>some ⟨10,96,(.st 10 [(.st 3 [(.arr 3 1 (am 3 (.v (.int .u64 0))))]),(.v (.bool false)),(.v (.int .u64 0)),(.v (.int .u64 0)),(.v (.int .u64 0)),(.v (.int .u64 0)),(.v (.slice none 0 0)),(.v (.int .i64 0))]),.st [(0,196),(3,4),(4,24),(5,24),(6,24),(7,24),(8,47),(9,3)]⟩
 | _=>none
theorem hT : TOK Tryz.prog tbl:=by
 intro t i h;unfold tbl at h;split at h
 ·cases h;exact⟨⟨_,_,rfl,rfl,rfl,rfl,rfl,rfl⟩,⟨_,rfl,rfl⟩,rfl⟩
 ·cases h;exact⟨⟨_,_,rfl,rfl,rfl,rfl,rfl,rfl⟩,⟨_,rfl,rfl⟩,rfl⟩
 ·cases h;exact⟨⟨_,_,rfl,rfl,rfl,rfl,rfl,rfl⟩,⟨_,rfl,rfl⟩,rfl⟩
 ·cases h;exact⟨⟨_,_,rfl,rfl,rfl,rfl,rfl,rfl⟩,⟨_,rfl,rfl⟩,rfl⟩
 ·cases h;exact⟨⟨_,_,rfl,rfl,rfl,rfl,rfl,rfl⟩,⟨_,rfl,rfl⟩,rfl⟩
 ·cases h;exact⟨⟨_,_,rfl,rfl,rfl,rfl,rfl,rfl⟩,⟨_,rfl,rfl⟩,rfl⟩
 ·cases h;exact⟨⟨_,_,rfl,rfl,rfl,rfl,rfl,rfl⟩,⟨_,rfl,rfl⟩,rfl⟩
 ·cases h;exact⟨⟨_,_,rfl,rfl,rfl,rfl,rfl,rfl⟩,⟨_,rfl,rfl⟩,rfl⟩
 ·cases h;exact⟨⟨_,_,rfl,rfl,rfl,rfl,rfl,rfl⟩,⟨_,rfl,rfl⟩,rfl⟩
 ·cases h;exact⟨⟨_,_,rfl,rfl,rfl,rfl,rfl,rfl⟩,⟨_,rfl,⟨_,rfl,rfl⟩⟩,rfl⟩
 ·cases h;exact⟨⟨_,_,rfl,rfl,rfl,rfl,rfl,rfl⟩,⟨_,rfl,⟨_,rfl,rfl⟩⟩,rfl⟩
 ·cases h;exact⟨⟨_,_,rfl,rfl,rfl,rfl,rfl,rfl⟩,⟨_,rfl,rfl⟩,rfl⟩
 ·cases h;exact⟨⟨_,_,rfl,rfl,rfl,rfl,rfl,rfl⟩,⟨_,rfl,rfl⟩,rfl⟩
 ·cases h;exact⟨⟨_,_,rfl,rfl,rfl,rfl,rfl,rfl⟩,⟨_,rfl,rfl⟩,rfl⟩
 ·cases h;exact⟨⟨_,_,rfl,rfl,rfl,rfl,rfl,rfl⟩,⟨_,rfl,⟨_,rfl,rfl⟩⟩,rfl⟩
 ·cases h;exact⟨⟨_,_,rfl,rfl,rfl,rfl,rfl,rfl⟩,⟨_,rfl,⟨_,rfl,rfl⟩⟩,rfl⟩
 ·cases h;exact⟨⟨_,_,rfl,rfl,rfl,rfl,rfl,rfl⟩,⟨_,rfl,rfl⟩,rfl⟩
 ·cases h;exact⟨⟨_,_,rfl,rfl,rfl,rfl,rfl,rfl⟩,⟨_,rfl,⟨_,rfl,rfl⟩⟩,rfl⟩
 ·cases h;exact⟨⟨_,_,rfl,rfl,rfl,rfl,rfl,rfl⟩,⟨_,rfl,⟨_,rfl,rfl⟩⟩,rfl⟩
 ·cases h;exact⟨⟨_,_,rfl,rfl,rfl,rfl,rfl,rfl⟩,⟨_,rfl,⟨_,rfl,rfl⟩⟩,rfl⟩
 ·cases h;exact⟨⟨_,_,rfl,rfl,rfl,rfl,rfl,rfl⟩,⟨_,rfl,⟨_,rfl,rfl⟩⟩,rfl⟩
 ·cases h;exact⟨⟨_,_,rfl,rfl,rfl,rfl,rfl,rfl⟩,⟨_,rfl,rfl⟩,rfl⟩
 ·cases h;exact⟨⟨_,_,rfl,rfl,rfl,rfl,rfl,rfl⟩,⟨_,rfl,rfl⟩,rfl⟩
 ·cases h;exact⟨⟨_,_,rfl,rfl,rfl,rfl,rfl,rfl⟩,⟨_,rfl,rfl⟩,rfl⟩
 ·cases h;exact⟨⟨_,_,rfl,rfl,rfl,rfl,rfl,rfl⟩,⟨_,rfl,(by unfold TK.fits;exact⟨(by intro fs h;cases h),(by intro n e h;cases h)⟩)⟩,rfl⟩
 ·cases h;exact⟨⟨_,_,rfl,rfl,rfl,rfl,rfl,rfl⟩,⟨_,rfl,rfl⟩,rfl⟩
 ·cases h;exact⟨⟨_,_,rfl,rfl,rfl,rfl,rfl,rfl⟩,⟨_,rfl,rfl⟩,rfl⟩
 ·cases h;exact⟨⟨_,_,rfl,rfl,rfl,rfl,rfl,rfl⟩,⟨_,rfl,rfl⟩,rfl⟩
 ·cases h;exact⟨⟨_,_,rfl,rfl,rfl,rfl,rfl,rfl⟩,⟨_,rfl,rfl⟩,rfl⟩
 ·cases h;exact⟨⟨_,_,rfl,rfl,rfl,rfl,rfl,rfl⟩,⟨_,rfl,⟨_,rfl,rfl⟩⟩,rfl⟩
 ·cases h;exact⟨⟨_,_,rfl,rfl,rfl,rfl,rfl,rfl⟩,⟨_,rfl,⟨_,rfl,rfl⟩⟩,rfl⟩
 ·cases h;exact⟨⟨_,_,rfl,rfl,rfl,rfl,rfl,rfl⟩,⟨_,rfl,⟨_,rfl,rfl⟩⟩,rfl⟩
 ·cases h;exact⟨⟨_,_,rfl,rfl,rfl,rfl,rfl,rfl⟩,⟨_,rfl,rfl⟩,rfl⟩
 ·cases h;exact⟨⟨_,_,rfl,rfl,rfl,rfl,rfl,rfl⟩,⟨_,rfl,rfl⟩,rfl⟩
 ·cases h;exact⟨⟨_,_,rfl,rfl,rfl,rfl,rfl,rfl⟩,⟨_,rfl,⟨_,rfl,rfl⟩⟩,rfl⟩
 ·cases h;exact⟨⟨_,_,rfl,rfl,rfl,rfl,rfl,rfl⟩,⟨_,rfl,rfl⟩,rfl⟩
 ·cases h;exact⟨⟨_,_,rfl,rfl,rfl,rfl,rfl,rfl⟩,⟨_,rfl,rfl⟩,rfl⟩
 ·cases h;exact⟨⟨_,_,rfl,rfl,rfl,rfl,rfl,rfl⟩,⟨_,rfl,rfl⟩,rfl⟩
 ·cases h;exact⟨⟨_,_,rfl,rfl,rfl,rfl,rfl,rfl⟩,⟨_,rfl,rfl⟩,rfl⟩
 ·cases h;exact⟨⟨_,_,rfl,rfl,rfl,rfl,rfl,rfl⟩,⟨_,rfl,rfl⟩,rfl⟩
 ·cases h;exact⟨⟨_,_,rfl,rfl,rfl,rfl,rfl,rfl⟩,⟨_,rfl,rfl⟩,rfl⟩
 ·cases h;exact⟨⟨_,_,rfl,rfl,rfl,rfl,rfl,rfl⟩,⟨_,rfl,rfl⟩,rfl⟩
 ·cases h;exact⟨⟨_,_,rfl,rfl,rfl,rfl,rfl,rfl⟩,⟨_,rfl,rfl⟩,rfl⟩
 ·cases h;exact⟨⟨_,_,rfl,rfl,rfl,rfl,rfl,rfl⟩,⟨_,rfl,rfl⟩,rfl⟩
 ·cases h;exact⟨⟨_,_,rfl,rfl,rfl,rfl,rfl,rfl⟩,⟨_,rfl,rfl⟩,rfl⟩
 ·cases h;exact⟨⟨_,_,rfl,rfl,rfl,rfl,rfl,rfl⟩,⟨_,rfl,rfl⟩,rfl⟩
 ·cases h;exact⟨⟨_,_,rfl,rfl,rfl,rfl,rfl,rfl⟩,⟨_,rfl,⟨_,rfl,rfl⟩⟩,rfl⟩
 ·cases h;exact⟨⟨_,_,rfl,rfl,rfl,rfl,rfl,rfl⟩,⟨_,rfl,⟨_,rfl,rfl⟩⟩,rfl⟩
 ·cases h
theorem hmo : Tryz.prog.follows .mixedOrders=true:=by rfl
theorem tt3 : tbl 3=some ⟨1,8,(.v (.int .i64 0)),.int .i64⟩:=rfl
theorem tt5 : tbl 5=some ⟨1,1,(.v (.int .u8 0)),.int .u8⟩:=rfl
theorem tt23 : tbl 23=some ⟨8,8,(.arr 8 1 (am 8 (.v (.int .u8 0)))),.arr 8 5⟩:=rfl
theorem tt24 : tbl 24=some ⟨1,8,(.v (.int .u64 0)),.int .u64⟩:=rfl
theorem tt25 : tbl 25=some ⟨1,4,(.v (.int .u32 0)),.int .u32⟩:=rfl
theorem tt37 : tbl 37=some ⟨3,24,(.arr 3 1 (am 3 (.v (.int .i64 0)))),.arr 3 3⟩:=rfl
theorem tt41 : tbl 41=some ⟨3,24,(.st 3 [(.v (.int .i64 0)),(.v (.int .i64 0)),(.v (.int .i64 0))]),.st [(0,3),(1,3),(2,3)]⟩:=rfl
theorem aAe : EqT Tryz.prog 3 (α:=Int) j64 (λa b=>a==b) 1:=
 aEU Tryz.underlying3
def aB.eq(a b:aB):Bool:=(λa b=>a==b) a.gX b.gX&&((λa b=>a==b) a.gY b.gY&&((λa b=>a==b) a.gZ b.gZ&&true))
theorem tP : EqT Tryz.prog 41 (α:=aB) aB.enc aB.eq 2:=
 yV (N:=3) Tryz.underlying41 (by kernel_rfl) (λ_=>rfl) (λa b=>kO hT a.gX b.gX (by decide) rfl tt3 rfl (λ_=>rfl) (λ_=>rfl) (λ_=>rfl) aAe (by decide) (kO hT a.gY b.gY (by decide) rfl tt3 rfl (λ_=>rfl) (λ_=>rfl) (λ_=>rfl) aAe (by decide) (kO hT a.gZ b.gZ (by decide) rfl tt3 rfl (λ_=>rfl) (λ_=>rfl) (λ_=>rfl) aAe (by decide) (aET))))
theorem aJV : EqT Tryz.prog 37 (α:=(Vector Int 3)) (eA 3 1 j64) (eqV (λa b=>a==b)) 2:=
 aAr (M:=3) hT tt3 Tryz.underlying37 (by kernel_rfl) (λ_=>rfl) rfl (λ_=>rfl) (λ_=>rfl) aAe
def aF.eq(a b:aF):Bool:=(λa b=>a==b) a.gC b.gC&&((eqV (λa b=>a==b)) a.gE b.gE&&((λa b=>a==b) a.gA1 b.gA1&&true))
theorem aHV : EqT Tryz.prog 39 (α:=aF) aF.enc aF.eq 3:=
 yV (N:=5) Tryz.underlying39 (by kernel_rfl) (λ_=>rfl) (λa b=>kO hT a.gC b.gC (by decide) rfl tt3 rfl (λ_=>rfl) (λ_=>rfl) (λ_=>rfl) aAe (by decide) (kO hT a.gE b.gE (by decide) rfl tt37 rfl (λ_=>rfl) (λ_=>rfl) (λ_=>rfl) aJV (by decide) (kO hT a.gA1 b.gA1 (by decide) rfl tt3 rfl (λ_=>rfl) (λ_=>rfl) (λ_=>rfl) aAe (by decide) (aET))))
def aJ.eq(a b:aJ):Bool:=(λa b=>a==b) a.gC b.gC&&((eqV (λa b=>a==b)) a.gE b.gE&&(aB.eq a.gAt b.gAt&&(aB.eq a.gU b.gU&&(aB.eq a.gV b.gV&&true))))
theorem aGx : EqT Tryz.prog 43 (α:=aJ) aJ.enc aJ.eq 3:=
 yV (N:=13) Tryz.underlying43 (by kernel_rfl) (λ_=>rfl) (λa b=>kO hT a.gC b.gC (by decide) rfl tt3 rfl (λ_=>rfl) (λ_=>rfl) (λ_=>rfl) aAe (by decide) (kO hT a.gE b.gE (by decide) rfl tt37 rfl (λ_=>rfl) (λ_=>rfl) (λ_=>rfl) aJV (by decide) (kO hT a.gAt b.gAt (by decide) rfl tt41 rfl (λ_=>rfl) (λ_=>rfl) (λ_=>rfl) tP (by decide) (kO hT a.gU b.gU (by decide) rfl tt41 rfl (λ_=>rfl) (λ_=>rfl) (λ_=>rfl) tP (by decide) (kO hT a.gV b.gV (by decide) rfl tt41 rfl (λ_=>rfl) (λ_=>rfl) (λ_=>rfl) tP (by decide) (aET))))))
theorem aOV : EqT Tryz.prog 136 (α:=(Vector Int 2)) (eA 2 1 j64) (eqV (λa b=>a==b)) 2:=
 aAr (M:=2) hT tt3 Tryz.underlying136 (by kernel_rfl) (λ_=>rfl) rfl (λ_=>rfl) (λ_=>rfl) aAe
theorem aPO : EqT Tryz.prog 5 (α:=Int) k8 (λa b=>a==b) 1:=
 aEU Tryz.underlying5
theorem aMg : EqT Tryz.prog 54 (α:=(Vector Int 12)) (eA 12 1 k8) (eqV (λa b=>a==b)) 2:=
 aAr (M:=12) hT tt5 Tryz.underlying54 (by kernel_rfl) (λ_=>rfl) rfl (λ_=>rfl) (λ_=>rfl) aPO
theorem aQB : EqT Tryz.prog 24 (α:=Int) k64 (λa b=>a==b) 1:=
 aEU Tryz.underlying24
theorem aI0 : EqT Tryz.prog 25 (α:=Int) k32 (λa b=>a==b) 1:=
 aEU Tryz.underlying25
theorem aQz : EqT Tryz.prog 23 (α:=(Vector Int 8)) (eA 8 1 k8) (eqV (λa b=>a==b)) 2:=
 aAr (M:=8) hT tt5 Tryz.underlying23 (by kernel_rfl) (λ_=>rfl) rfl (λ_=>rfl) (λ_=>rfl) aPO
def aD.eq(a b:aD):Bool:=(λa b=>a==b) a.gId b.gId&&((λa b=>a==b) a.gC b.gC&&((λa b=>a==b) a.gA2 b.gA2&&((eqV (λa b=>a==b)) a.gR b.gR&&((λa b=>a==b) a.gT b.gT&&((λa b=>a==b) a.gTo b.gTo&&((λa b=>a==b) a.gP b.gP&&((λa b=>a==b) a.gA3 b.gA3&&true)))))))
theorem aPg : EqT Tryz.prog 27 (α:=aD) aD.enc aD.eq 3:=
 yV (N:=15) Tryz.underlying27 (by kernel_rfl) (λ_=>rfl) (λa b=>kO hT a.gId b.gId (by decide) rfl tt24 rfl (λ_=>rfl) (λ_=>rfl) (λ_=>rfl) aQB (by decide) (kO hT a.gC b.gC (by decide) rfl tt3 rfl (λ_=>rfl) (λ_=>rfl) (λ_=>rfl) aAe (by decide) (kO hT a.gA2 b.gA2 (by decide) rfl tt25 rfl (λ_=>rfl) (λ_=>rfl) (λ_=>rfl) aI0 (by decide) (kO hT a.gR b.gR (by decide) rfl tt23 rfl (λ_=>rfl) (λ_=>rfl) (λ_=>rfl) aQz (by decide) (kO hT a.gT b.gT (by decide) rfl tt25 rfl (λ_=>rfl) (λ_=>rfl) (λ_=>rfl) aI0 (by decide) (kO hT a.gTo b.gTo (by decide) rfl tt25 rfl (λ_=>rfl) (λ_=>rfl) (λ_=>rfl) aI0 (by decide) (kO hT a.gP b.gP (by decide) rfl tt3 rfl (λ_=>rfl) (λ_=>rfl) (λ_=>rfl) aAe (by decide) (kO hT a.gA3 b.gA3 (by decide) rfl tt3 rfl (λ_=>rfl) (λ_=>rfl) (λ_=>rfl) aAe (by decide) (aET)))))))))
def aKT : ByteArray:=(ByteArray.mk #[101,120,112,97,110,100,32,51,50,45,98,121,116,101,32,107])
abbrev zI : AV:=(.st 15 [(k64 0),(j64 0),(k32 0),(eA 8 1 k8 (Vector.replicate 8 0)),(k32 0),(k32 0),(j64 0),(j64 0)])
abbrev aIq : AV:=(.arr 32 4 [(.arr 4 1 [(j64 0),(j64 4),(j64 8),(j64 12)]),(.arr 4 1 [(j64 1),(j64 5),(j64 9),(j64 13)]),(.arr 4 1 [(j64 2),(j64 6),(j64 10),(j64 14)]),(.arr 4 1 [(j64 3),(j64 7),(j64 11),(j64 15)]),(.arr 4 1 [(j64 0),(j64 5),(j64 10),(j64 15)]),(.arr 4 1 [(j64 1),(j64 6),(j64 11),(j64 12)]),(.arr 4 1 [(j64 2),(j64 7),(j64 8),(j64 13)]),(.arr 4 1 [(j64 3),(j64 4),(j64 9),(j64 14)])])
end Go.UK
