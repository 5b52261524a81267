/- A part of the proof: what the functions of the program compute. -/
import Derived.Test.YtogkmakcedgneaaGreatLib15
import Derived.Test.YtogkmakcedgneaaGreatChecked
open List renaming replicate→ak
namespace Go.UK
open Go Go.Proofs
set_option maxRecDepth 20000
set_option maxHeartbeats 40000000
set_option linter.all false
instance : bU:=⟨⟨[],[]⟩⟩
structure bF where
 gA:Int
 gId:Int
 gA5:Int
def bF.enc(s:bF):AV := .st 3 [(j64 s.gA),(j64 s.gId),(j64 s.gA5)]
structure aV where
 gA4:Int
 gto:Int
def aV.enc(s:aV):AV := .st 2 [(j64 s.gA4),(j64 s.gto)]
structure aH where
 gId:Int
 gQ:Int
 gTo:Int
def aH.enc(s:aH):AV := .st 3 [(j64 s.gId),(j64 s.gQ),(j64 s.gTo)]
structure aAn where
 gA7:(Vector Int 32)
 gA8:(List aH)
def aAn.enc(s:aAn):AV := .st 33 [(eA 32 1 k8 s.gA7),(eL 3 aH.enc s.gA8)]
structure aB where
 gb:(List Int)
 ge:Int
 gC:Bool
def aB.enc(s:aB):AV := .st 3 [(eL 1 k8 s.gb),(j64 s.ge),(eB s.gC)]
structure eE where
 gh:(Vector Int 8)
 gA6:(Vector Int 64)
 gn:Int
def eE.enc(s:eE):AV := .st 73 [(eA 8 1 k32 s.gh),(eA 64 1 k8 s.gA6),(j64 s.gn)]
structure aO where
 gh:(Vector Int 3)
def aO.enc(s:aO):AV := .st 3 [(eA 3 1 k64 s.gh)]
structure aT where
 gA1:aO
 gC:Bool
 gr0:Int
 gr1:Int
 gs0:Int
 gs1:Int
 gN:(List Int)
 gO:Int
def aT.enc(s:aT):AV := .st 10 [(aO.enc s.gA1),(eB s.gC),(k64 s.gr0),(k64 s.gr1),(k64 s.gs0),(k64 s.gs1),(eL 1 k8 s.gN),(j64 s.gO)]
structure aE where
 gId:Int
 gA:Int
 gA3:Int
 gA2:(Vector Int 8)
 gQ:Int
 gTo:Int
 gT:Int
 gA0:Int
def aE.enc(s:aE):AV := .st 15 [(k64 s.gId),(j64 s.gA),(k32 s.gA3),(eA 8 1 k8 s.gA2),(k32 s.gQ),(k32 s.gTo),(j64 s.gT),(j64 s.gA0)]
structure aA where
 gX:Int
 gY:Int
 gZ:Int
def aA.enc(s:aA):AV := .st 3 [(j64 s.gX),(j64 s.gY),(j64 s.gZ)]
structure aK where
 gG:(List aA)
 gL:(List (Vector Int 2))
 gJ:(List (Vector Int 3))
def aK.enc(s:aK):AV := .st 3 [(eL 3 aA.enc s.gG),(eL 2 (eA 2 1 j64) s.gL),(eL 3 (eA 3 1 j64) s.gJ)]
structure aJ where
 gM:Int
 gK:(List (Vector Int 3))
def aJ.enc(s:aJ):AV := .st 2 [(j64 s.gM),(eL 3 (eA 3 1 j64) s.gK)]
structure aG where
 gA:Int
 gF:(Vector Int 3)
 gW:Int
def aG.enc(s:aG):AV := .st 5 [(j64 s.gA),(eA 3 1 j64 s.gF),(j64 s.gW)]
structure aL where
 gA:Int
 gF:(Vector Int 3)
 gAt:aA
 gU:aA
 gV:aA
def aL.enc(s:aL):AV := .st 13 [(j64 s.gA),(eA 3 1 j64 s.gF),(aA.enc s.gAt),(aA.enc s.gU),(aA.enc s.gV)]
structure aI where
 gA:Int
 gP:aK
 gR:aJ
 gI:aG
 gD:aL
def aI.enc(s:aI):AV := .st 24 [(j64 s.gA),(aK.enc s.gP),(aJ.enc s.gR),(aG.enc s.gI),(aL.enc s.gD)]
structure aD where
 gB:(List Int)
 gAt:Int
 gE:Int
def aD.enc(s:aD):AV := .st 3 [(eL 1 k8 s.gB),(j64 s.gAt),(j64 s.gE)]
def tbl : TypeId->Option TI
 | 2=>some ⟨1,8,(.v (.int .i64 0)),.int .i64⟩
 | 3=>some ⟨1,8,(.v (.int .i64 0)),.int .i64⟩
 | 4=>some ⟨1,1,(.v (.bool false)),.bool⟩
 | 5=>some ⟨1,1,(.v (.int .u8 0)),.int .u8⟩
 | 9=>some ⟨1,16,(.v (.string (ByteArray.mk #[]))),.str⟩
 | 22=>some ⟨32,32,(.arr 32 1 (ak 32 (.v (.int .u8 0)))),.arr 32 5⟩
 | 23=>some ⟨1,24,(.v (.slice none 0 0)),.sl 32⟩
 | 24=>some ⟨1,24,(.v (.slice none 0 0)),.sl 5⟩
 | 25=>some ⟨1,8,(.v (.pointer none)),.ptr 72⟩
 | 28=>some ⟨1,24,(.v (.slice none 0 0)),.sl 78⟩
 | 30=>some ⟨33,56,(.st 33 [(.arr 32 1 (ak 32 (.v (.int .u8 0)))),(.v (.slice none 0 0))]),.st [(0,22),(32,28)]⟩
 | 32=>some ⟨3,24,(.st 3 [(.v (.int .i64 0)),(.v (.int .i64 0)),(.v (.int .i64 0))]),.st [(0,3),(1,3),(2,3)]⟩
 | 33=>some ⟨1,8,(.v (.int .i64 0)),.int .i64⟩
 | 42=>some ⟨1,8,(.v (.int .u64 0)),.int .u64⟩
 | 43=>some ⟨1,4,(.v (.int .u32 0)),.int .u32⟩
 | 44=>some ⟨8,8,(.arr 8 1 (ak 8 (.v (.int .u8 0)))),.arr 8 5⟩
 | 46=>some ⟨15,56,(.st 15 [(.v (.int .u64 0)),(.v (.int .i64 0)),(.v (.int .u32 0)),(.arr 8 1 (ak 8 (.v (.int .u8 0)))),(.v (.int .u32 0)),(.v (.int .u32 0)),(.v (.int .i64 0)),(.v (.int .i64 0))]),.st [(0,42),(1,3),(2,43),(3,44),(11,43),(12,43),(13,3),(14,3)]⟩
 | 47=>some ⟨1,24,(.v (.slice none 0 0)),.sl 58⟩
 | 48=>some ⟨1,24,(.v (.slice none 0 0)),.sl 120⟩
 | 49=>some ⟨1,24,(.v (.slice none 0 0)),.sl 54⟩
 | 51=>some ⟨3,72,(.st 3 [(.v (.slice none 0 0)),(.v (.slice none 0 0)),(.v (.slice none 0 0))]),.st [(0,47),(1,48),(2,49)]⟩
 | 53=>some ⟨2,32,(.st 2 [(.v (.int .i64 0)),(.v (.slice none 0 0))]),.st [(0,3),(1,49)]⟩
 | 54=>some ⟨3,24,(.arr 3 1 (ak 3 (.v (.int .i64 0)))),.arr 3 3⟩
 | 56=>some ⟨5,40,(.st 5 [(.v (.int .i64 0)),(.arr 3 1 (ak 3 (.v (.int .i64 0)))),(.v (.int .i64 0))]),.st [(0,3),(1,54),(4,3)]⟩
 | 58=>some ⟨3,24,(.st 3 [(.v (.int .i64 0)),(.v (.int .i64 0)),(.v (.int .i64 0))]),.st [(0,3),(1,3),(2,3)]⟩
 | 60=>some ⟨13,104,(.st 13 [(.v (.int .i64 0)),(.arr 3 1 (ak 3 (.v (.int .i64 0)))),(.st 3 [(.v (.int .i64 0)),(.v (.int .i64 0)),(.v (.int .i64 0))]),(.st 3 [(.v (.int .i64 0)),(.v (.int .i64 0)),(.v (.int .i64 0))]),(.st 3 [(.v (.int .i64 0)),(.v (.int .i64 0)),(.v (.int .i64 0))])]),.st [(0,3),(1,54),(4,58),(7,58),(10,58)]⟩
 | 62=>some ⟨24,256,(.st 24 [(.v (.int .i64 0)),(.st 3 [(.v (.slice none 0 0)),(.v (.slice none 0 0)),(.v (.slice none 0 0))]),(.st 2 [(.v (.int .i64 0)),(.v (.slice none 0 0))]),(.st 5 [(.v (.int .i64 0)),(.arr 3 1 (ak 3 (.v (.int .i64 0)))),(.v (.int .i64 0))]),(.st 13 [(.v (.int .i64 0)),(.arr 3 1 (ak 3 (.v (.int .i64 0)))),(.st 3 [(.v (.int .i64 0)),(.v (.int .i64 0)),(.v (.int .i64 0))]),(.st 3 [(.v (.int .i64 0)),(.v (.int .i64 0)),(.v (.int .i64 0))]),(.st 3 [(.v (.int .i64 0)),(.v (.int .i64 0)),(.v (.int .i64 0))])])]),.st [(0,3),(1,51),(4,53),(6,56),(11,60)]⟩
 | 70=>some ⟨1,8,(.v (.map none)),.other⟩
 | 72=>some ⟨33,40,(.st 33 [(.arr 32 1 (ak 32 (.v (.int .u8 0)))),(.v (.map none))]),.st [(0,22),(32,70)]⟩
 | 75=>some ⟨2,16,(.st 2 [(.v (.int .i64 0)),(.v (.int .i64 0))]),.st [(0,3),(1,3)]⟩
 | 78=>some ⟨3,24,(.st 3 [(.v (.int .i64 0)),(.v (.int .i64 0)),(.v (.int .i64 0))]),.st [(0,3),(1,3),(2,3)]⟩
 | 81=>some ⟨1,8,(.v (.pointer none)),.ptr 96⟩
 | 96=>some ⟨3,40,(.st 3 [(.v (.slice none 0 0)),(.v (.int .i64 0)),(.v (.bool false))]),.st [(0,24),(1,33),(2,4)]⟩
 | 102=>some ⟨12,12,(.arr 12 1 (ak 12 (.v (.int .u8 0)))),.arr 12 5⟩
 | 117=>some ⟨1,8,(.v (.int .u64 0)),.int .u64⟩
 | 119=>some ⟨1,24,(.v (.slice none 0 0)),.sl 24⟩
 | 120=>some ⟨2,16,(.arr 2 1 (ak 2 (.v (.int .i64 0)))),.arr 2 3⟩
 | 128=>some ⟨1,8,(.st 1 [(.v (.pointer none))]),.st [(0,81)]⟩
 | 136=>some ⟨1,24,(.v (.slice none 0 0)),.sl 42⟩
 | 139=>some ⟨16,16,(.arr 16 1 (ak 16 (.v (.int .u8 0)))),.arr 16 5⟩
 | 144=>some ⟨3,40,(.st 3 [(.v (.slice none 0 0)),(.v (.int .i64 0)),(.v (.int .i64 0))]),.st [(0,24),(1,3),(2,3)]⟩
 | 157=>some ⟨1,8,(.v .nilFunc),.other⟩
 | 161=>some ⟨1,8,(.st 1 [(.v (.pointer none))]),.st [(0,81)]⟩
 | 164=>some ⟨1,8,(.st 1 [(.v (.pointer none))]),.st [(0,81)]⟩
 | 169=>some ⟨64,64,(.arr 64 1 (ak 64 (.v (.int .u8 0)))),.arr 64 5⟩
 | 172=>some ⟨1,8,(.v (.pointer none)),.ptr 209⟩
 | 197=>some ⟨1,24,(.v (.slice none 0 0)),.sl 3⟩
 | 206=>some ⟨5,40,(.arr 5 1 (ak 5 (.v (.int .i64 0)))),.arr 5 3⟩
 | 207=>some ⟨8,32,(.arr 8 1 (ak 8 (.v (.int .u32 0)))),.arr 8 43⟩
 | 209=>some ⟨73,104,(.st 73 [(.arr 8 1 (ak 8 (.v (.int .u32 0)))),(.arr 64 1 (ak 64 (.v (.int .u8 0)))),(.v (.int .i64 0))]),.st [(0,207),(8,169),(72,3)]⟩
 | 212=>some ⟨17,17,(.arr 17 1 (ak 17 (.v (.int .u8 0)))),.arr 17 5⟩
 | 214=>some ⟨1,24,(.v (.slice none 0 0)),.sl 212⟩
 | 224=>some ⟨1,8,(.v (.pointer none)),.ptr 244⟩
 | 232=>some ⟨64,256,(.arr 64 1 (ak 64 (.v (.int .u32 0)))),.arr 64 43⟩
 | 234=>some ⟨16,64,(.arr 16 1 (ak 16 (.v (.int .u32 0)))),.arr 16 43⟩
 | 240=>some ⟨3,24,(.arr 3 1 (ak 3 (.v (.int .u64 0)))),.arr 3 42⟩
 | 242=>some ⟨3,24,(.st 3 [(.arr 3 1 (ak 3 (.v (.int .u64 0))))]),.st [(0,240)]⟩
 | 244=>some ⟨10,96,(.st 10 [(.st 3 [(.arr 3 1 (ak 3 (.v (.int .u64 0))))]),(.v (.bool false)),(.v (.int .u64 0)),(.v (.int .u64 0)),(.v (.int .u64 0)),(.v (.int .u64 0)),(.v (.slice none 0 0)),(.v (.int .i64 0))]),.st [(0,242),(3,4),(4,42),(5,42),(6,42),(7,42),(8,24),(9,3)]⟩
 | 247=>some ⟨4,32,(.arr 4 1 (ak 4 (.v (.int .i64 0)))),.arr 4 3⟩
 | 248=>some ⟨32,256,(.arr 32 4 (ak 8 (.arr 4 1 (ak 4 (.v (.int .i64 0)))))),.arr 8 247⟩
 | 249=>some ⟨4,16,(.arr 4 1 (ak 4 (.v (.int .u32 0)))),.arr 4 43⟩
 | 253=>some ⟨1,24,(.v (.slice none 0 0)),.sl 43⟩
 | _=>none
theorem hT : TOK Tryz.prog tbl:=by
 intro t i h;unfold tbl at h;split at h
 ·cases h;exact⟨⟨_,_,rfl,rfl,rfl,rfl,rfl,rfl⟩,⟨_,rfl,rfl⟩,rfl⟩
 ·cases h;exact⟨⟨_,_,rfl,rfl,rfl,rfl,rfl,rfl⟩,⟨_,rfl,rfl⟩,rfl⟩
 ·cases h;exact⟨⟨_,_,rfl,rfl,rfl,rfl,rfl,rfl⟩,⟨_,rfl,rfl⟩,rfl⟩
 ·cases h;exact⟨⟨_,_,rfl,rfl,rfl,rfl,rfl,rfl⟩,⟨_,rfl,rfl⟩,rfl⟩
 ·cases h;exact⟨⟨_,_,rfl,rfl,rfl,rfl,rfl,rfl⟩,⟨_,rfl,rfl⟩,rfl⟩
 ·cases h;exact⟨⟨_,_,rfl,rfl,rfl,rfl,rfl,rfl⟩,⟨_,rfl,rfl⟩,rfl⟩
 ·cases h;exact⟨⟨_,_,rfl,rfl,rfl,rfl,rfl,rfl⟩,⟨_,rfl,rfl⟩,rfl⟩
 ·cases h;exact⟨⟨_,_,rfl,rfl,rfl,rfl,rfl,rfl⟩,⟨_,rfl,rfl⟩,rfl⟩
 ·cases h;exact⟨⟨_,_,rfl,rfl,rfl,rfl,rfl,rfl⟩,⟨_,rfl,rfl⟩,rfl⟩
 ·cases h;exact⟨⟨_,_,rfl,rfl,rfl,rfl,rfl,rfl⟩,⟨_,rfl,rfl⟩,rfl⟩
 ·cases h;exact⟨⟨_,_,rfl,rfl,rfl,rfl,rfl,rfl⟩,⟨_,rfl,⟨_,rfl,rfl⟩⟩,rfl⟩
 ·cases h;exact⟨⟨_,_,rfl,rfl,rfl,rfl,rfl,rfl⟩,⟨_,rfl,⟨_,rfl,rfl⟩⟩,rfl⟩
 ·cases h;exact⟨⟨_,_,rfl,rfl,rfl,rfl,rfl,rfl⟩,⟨_,rfl,rfl⟩,rfl⟩
 ·cases h;exact⟨⟨_,_,rfl,rfl,rfl,rfl,rfl,rfl⟩,⟨_,rfl,rfl⟩,rfl⟩
 ·cases h;exact⟨⟨_,_,rfl,rfl,rfl,rfl,rfl,rfl⟩,⟨_,rfl,rfl⟩,rfl⟩
 ·cases h;exact⟨⟨_,_,rfl,rfl,rfl,rfl,rfl,rfl⟩,⟨_,rfl,rfl⟩,rfl⟩
 ·cases h;exact⟨⟨_,_,rfl,rfl,rfl,rfl,rfl,rfl⟩,⟨_,rfl,⟨_,rfl,rfl⟩⟩,rfl⟩
 ·cases h;exact⟨⟨_,_,rfl,rfl,rfl,rfl,rfl,rfl⟩,⟨_,rfl,rfl⟩,rfl⟩
 ·cases h;exact⟨⟨_,_,rfl,rfl,rfl,rfl,rfl,rfl⟩,⟨_,rfl,rfl⟩,rfl⟩
 ·cases h;exact⟨⟨_,_,rfl,rfl,rfl,rfl,rfl,rfl⟩,⟨_,rfl,rfl⟩,rfl⟩
 ·cases h;exact⟨⟨_,_,rfl,rfl,rfl,rfl,rfl,rfl⟩,⟨_,rfl,⟨_,rfl,rfl⟩⟩,rfl⟩
 ·cases h;exact⟨⟨_,_,rfl,rfl,rfl,rfl,rfl,rfl⟩,⟨_,rfl,⟨_,rfl,rfl⟩⟩,rfl⟩
 ·cases h;exact⟨⟨_,_,rfl,rfl,rfl,rfl,rfl,rfl⟩,⟨_,rfl,rfl⟩,rfl⟩
 ·cases h;exact⟨⟨_,_,rfl,rfl,rfl,rfl,rfl,rfl⟩,⟨_,rfl,⟨_,rfl,rfl⟩⟩,rfl⟩
 ·cases h;exact⟨⟨_,_,rfl,rfl,rfl,rfl,rfl,rfl⟩,⟨_,rfl,⟨_,rfl,rfl⟩⟩,rfl⟩
 ·cases h;exact⟨⟨_,_,rfl,rfl,rfl,rfl,rfl,rfl⟩,⟨_,rfl,⟨_,rfl,rfl⟩⟩,rfl⟩
 ·cases h;exact⟨⟨_,_,rfl,rfl,rfl,rfl,rfl,rfl⟩,⟨_,rfl,⟨_,rfl,rfl⟩⟩,rfl⟩
 ·cases h;exact⟨⟨_,_,rfl,rfl,rfl,rfl,rfl,rfl⟩,⟨_,rfl,(by unfold TK.fits;exact⟨(by intro fs h;cases h),(by intro n e h;cases h)⟩)⟩,rfl⟩
 ·cases h;exact⟨⟨_,_,rfl,rfl,rfl,rfl,rfl,rfl⟩,⟨_,rfl,⟨_,rfl,rfl⟩⟩,rfl⟩
 ·cases h;exact⟨⟨_,_,rfl,rfl,rfl,rfl,rfl,rfl⟩,⟨_,rfl,⟨_,rfl,rfl⟩⟩,rfl⟩
 ·cases h;exact⟨⟨_,_,rfl,rfl,rfl,rfl,rfl,rfl⟩,⟨_,rfl,⟨_,rfl,rfl⟩⟩,rfl⟩
 ·cases h;exact⟨⟨_,_,rfl,rfl,rfl,rfl,rfl,rfl⟩,⟨_,rfl,rfl⟩,rfl⟩
 ·cases h;exact⟨⟨_,_,rfl,rfl,rfl,rfl,rfl,rfl⟩,⟨_,rfl,⟨_,rfl,rfl⟩⟩,rfl⟩
 ·cases h;exact⟨⟨_,_,rfl,rfl,rfl,rfl,rfl,rfl⟩,⟨_,rfl,rfl⟩,rfl⟩
 ·cases h;exact⟨⟨_,_,rfl,rfl,rfl,rfl,rfl,rfl⟩,⟨_,rfl,rfl⟩,rfl⟩
 ·cases h;exact⟨⟨_,_,rfl,rfl,rfl,rfl,rfl,rfl⟩,⟨_,rfl,rfl⟩,rfl⟩
 ·cases h;exact⟨⟨_,_,rfl,rfl,rfl,rfl,rfl,rfl⟩,⟨_,rfl,rfl⟩,rfl⟩
 ·cases h;exact⟨⟨_,_,rfl,rfl,rfl,rfl,rfl,rfl⟩,⟨_,rfl,⟨_,rfl,rfl⟩⟩,rfl⟩
 ·cases h;exact⟨⟨_,_,rfl,rfl,rfl,rfl,rfl,rfl⟩,⟨_,rfl,rfl⟩,rfl⟩
 ·cases h;exact⟨⟨_,_,rfl,rfl,rfl,rfl,rfl,rfl⟩,⟨_,rfl,rfl⟩,rfl⟩
 ·cases h;exact⟨⟨_,_,rfl,rfl,rfl,rfl,rfl,rfl⟩,⟨_,rfl,⟨_,rfl,rfl⟩⟩,rfl⟩
 ·cases h;exact⟨⟨_,_,rfl,rfl,rfl,rfl,rfl,rfl⟩,⟨_,rfl,(by unfold TK.fits;exact⟨(by intro fs h;cases h),(by intro n e h;cases h)⟩)⟩,rfl⟩
 ·cases h;exact⟨⟨_,_,rfl,rfl,rfl,rfl,rfl,rfl⟩,⟨_,rfl,⟨_,rfl,rfl⟩⟩,rfl⟩
 ·cases h;exact⟨⟨_,_,rfl,rfl,rfl,rfl,rfl,rfl⟩,⟨_,rfl,⟨_,rfl,rfl⟩⟩,rfl⟩
 ·cases h;exact⟨⟨_,_,rfl,rfl,rfl,rfl,rfl,rfl⟩,⟨_,rfl,rfl⟩,rfl⟩
 ·cases h;exact⟨⟨_,_,rfl,rfl,rfl,rfl,rfl,rfl⟩,⟨_,rfl,rfl⟩,rfl⟩
 ·cases h;exact⟨⟨_,_,rfl,rfl,rfl,rfl,rfl,rfl⟩,⟨_,rfl,rfl⟩,rfl⟩
 ·cases h;exact⟨⟨_,_,rfl,rfl,rfl,rfl,rfl,rfl⟩,⟨_,rfl,rfl⟩,rfl⟩
 ·cases h;exact⟨⟨_,_,rfl,rfl,rfl,rfl,rfl,rfl⟩,⟨_,rfl,rfl⟩,rfl⟩
 ·cases h;exact⟨⟨_,_,rfl,rfl,rfl,rfl,rfl,rfl⟩,⟨_,rfl,⟨_,rfl,rfl⟩⟩,rfl⟩
 ·cases h;exact⟨⟨_,_,rfl,rfl,rfl,rfl,rfl,rfl⟩,⟨_,rfl,rfl⟩,rfl⟩
 ·cases h;exact⟨⟨_,_,rfl,rfl,rfl,rfl,rfl,rfl⟩,⟨_,rfl,rfl⟩,rfl⟩
 ·cases h;exact⟨⟨_,_,rfl,rfl,rfl,rfl,rfl,rfl⟩,⟨_,rfl,rfl⟩,rfl⟩
 ·cases h;exact⟨⟨_,_,rfl,rfl,rfl,rfl,rfl,rfl⟩,⟨_,rfl,rfl⟩,rfl⟩
 ·cases h;exact⟨⟨_,_,rfl,rfl,rfl,rfl,rfl,rfl⟩,⟨_,rfl,rfl⟩,rfl⟩
 ·cases h;exact⟨⟨_,_,rfl,rfl,rfl,rfl,rfl,rfl⟩,⟨_,rfl,rfl⟩,rfl⟩
 ·cases h;exact⟨⟨_,_,rfl,rfl,rfl,rfl,rfl,rfl⟩,⟨_,rfl,⟨_,rfl,rfl⟩⟩,rfl⟩
 ·cases h;exact⟨⟨_,_,rfl,rfl,rfl,rfl,rfl,rfl⟩,⟨_,rfl,⟨_,rfl,rfl⟩⟩,rfl⟩
 ·cases h;exact⟨⟨_,_,rfl,rfl,rfl,rfl,rfl,rfl⟩,⟨_,rfl,rfl⟩,rfl⟩
 ·cases h;exact⟨⟨_,_,rfl,rfl,rfl,rfl,rfl,rfl⟩,⟨_,rfl,rfl⟩,rfl⟩
 ·cases h;exact⟨⟨_,_,rfl,rfl,rfl,rfl,rfl,rfl⟩,⟨_,rfl,rfl⟩,rfl⟩
 ·cases h;exact⟨⟨_,_,rfl,rfl,rfl,rfl,rfl,rfl⟩,⟨_,rfl,rfl⟩,rfl⟩
 ·cases h
theorem hmo : Tryz.prog.follows .mixedOrders=true:=by rfl
instance : TKI Tryz.prog tbl:=⟨⟨hT⟩⟩
theorem Af(im:Nat->Bool){f:FuncId}{fn:Func}{c:Code}{args:List AV}{ret:AV}{H H':List Box}(hf:Tryz.prog.funcs[f]? = some fn){π:Prop}(e:π)(h:π->At Tryz.prog tbl im (Fr.f fn.ntmps H.length) (aFc tbl H.length fn.results.toList ret H') (.code c [] ⟨aBW 0 args,H⟩))(hb:fn.body=some c:=by exact rfl)(hk:Nat.ble args.length fn.ntmps=true:=by kernel_rfl):FnM Tryz.prog f H args ret H':=At.f im hT hmo hf hb e h hk
def De{im:Nat->Bool}{n:Fr}{Q:Exit->ASt->Prop}{p:Pt}{m:List Bool}{q:DQ}{τ:Type}{L R:EF->τ} := @DD.e _ Tryz.prog tbl im n Q p m q τ L R hT hmo
theorem tt3 : tbl 3=some ⟨1,8,(.v (.int .i64 0)),.int .i64⟩:=rfl
theorem tt5 : tbl 5=some ⟨1,1,(.v (.int .u8 0)),.int .u8⟩:=rfl
theorem tt42 : tbl 42=some ⟨1,8,(.v (.int .u64 0)),.int .u64⟩:=rfl
theorem tt43 : tbl 43=some ⟨1,4,(.v (.int .u32 0)),.int .u32⟩:=rfl
theorem tt44 : tbl 44=some ⟨8,8,(.arr 8 1 (ak 8 (.v (.int .u8 0)))),.arr 8 5⟩:=rfl
theorem tt54 : tbl 54=some ⟨3,24,(.arr 3 1 (ak 3 (.v (.int .i64 0)))),.arr 3 3⟩:=rfl
theorem tt58 : tbl 58=some ⟨3,24,(.st 3 [(.v (.int .i64 0)),(.v (.int .i64 0)),(.v (.int .i64 0))]),.st [(0,3),(1,3),(2,3)]⟩:=rfl
theorem aLH : EqT Tryz.prog 43 (α:=Int) k32 (λa b=>a==b) 1:=
 aHZ Tryz.underlying43
theorem aSs : EqT Tryz.prog 207 (α:=(Vector Int 8)) (eA 8 1 k32) (eqV (λa b=>a==b)) 2:=
 aDC (M:=8) hT tt43 Tryz.underlying207 (by kernel_rfl) (λ_=>rfl) rfl (λ_=>rfl) (λ_=>rfl) aLH
theorem aCo : EqT Tryz.prog 3 (α:=Int) j64 (λa b=>a==b) 1:=
 aHZ Tryz.underlying3
def aA.eq(a b:aA):Bool:=(λa b=>a==b) a.gX b.gX&&((λa b=>a==b) a.gY b.gY&&((λa b=>a==b) a.gZ b.gZ&&true))
theorem wJ : EqT Tryz.prog 58 (α:=aA) aA.enc aA.eq 2:=
 aBh (N:=3) Tryz.underlying58 (by kernel_rfl) (λ_=>rfl) (λa b=>mP hT a.gX b.gX (by decide) rfl tt3 rfl (λ_=>rfl) (λ_=>rfl) (λ_=>rfl) aCo (by decide) (mP hT a.gY b.gY (by decide) rfl tt3 rfl (λ_=>rfl) (λ_=>rfl) (λ_=>rfl) aCo (by decide) (mP hT a.gZ b.gZ (by decide) rfl tt3 rfl (λ_=>rfl) (λ_=>rfl) (λ_=>rfl) aCo (by decide) (aHO))))
theorem aJA : EqT Tryz.prog 54 (α:=(Vector Int 3)) (eA 3 1 j64) (eqV (λa b=>a==b)) 2:=
 aDC (M:=3) hT tt3 Tryz.underlying54 (by kernel_rfl) (λ_=>rfl) rfl (λ_=>rfl) (λ_=>rfl) aCo
def aG.eq(a b:aG):Bool:=(λa b=>a==b) a.gA b.gA&&((eqV (λa b=>a==b)) a.gF b.gF&&((λa b=>a==b) a.gW b.gW&&true))
theorem aIa : EqT Tryz.prog 56 (α:=aG) aG.enc aG.eq 3:=
 aBh (N:=5) Tryz.underlying56 (by kernel_rfl) (λ_=>rfl) (λa b=>mP hT a.gA b.gA (by decide) rfl tt3 rfl (λ_=>rfl) (λ_=>rfl) (λ_=>rfl) aCo (by decide) (mP hT a.gF b.gF (by decide) rfl tt54 rfl (λ_=>rfl) (λ_=>rfl) (λ_=>rfl) aJA (by decide) (mP hT a.gW b.gW (by decide) rfl tt3 rfl (λ_=>rfl) (λ_=>rfl) (λ_=>rfl) aCo (by decide) (aHO))))
def aL.eq(a b:aL):Bool:=(λa b=>a==b) a.gA b.gA&&((eqV (λa b=>a==b)) a.gF b.gF&&(aA.eq a.gAt b.gAt&&(aA.eq a.gU b.gU&&(aA.eq a.gV b.gV&&true))))
theorem aI7 : EqT Tryz.prog 60 (α:=aL) aL.enc aL.eq 3:=
 aBh (N:=13) Tryz.underlying60 (by kernel_rfl) (λ_=>rfl) (λa b=>mP hT a.gA b.gA (by decide) rfl tt3 rfl (λ_=>rfl) (λ_=>rfl) (λ_=>rfl) aCo (by decide) (mP hT a.gF b.gF (by decide) rfl tt54 rfl (λ_=>rfl) (λ_=>rfl) (λ_=>rfl) aJA (by decide) (mP hT a.gAt b.gAt (by decide) rfl tt58 rfl (λ_=>rfl) (λ_=>rfl) (λ_=>rfl) wJ (by decide) (mP hT a.gU b.gU (by decide) rfl tt58 rfl (λ_=>rfl) (λ_=>rfl) (λ_=>rfl) wJ (by decide) (mP hT a.gV b.gV (by decide) rfl tt58 rfl (λ_=>rfl) (λ_=>rfl) (λ_=>rfl) wJ (by decide) (aHO))))))
theorem aOC : EqT Tryz.prog 120 (α:=(Vector Int 2)) (eA 2 1 j64) (eqV (λa b=>a==b)) 2:=
 aDC (M:=2) hT tt3 Tryz.underlying120 (by kernel_rfl) (λ_=>rfl) rfl (λ_=>rfl) (λ_=>rfl) aCo
theorem aWw : EqT Tryz.prog 42 (α:=Int) k64 (λa b=>a==b) 1:=
 aHZ Tryz.underlying42
theorem eqT_5 : EqT Tryz.prog 5 (α:=Int) k8 (λa b=>a==b) 1:=
 aHZ Tryz.underlying5
theorem aXK : EqT Tryz.prog 44 (α:=(Vector Int 8)) (eA 8 1 k8) (eqV (λa b=>a==b)) 2:=
 aDC (M:=8) hT tt5 Tryz.underlying44 (by kernel_rfl) (λ_=>rfl) rfl (λ_=>rfl) (λ_=>rfl) eqT_5
def aE.eq(a b:aE):Bool:=(λa b=>a==b) a.gId b.gId&&((λa b=>a==b) a.gA b.gA&&((λa b=>a==b) a.gA3 b.gA3&&((eqV (λa b=>a==b)) a.gA2 b.gA2&&((λa b=>a==b) a.gQ b.gQ&&((λa b=>a==b) a.gTo b.gTo&&((λa b=>a==b) a.gT b.gT&&((λa b=>a==b) a.gA0 b.gA0&&true)))))))
theorem aVi : EqT Tryz.prog 46 (α:=aE) aE.enc aE.eq 3:=
 aBh (N:=15) Tryz.underlying46 (by kernel_rfl) (λ_=>rfl) (λa b=>mP hT a.gId b.gId (by decide) rfl tt42 rfl (λ_=>rfl) (λ_=>rfl) (λ_=>rfl) aWw (by decide) (mP hT a.gA b.gA (by decide) rfl tt3 rfl (λ_=>rfl) (λ_=>rfl) (λ_=>rfl) aCo (by decide) (mP hT a.gA3 b.gA3 (by decide) rfl tt43 rfl (λ_=>rfl) (λ_=>rfl) (λ_=>rfl) aLH (by decide) (mP hT a.gA2 b.gA2 (by decide) rfl tt44 rfl (λ_=>rfl) (λ_=>rfl) (λ_=>rfl) aXK (by decide) (mP hT a.gQ b.gQ (by decide) rfl tt43 rfl (λ_=>rfl) (λ_=>rfl) (λ_=>rfl) aLH (by decide) (mP hT a.gTo b.gTo (by decide) rfl tt43 rfl (λ_=>rfl) (λ_=>rfl) (λ_=>rfl) aLH (by decide) (mP hT a.gT b.gT (by decide) rfl tt3 rfl (λ_=>rfl) (λ_=>rfl) (λ_=>rfl) aCo (by decide) (mP hT a.gA0 b.gA0 (by decide) rfl tt3 rfl (λ_=>rfl) (λ_=>rfl) (λ_=>rfl) aCo (by decide) (aHO)))))))))
def aMx : ByteArray:=(ByteArray.mk #[117,109,98,114,97,32,98,117,110,100,108,101,32,107,101,121])
def aOc : ByteArray:=(ByteArray.mk #[101,120,112,97,110,100,32,51,50,45,98,121,116,101,32,107])
end Go.UK
