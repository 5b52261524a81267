/- A part of the proof: what the functions of the program compute. -/
import Derived.Test.YtidamaopieegkaaGreatDoorLib15
import Derived.Test.YtidamaopieegkaaGreatDoorChecked
open List renaming append→fq,replicate→al
namespace Go.UK
open Go Go.Proofs
set_option maxRecDepth 20000
set_option maxHeartbeats 40000000
set_option linter.all false
instance : bJ:=⟨⟨[],[]⟩⟩
structure bR where
 gX:Int
 gY:Int
 gZ:Int
def bR.enc(s:bR):AV := .st 3 [(j64 s.gX),(j64 s.gY),(j64 s.gZ)]
structure aX where
 gM:(Vector Int 9)
 gT:bR
def aX.enc(s:aX):AV := .st 12 [(eA 9 1 j64 s.gM),(bR.enc s.gT)]
structure aN where
 gK:Int
 gI:Int
 gG:Int
 gN:Int
 gT:aX
def aN.enc(s:aN):AV := .st 16 [(j64 s.gK),(j64 s.gI),(j64 s.gG),(j64 s.gN),(aX.enc s.gT)]
structure aG where
 gX:Int
 gY:Int
 gZ:Int
def aG.enc(s:aG):AV := .st 3 [(j64 s.gX),(j64 s.gY),(j64 s.gZ)]
structure bA where
 gA5:aG
 gA2:aG
 gUp:aG
 gA1:aG
 gS:Int
 gR:Int
def bA.enc(s:bA):AV := .st 14 [(aG.enc s.gA5),(aG.enc s.gA2),(aG.enc s.gUp),(aG.enc s.gA1),(j64 s.gS),(j64 s.gR)]
structure aD where
 gW:Int
 gH:Int
 gB2:Int
 gB1:Int
 gA9:Int
 gA3:Int
 gD:bA
 gA6:Bool
def aD.enc(s:aD):AV := .st 21 [(j64 s.gW),(j64 s.gH),(j64 s.gB2),(j64 s.gB1),(j64 s.gA9),(k64 s.gA3),(bA.enc s.gD),(eB s.gA6)]
structure aF where
 gE:Int
 gQ:Int
 gL:(List Int)
 gC:aN
 gF:Int
 gB0:aD
 gA7:Int
 gJ:Int
 gA0:Int
 gA4:Int
 gA8:Int
def aF.enc(s:aF):AV := .st 46 [(j64 s.gE),(j64 s.gQ),(eL 1 k8 s.gL),(aN.enc s.gC),(j64 s.gF),(aD.enc s.gB0),(j64 s.gA7),(j64 s.gJ),(k32 s.gA0),(j64 s.gA4),(j64 s.gA8)]
structure dA where
 gB4:Int
 gB7:(List Int)
 gB8:(List Int)
def dA.enc(s:dA):AV := .st 3 [(j64 s.gB4),(eL 1 j64 s.gB7),(eL 1 k8 s.gB8)]
structure aA where
 gb:(List Int)
 ge:Int
 gB3:Bool
def aA.enc(s:aA):AV := .st 3 [(eL 1 k8 s.gb),(j64 s.ge),(eB s.gB3)]
structure kT where
 gId:Int
 gE:Int
 gA0:Int
 gC8:(Vector Int 8)
 gB5:Int
 gTo:Int
 gC9:Int
 gD0:Int
def kT.enc(s:kT):AV := .st 15 [(k64 s.gId),(j64 s.gE),(k32 s.gA0),(eA 8 1 k8 s.gC8),(k32 s.gB5),(k32 s.gTo),(j64 s.gC9),(j64 s.gD0)]
structure pN where
 gD1:(List aG)
 gD2:(List (Vector Int 2))
 gB6:(List (Vector Int 3))
def pN.enc(s:pN):AV := .st 3 [(eL 3 aG.enc s.gD1),(eL 2 (eA 2 1 j64) s.gD2),(eL 3 (eA 3 1 j64) s.gB6)]
structure fY where
 gD3:Int
 gD4:(List (Vector Int 3))
def fY.enc(s:fY):AV := .st 2 [(j64 s.gD3),(eL 3 (eA 3 1 j64) s.gD4)]
structure fM where
 gE:Int
 gC5:(Vector Int 3)
 gD5:Int
def fM.enc(s:fM):AV := .st 5 [(j64 s.gE),(eA 3 1 j64 s.gC5),(j64 s.gD5)]
structure iZ where
 gE:Int
 gC5:(Vector Int 3)
 gAt:aG
 gU:aG
 gV:aG
def iZ.enc(s:iZ):AV := .st 13 [(j64 s.gE),(eA 3 1 j64 s.gC5),(aG.enc s.gAt),(aG.enc s.gU),(aG.enc s.gV)]
structure nP where
 gE:Int
 gK:pN
 gG:fY
 gI:fM
 gD6:iZ
def nP.enc(s:nP):AV := .st 24 [(j64 s.gE),(pN.enc s.gK),(fY.enc s.gG),(fM.enc s.gI),(iZ.enc s.gD6)]
structure aO where
 gQ:Int
 gM:kT
 gA:nP
def aO.enc(s:aO):AV := .st 40 [(j64 s.gQ),(kT.enc s.gM),(nP.enc s.gA)]
structure bF where
 gh:(Vector Int 8)
 gC6:(Vector Int 64)
 gn:Int
def bF.enc(s:bF):AV := .st 73 [(eA 8 1 k32 s.gh),(eA 64 1 k8 s.gC6),(j64 s.gn)]
structure aS where
 gD7:Int
 gD8:Int
 gJ:Int
 gB4:Int
 gD9:(Vector Int 32)
def aS.enc(s:aS):AV := .st 36 [(j64 s.gD7),(k32 s.gD8),(j64 s.gJ),(j64 s.gB4),(eA 32 1 k8 s.gD9)]
structure aC where
 gE0:Int
 gE1:Int
 gE2:Int
def aC.enc(s:aC):AV := .st 3 [(k32 s.gE0),(j64 s.gE1),(j64 s.gE2)]
structure bG where
 gE3:Int
 gE4:Int
 gE5:Int
def bG.enc(s:bG):AV := .st 3 [(j64 s.gE3),(j64 s.gE4),(j64 s.gE5)]
structure dY where
 gC7:(Vector Int 32)
 gE6:Int
 gB3:Bool
def dY.enc(s:dY):AV := .st 34 [(eA 32 1 k8 s.gC7),(k32 s.gE6),(eB s.gB3)]
structure aE where
 gB9:dY
 gl:(List aS)
def aE.enc(s:aE):AV := .st 35 [(dY.enc s.gB9),(eL 36 aS.enc s.gl)]
structure oO where
 gP:(Vector aG 3)
 gUv:(Vector (Vector Int 2) 3)
 gE7:Int
 gE8:Int
 gE9:Int
 gF0:Int
def oO.enc(s:oO):AV := .st 19 [(eA 9 3 aG.enc s.gP),(eA 6 2 (eA 2 1 j64) s.gUv),(j64 s.gE7),(j64 s.gE8),(j64 s.gE9),(k8 s.gF0)]
structure cI where
 gB6:(List oO)
 gC0:(List fM)
 gC1:(List fY)
 gC2:(List iZ)
 gC3:(List Int)
 gC4:(List Int)
 gA0:Int
 gB5:Int
 gTo:Int
def cI.enc(s:cI):AV := .st 9 [(eL 19 oO.enc s.gB6),(eL 5 fM.enc s.gC0),(eL 2 fY.enc s.gC1),(eL 13 iZ.enc s.gC2),(eL 1 k64 s.gC3),(eL 1 k32 s.gC4),(k32 s.gA0),(k32 s.gB5),(k32 s.gTo)]
def tbl : TypeId->Option TI
 | 2=>some ⟨1,8,(.v (.int .i64 0)),.int .i64⟩
 | 3=>some ⟨1,8,(.v (.int .i64 0)),.int .i64⟩
 | 4=>some ⟨1,1,(.v (.bool false)),.bool⟩
 | 5=>some ⟨1,1,(.v (.int .u8 0)),.int .u8⟩
 | 9=>some ⟨1,16,(.v (.string (ByteArray.mk #[]))),.str⟩
 | 22=>some ⟨1,24,(.v (.slice none 0 0)),.sl 57⟩
 | 23=>some ⟨1,8,(.v (.int .i64 0)),.int .i64⟩
 | 24=>some ⟨1,24,(.v (.slice none 0 0)),.sl 3⟩
 | 25=>some ⟨1,24,(.v (.slice none 0 0)),.sl 5⟩
 | 27=>some ⟨3,56,(.st 3 [(.v (.int .i64 0)),(.v (.slice none 0 0)),(.v (.slice none 0 0))]),.st [(0,23),(1,24),(2,25)]⟩
 | 40=>some ⟨1,8,(.v (.int .i64 0)),.int .i64⟩
 | 41=>some ⟨9,72,(.arr 9 1 (al 9 (.v (.int .i64 0)))),.arr 9 40⟩
 | 43=>some ⟨3,24,(.st 3 [(.v (.int .i64 0)),(.v (.int .i64 0)),(.v (.int .i64 0))]),.st [(0,40),(1,40),(2,40)]⟩
 | 45=>some ⟨12,96,(.st 12 [(.arr 9 1 (al 9 (.v (.int .i64 0)))),(.st 3 [(.v (.int .i64 0)),(.v (.int .i64 0)),(.v (.int .i64 0))])]),.st [(0,41),(9,43)]⟩
 | 47=>some ⟨16,128,(.st 16 [(.v (.int .i64 0)),(.v (.int .i64 0)),(.v (.int .i64 0)),(.v (.int .i64 0)),(.st 12 [(.arr 9 1 (al 9 (.v (.int .i64 0)))),(.st 3 [(.v (.int .i64 0)),(.v (.int .i64 0)),(.v (.int .i64 0))])])]),.st [(0,3),(1,3),(2,3),(3,3),(4,45)]⟩
 | 48=>some ⟨1,8,(.v (.int .u64 0)),.int .u64⟩
 | 50=>some ⟨3,24,(.st 3 [(.v (.int .i64 0)),(.v (.int .i64 0)),(.v (.int .i64 0))]),.st [(0,3),(1,3),(2,3)]⟩
 | 52=>some ⟨14,112,(.st 14 [(.st 3 [(.v (.int .i64 0)),(.v (.int .i64 0)),(.v (.int .i64 0))]),(.st 3 [(.v (.int .i64 0)),(.v (.int .i64 0)),(.v (.int .i64 0))]),(.st 3 [(.v (.int .i64 0)),(.v (.int .i64 0)),(.v (.int .i64 0))]),(.st 3 [(.v (.int .i64 0)),(.v (.int .i64 0)),(.v (.int .i64 0))]),(.v (.int .i64 0)),(.v (.int .i64 0))]),.st [(0,50),(3,50),(6,50),(9,50),(12,3),(13,3)]⟩
 | 54=>some ⟨21,168,(.st 21 [(.v (.int .i64 0)),(.v (.int .i64 0)),(.v (.int .i64 0)),(.v (.int .i64 0)),(.v (.int .i64 0)),(.v (.int .u64 0)),(.st 14 [(.st 3 [(.v (.int .i64 0)),(.v (.int .i64 0)),(.v (.int .i64 0))]),(.st 3 [(.v (.int .i64 0)),(.v (.int .i64 0)),(.v (.int .i64 0))]),(.st 3 [(.v (.int .i64 0)),(.v (.int .i64 0)),(.v (.int .i64 0))]),(.st 3 [(.v (.int .i64 0)),(.v (.int .i64 0)),(.v (.int .i64 0))]),(.v (.int .i64 0)),(.v (.int .i64 0))]),(.v (.bool false))]),.st [(0,3),(1,3),(2,3),(3,3),(4,3),(5,48),(6,52),(20,4)]⟩
 | 55=>some ⟨1,4,(.v (.int .u32 0)),.int .u32⟩
 | 57=>some ⟨46,384,(.st 46 [(.v (.int .i64 0)),(.v (.int .i64 0)),(.v (.slice none 0 0)),(.st 16 [(.v (.int .i64 0)),(.v (.int .i64 0)),(.v (.int .i64 0)),(.v (.int .i64 0)),(.st 12 [(.arr 9 1 (al 9 (.v (.int .i64 0)))),(.st 3 [(.v (.int .i64 0)),(.v (.int .i64 0)),(.v (.int .i64 0))])])]),(.v (.int .i64 0)),(.st 21 [(.v (.int .i64 0)),(.v (.int .i64 0)),(.v (.int .i64 0)),(.v (.int .i64 0)),(.v (.int .i64 0)),(.v (.int .u64 0)),(.st 14 [(.st 3 [(.v (.int .i64 0)),(.v (.int .i64 0)),(.v (.int .i64 0))]),(.st 3 [(.v (.int .i64 0)),(.v (.int .i64 0)),(.v (.int .i64 0))]),(.st 3 [(.v (.int .i64 0)),(.v (.int .i64 0)),(.v (.int .i64 0))]),(.st 3 [(.v (.int .i64 0)),(.v (.int .i64 0)),(.v (.int .i64 0))]),(.v (.int .i64 0)),(.v (.int .i64 0))]),(.v (.bool false))]),(.v (.int .i64 0)),(.v (.int .i64 0)),(.v (.int .u32 0)),(.v (.int .i64 0)),(.v (.int .i64 0))]),.st [(0,3),(1,3),(2,25),(3,47),(19,3),(20,54),(41,3),(42,3),(43,55),(44,3),(45,3)]⟩
 | 60=>some ⟨2,32,(.st 2 [(.v (.slice none 0 0)),(.v (.int .i64 0))]),.st [(0,25),(1,23)]⟩
 | 64=>some ⟨2,32,(.st 2 [(.v (.slice none 0 0)),(.v (.bool false))]),.st [(0,25),(1,4)]⟩
 | 69=>some ⟨1,24,(.v (.slice none 0 0)),.sl 48⟩
 | 71=>some ⟨32,32,(.arr 32 1 (al 32 (.v (.int .u8 0)))),.arr 32 5⟩
 | 72=>some ⟨1,8,(.v (.pointer none)),.ptr 89⟩
 | 75=>some ⟨1,8,(.st 1 [(.v (.pointer none))]),.st [(0,72)]⟩
 | 80=>some ⟨1,24,(.v (.slice none 0 0)),.sl 40⟩
 | 85=>some ⟨1,8,(.v (.pointer none)),.ptr 112⟩
 | 89=>some ⟨3,40,(.st 3 [(.v (.slice none 0 0)),(.v (.int .i64 0)),(.v (.bool false))]),.st [(0,25),(1,23),(2,4)]⟩
 | 99=>some ⟨1,8,(.v (.pointer none)),.ptr 145⟩
 | 101=>some ⟨1,8,(.v (.pointer none)),.ptr 221⟩
 | 102=>some ⟨1,8,(.v (.pointer none)),.ptr 151⟩
 | 104=>some ⟨3,24,(.st 3 [(.v (.int .u32 0)),(.v (.int .i64 0)),(.v (.int .i64 0))]),.st [(0,55),(1,3),(2,3)]⟩
 | 105=>some ⟨24,192,(.arr 24 3 (al 8 (.st 3 [(.v (.int .u32 0)),(.v (.int .i64 0)),(.v (.int .i64 0))]))),.arr 8 104⟩
 | 107=>some ⟨49,392,(.st 49 [(.st 21 [(.v (.int .i64 0)),(.v (.int .i64 0)),(.v (.int .i64 0)),(.v (.int .i64 0)),(.v (.int .i64 0)),(.v (.int .u64 0)),(.st 14 [(.st 3 [(.v (.int .i64 0)),(.v (.int .i64 0)),(.v (.int .i64 0))]),(.st 3 [(.v (.int .i64 0)),(.v (.int .i64 0)),(.v (.int .i64 0))]),(.st 3 [(.v (.int .i64 0)),(.v (.int .i64 0)),(.v (.int .i64 0))]),(.st 3 [(.v (.int .i64 0)),(.v (.int .i64 0)),(.v (.int .i64 0))]),(.v (.int .i64 0)),(.v (.int .i64 0))]),(.v (.bool false))]),(.v (.bool false)),(.v (.int .i64 0)),(.v (.pointer none)),(.v (.pointer none)),(.arr 24 3 (al 8 (.st 3 [(.v (.int .u32 0)),(.v (.int .i64 0)),(.v (.int .i64 0))])))]),.st [(0,54),(21,4),(22,3),(23,101),(24,102),(25,105)]⟩
 | 108=>some ⟨392,3136,(.st 392 (al 8 (.st 49 [(.st 21 [(.v (.int .i64 0)),(.v (.int .i64 0)),(.v (.int .i64 0)),(.v (.int .i64 0)),(.v (.int .i64 0)),(.v (.int .u64 0)),(.st 14 [(.st 3 [(.v (.int .i64 0)),(.v (.int .i64 0)),(.v (.int .i64 0))]),(.st 3 [(.v (.int .i64 0)),(.v (.int .i64 0)),(.v (.int .i64 0))]),(.st 3 [(.v (.int .i64 0)),(.v (.int .i64 0)),(.v (.int .i64 0))]),(.st 3 [(.v (.int .i64 0)),(.v (.int .i64 0)),(.v (.int .i64 0))]),(.v (.int .i64 0)),(.v (.int .i64 0))]),(.v (.bool false))]),(.v (.bool false)),(.v (.int .i64 0)),(.v (.pointer none)),(.v (.pointer none)),(.arr 24 3 (al 8 (.st 3 [(.v (.int .u32 0)),(.v (.int .i64 0)),(.v (.int .i64 0))])))]))),.arr 8 107⟩
 | 110=>some ⟨3,24,(.st 3 [(.v (.int .i64 0)),(.v (.int .i64 0)),(.v (.int .i64 0))]),.st [(0,3),(1,3),(2,3)]⟩
 | 112=>some ⟨429,3208,(.st 429 [(.arr 32 1 (al 32 (.v (.int .u8 0)))),(.v (.pointer none)),(.v (.int .u32 0)),(.st 392 (al 8 (.st 49 [(.st 21 [(.v (.int .i64 0)),(.v (.int .i64 0)),(.v (.int .i64 0)),(.v (.int .i64 0)),(.v (.int .i64 0)),(.v (.int .u64 0)),(.st 14 [(.st 3 [(.v (.int .i64 0)),(.v (.int .i64 0)),(.v (.int .i64 0))]),(.st 3 [(.v (.int .i64 0)),(.v (.int .i64 0)),(.v (.int .i64 0))]),(.st 3 [(.v (.int .i64 0)),(.v (.int .i64 0)),(.v (.int .i64 0))]),(.st 3 [(.v (.int .i64 0)),(.v (.int .i64 0)),(.v (.int .i64 0))]),(.v (.int .i64 0)),(.v (.int .i64 0))]),(.v (.bool false))]),(.v (.bool false)),(.v (.int .i64 0)),(.v (.pointer none)),(.v (.pointer none)),(.arr 24 3 (al 8 (.st 3 [(.v (.int .u32 0)),(.v (.int .i64 0)),(.v (.int .i64 0))])))]))),(.st 3 [(.v (.int .i64 0)),(.v (.int .i64 0)),(.v (.int .i64 0))])]),.st [(0,71),(32,99),(33,55),(34,108),(426,110)]⟩
 | 115=>some ⟨8,8,(.arr 8 1 (al 8 (.v (.int .u8 0)))),.arr 8 5⟩
 | 117=>some ⟨15,56,(.st 15 [(.v (.int .u64 0)),(.v (.int .i64 0)),(.v (.int .u32 0)),(.arr 8 1 (al 8 (.v (.int .u8 0)))),(.v (.int .u32 0)),(.v (.int .u32 0)),(.v (.int .i64 0)),(.v (.int .i64 0))]),.st [(0,48),(1,3),(2,55),(3,115),(11,55),(12,55),(13,3),(14,3)]⟩
 | 118=>some ⟨1,24,(.v (.slice none 0 0)),.sl 50⟩
 | 119=>some ⟨1,24,(.v (.slice none 0 0)),.sl 188⟩
 | 120=>some ⟨1,24,(.v (.slice none 0 0)),.sl 125⟩
 | 122=>some ⟨3,72,(.st 3 [(.v (.slice none 0 0)),(.v (.slice none 0 0)),(.v (.slice none 0 0))]),.st [(0,118),(1,119),(2,120)]⟩
 | 124=>some ⟨2,32,(.st 2 [(.v (.int .i64 0)),(.v (.slice none 0 0))]),.st [(0,3),(1,120)]⟩
 | 125=>some ⟨3,24,(.arr 3 1 (al 3 (.v (.int .i64 0)))),.arr 3 3⟩
 | 127=>some ⟨5,40,(.st 5 [(.v (.int .i64 0)),(.arr 3 1 (al 3 (.v (.int .i64 0)))),(.v (.int .i64 0))]),.st [(0,3),(1,125),(4,3)]⟩
 | 129=>some ⟨13,104,(.st 13 [(.v (.int .i64 0)),(.arr 3 1 (al 3 (.v (.int .i64 0)))),(.st 3 [(.v (.int .i64 0)),(.v (.int .i64 0)),(.v (.int .i64 0))]),(.st 3 [(.v (.int .i64 0)),(.v (.int .i64 0)),(.v (.int .i64 0))]),(.st 3 [(.v (.int .i64 0)),(.v (.int .i64 0)),(.v (.int .i64 0))])]),.st [(0,3),(1,125),(4,50),(7,50),(10,50)]⟩
 | 131=>some ⟨24,256,(.st 24 [(.v (.int .i64 0)),(.st 3 [(.v (.slice none 0 0)),(.v (.slice none 0 0)),(.v (.slice none 0 0))]),(.st 2 [(.v (.int .i64 0)),(.v (.slice none 0 0))]),(.st 5 [(.v (.int .i64 0)),(.arr 3 1 (al 3 (.v (.int .i64 0)))),(.v (.int .i64 0))]),(.st 13 [(.v (.int .i64 0)),(.arr 3 1 (al 3 (.v (.int .i64 0)))),(.st 3 [(.v (.int .i64 0)),(.v (.int .i64 0)),(.v (.int .i64 0))]),(.st 3 [(.v (.int .i64 0)),(.v (.int .i64 0)),(.v (.int .i64 0))]),(.st 3 [(.v (.int .i64 0)),(.v (.int .i64 0)),(.v (.int .i64 0))])])]),.st [(0,3),(1,122),(4,124),(6,127),(11,129)]⟩
 | 137=>some ⟨1,8,(.v (.pointer none)),.ptr 107⟩
 | 142=>some ⟨1,8,(.v (.map none)),.other⟩
 | 143=>some ⟨1,8,(.v (.map none)),.other⟩
 | 145=>some ⟨2,16,(.st 2 [(.v (.map none)),(.v (.map none))]),.st [(0,142),(1,143)]⟩
 | 148=>some ⟨34,40,(.st 34 [(.arr 32 1 (al 32 (.v (.int .u8 0)))),(.v (.int .u32 0)),(.v (.bool false))]),.st [(0,71),(32,55),(33,4)]⟩
 | 149=>some ⟨1,24,(.v (.slice none 0 0)),.sl 225⟩
 | 151=>some ⟨35,64,(.st 35 [(.st 34 [(.arr 32 1 (al 32 (.v (.int .u8 0)))),(.v (.int .u32 0)),(.v (.bool false))]),(.v (.slice none 0 0))]),.st [(0,148),(34,149)]⟩
 | 161=>some ⟨40,320,(.st 40 [(.v (.int .i64 0)),(.st 15 [(.v (.int .u64 0)),(.v (.int .i64 0)),(.v (.int .u32 0)),(.arr 8 1 (al 8 (.v (.int .u8 0)))),(.v (.int .u32 0)),(.v (.int .u32 0)),(.v (.int .i64 0)),(.v (.int .i64 0))]),(.st 24 [(.v (.int .i64 0)),(.st 3 [(.v (.slice none 0 0)),(.v (.slice none 0 0)),(.v (.slice none 0 0))]),(.st 2 [(.v (.int .i64 0)),(.v (.slice none 0 0))]),(.st 5 [(.v (.int .i64 0)),(.arr 3 1 (al 3 (.v (.int .i64 0)))),(.v (.int .i64 0))]),(.st 13 [(.v (.int .i64 0)),(.arr 3 1 (al 3 (.v (.int .i64 0)))),(.st 3 [(.v (.int .i64 0)),(.v (.int .i64 0)),(.v (.int .i64 0))]),(.st 3 [(.v (.int .i64 0)),(.v (.int .i64 0)),(.v (.int .i64 0))]),(.st 3 [(.v (.int .i64 0)),(.v (.int .i64 0)),(.v (.int .i64 0))])])])]),.st [(0,3),(1,117),(16,131)]⟩
 | 188=>some ⟨2,16,(.arr 2 1 (al 2 (.v (.int .i64 0)))),.arr 2 3⟩
 | 197=>some ⟨1,24,(.v (.slice none 0 0)),.sl 293⟩
 | 198=>some ⟨1,24,(.v (.slice none 0 0)),.sl 127⟩
 | 199=>some ⟨1,24,(.v (.slice none 0 0)),.sl 124⟩
 | 200=>some ⟨1,24,(.v (.slice none 0 0)),.sl 129⟩
 | 201=>some ⟨1,24,(.v (.slice none 0 0)),.sl 55⟩
 | 203=>some ⟨9,160,(.st 9 [(.v (.slice none 0 0)),(.v (.slice none 0 0)),(.v (.slice none 0 0)),(.v (.slice none 0 0)),(.v (.slice none 0 0)),(.v (.slice none 0 0)),(.v (.int .u32 0)),(.v (.int .u32 0)),(.v (.int .u32 0))]),.st [(0,197),(1,198),(2,199),(3,200),(4,69),(5,201),(6,55),(7,55),(8,55)]⟩
 | 216=>some ⟨93,304,(.st 93 [(.v (.int .i64 0)),(.st 21 [(.v (.int .i64 0)),(.v (.int .i64 0)),(.v (.int .i64 0)),(.v (.int .i64 0)),(.v (.int .i64 0)),(.v (.int .u64 0)),(.st 14 [(.st 3 [(.v (.int .i64 0)),(.v (.int .i64 0)),(.v (.int .i64 0))]),(.st 3 [(.v (.int .i64 0)),(.v (.int .i64 0)),(.v (.int .i64 0))]),(.st 3 [(.v (.int .i64 0)),(.v (.int .i64 0)),(.v (.int .i64 0))]),(.st 3 [(.v (.int .i64 0)),(.v (.int .i64 0)),(.v (.int .i64 0))]),(.v (.int .i64 0)),(.v (.int .i64 0))]),(.v (.bool false))]),(.st 3 [(.v (.int .i64 0)),(.v (.int .i64 0)),(.v (.int .i64 0))]),(.v (.slice none 0 0)),(.v (.int .u32 0)),(.v (.int .u32 0)),(.v (.int .u32 0)),(.arr 32 1 (al 32 (.v (.int .u8 0)))),(.arr 32 1 (al 32 (.v (.int .u8 0))))]),.st [(0,3),(1,54),(22,110),(25,69),(26,55),(27,55),(28,55),(29,71),(61,71)]⟩
 | 221=>some ⟨95,352,(.st 95 [(.v (.slice none 0 0)),(.v (.slice none 0 0)),(.st 93 [(.v (.int .i64 0)),(.st 21 [(.v (.int .i64 0)),(.v (.int .i64 0)),(.v (.int .i64 0)),(.v (.int .i64 0)),(.v (.int .i64 0)),(.v (.int .u64 0)),(.st 14 [(.st 3 [(.v (.int .i64 0)),(.v (.int .i64 0)),(.v (.int .i64 0))]),(.st 3 [(.v (.int .i64 0)),(.v (.int .i64 0)),(.v (.int .i64 0))]),(.st 3 [(.v (.int .i64 0)),(.v (.int .i64 0)),(.v (.int .i64 0))]),(.st 3 [(.v (.int .i64 0)),(.v (.int .i64 0)),(.v (.int .i64 0))]),(.v (.int .i64 0)),(.v (.int .i64 0))]),(.v (.bool false))]),(.st 3 [(.v (.int .i64 0)),(.v (.int .i64 0)),(.v (.int .i64 0))]),(.v (.slice none 0 0)),(.v (.int .u32 0)),(.v (.int .u32 0)),(.v (.int .u32 0)),(.arr 32 1 (al 32 (.v (.int .u8 0)))),(.arr 32 1 (al 32 (.v (.int .u8 0))))])]),.st [(0,25),(1,25),(2,216)]⟩
 | 225=>some ⟨36,64,(.st 36 [(.v (.int .i64 0)),(.v (.int .u32 0)),(.v (.int .i64 0)),(.v (.int .i64 0)),(.arr 32 1 (al 32 (.v (.int .u8 0))))]),.st [(0,3),(1,55),(2,3),(3,23),(4,71)]⟩
 | 228=>some ⟨1,24,(.v (.slice none 0 0)),.sl 25⟩
 | 229=>some ⟨1,8,(.v (.pointer none)),.ptr 301⟩
 | 258=>some ⟨1,8,(.v (.map none)),.other⟩
 | 260=>some ⟨12,184,(.st 12 [(.st 9 [(.v (.slice none 0 0)),(.v (.slice none 0 0)),(.v (.slice none 0 0)),(.v (.slice none 0 0)),(.v (.slice none 0 0)),(.v (.slice none 0 0)),(.v (.int .u32 0)),(.v (.int .u32 0)),(.v (.int .u32 0))]),(.v (.map none)),(.v (.map none)),(.v (.map none))]),.st [(0,203),(9,142),(10,258),(11,258)]⟩
 | 262=>some ⟨1,24,(.v (.slice none 0 0)),.sl 161⟩
 | 264=>some ⟨1,24,(.v (.slice none 0 0)),.sl 47⟩
 | 290=>some ⟨9,72,(.arr 9 3 (al 3 (.st 3 [(.v (.int .i64 0)),(.v (.int .i64 0)),(.v (.int .i64 0))]))),.arr 3 50⟩
 | 291=>some ⟨6,48,(.arr 6 2 (al 3 (.arr 2 1 (al 2 (.v (.int .i64 0)))))),.arr 3 188⟩
 | 293=>some ⟨19,152,(.st 19 [(.arr 9 3 (al 3 (.st 3 [(.v (.int .i64 0)),(.v (.int .i64 0)),(.v (.int .i64 0))]))),(.arr 6 2 (al 3 (.arr 2 1 (al 2 (.v (.int .i64 0)))))),(.v (.int .i64 0)),(.v (.int .i64 0)),(.v (.int .i64 0)),(.v (.int .u8 0))]),.st [(0,290),(9,291),(15,3),(16,3),(17,3),(18,5)]⟩
 | 298=>some ⟨8,32,(.arr 8 1 (al 8 (.v (.int .u32 0)))),.arr 8 55⟩
 | 299=>some ⟨64,64,(.arr 64 1 (al 64 (.v (.int .u8 0)))),.arr 64 5⟩
 | 301=>some ⟨73,104,(.st 73 [(.arr 8 1 (al 8 (.v (.int .u32 0)))),(.arr 64 1 (al 64 (.v (.int .u8 0)))),(.v (.int .i64 0))]),.st [(0,298),(8,299),(72,3)]⟩
 | 303=>some ⟨1,8,(.v (.int .u64 0)),.int .u64⟩
 | 383=>some ⟨64,256,(.arr 64 1 (al 64 (.v (.int .u32 0)))),.arr 64 55⟩
 | _=>none
theorem hT : TOK Tryz.prog tbl:=by
 intro t i h;unfold tbl at h;split at h
 ·cases h;exact⟨⟨_,_,rfl,rfl,rfl,rfl,rfl,rfl⟩,⟨_,rfl,rfl⟩,rfl⟩
 ·cases h;exact⟨⟨_,_,rfl,rfl,rfl,rfl,rfl,rfl⟩,⟨_,rfl,rfl⟩,rfl⟩
 ·cases h;exact⟨⟨_,_,rfl,rfl,rfl,rfl,rfl,rfl⟩,⟨_,rfl,rfl⟩,rfl⟩
 ·cases h;exact⟨⟨_,_,rfl,rfl,rfl,rfl,rfl,rfl⟩,⟨_,rfl,rfl⟩,rfl⟩
 ·cases h;exact⟨⟨_,_,rfl,rfl,rfl,rfl,rfl,rfl⟩,⟨_,rfl,rfl⟩,rfl⟩
 ·cases h;exact⟨⟨_,_,rfl,rfl,rfl,rfl,rfl,rfl⟩,⟨_,rfl,rfl⟩,rfl⟩
 ·cases h;exact⟨⟨_,_,rfl,rfl,rfl,rfl,rfl,rfl⟩,⟨_,rfl,rfl⟩,rfl⟩
 ·cases h;exact⟨⟨_,_,rfl,rfl,rfl,rfl,rfl,rfl⟩,⟨_,rfl,rfl⟩,rfl⟩
 ·cases h;exact⟨⟨_,_,rfl,rfl,rfl,rfl,rfl,rfl⟩,⟨_,rfl,rfl⟩,rfl⟩
 ·cases h;exact⟨⟨_,_,rfl,rfl,rfl,rfl,rfl,rfl⟩,⟨_,rfl,⟨_,rfl,rfl⟩⟩,rfl⟩
 ·cases h;exact⟨⟨_,_,rfl,rfl,rfl,rfl,rfl,rfl⟩,⟨_,rfl,rfl⟩,rfl⟩
 ·cases h;exact⟨⟨_,_,rfl,rfl,rfl,rfl,rfl,rfl⟩,⟨_,rfl,rfl⟩,rfl⟩
 ·cases h;exact⟨⟨_,_,rfl,rfl,rfl,rfl,rfl,rfl⟩,⟨_,rfl,⟨_,rfl,rfl⟩⟩,rfl⟩
 ·cases h;exact⟨⟨_,_,rfl,rfl,rfl,rfl,rfl,rfl⟩,⟨_,rfl,⟨_,rfl,rfl⟩⟩,rfl⟩
 ·cases h;exact⟨⟨_,_,rfl,rfl,rfl,rfl,rfl,rfl⟩,⟨_,rfl,⟨_,rfl,rfl⟩⟩,rfl⟩
 ·cases h;exact⟨⟨_,_,rfl,rfl,rfl,rfl,rfl,rfl⟩,⟨_,rfl,rfl⟩,rfl⟩
 ·cases h;exact⟨⟨_,_,rfl,rfl,rfl,rfl,rfl,rfl⟩,⟨_,rfl,⟨_,rfl,rfl⟩⟩,rfl⟩
 ·cases h;exact⟨⟨_,_,rfl,rfl,rfl,rfl,rfl,rfl⟩,⟨_,rfl,⟨_,rfl,rfl⟩⟩,rfl⟩
 ·cases h;exact⟨⟨_,_,rfl,rfl,rfl,rfl,rfl,rfl⟩,⟨_,rfl,⟨_,rfl,rfl⟩⟩,rfl⟩
 ·cases h;exact⟨⟨_,_,rfl,rfl,rfl,rfl,rfl,rfl⟩,⟨_,rfl,rfl⟩,rfl⟩
 ·cases h;exact⟨⟨_,_,rfl,rfl,rfl,rfl,rfl,rfl⟩,⟨_,rfl,⟨_,rfl,rfl⟩⟩,rfl⟩
 ·cases h;exact⟨⟨_,_,rfl,rfl,rfl,rfl,rfl,rfl⟩,⟨_,rfl,⟨_,rfl,rfl⟩⟩,rfl⟩
 ·cases h;exact⟨⟨_,_,rfl,rfl,rfl,rfl,rfl,rfl⟩,⟨_,rfl,⟨_,rfl,rfl⟩⟩,rfl⟩
 ·cases h;exact⟨⟨_,_,rfl,rfl,rfl,rfl,rfl,rfl⟩,⟨_,rfl,rfl⟩,rfl⟩
 ·cases h;exact⟨⟨_,_,rfl,rfl,rfl,rfl,rfl,rfl⟩,⟨_,rfl,rfl⟩,rfl⟩
 ·cases h;exact⟨⟨_,_,rfl,rfl,rfl,rfl,rfl,rfl⟩,⟨_,rfl,rfl⟩,rfl⟩
 ·cases h;exact⟨⟨_,_,rfl,rfl,rfl,rfl,rfl,rfl⟩,⟨_,rfl,⟨_,rfl,rfl⟩⟩,rfl⟩
 ·cases h;exact⟨⟨_,_,rfl,rfl,rfl,rfl,rfl,rfl⟩,⟨_,rfl,rfl⟩,rfl⟩
 ·cases h;exact⟨⟨_,_,rfl,rfl,rfl,rfl,rfl,rfl⟩,⟨_,rfl,rfl⟩,rfl⟩
 ·cases h;exact⟨⟨_,_,rfl,rfl,rfl,rfl,rfl,rfl⟩,⟨_,rfl,⟨_,rfl,rfl⟩⟩,rfl⟩
 ·cases h;exact⟨⟨_,_,rfl,rfl,rfl,rfl,rfl,rfl⟩,⟨_,rfl,rfl⟩,rfl⟩
 ·cases h;exact⟨⟨_,_,rfl,rfl,rfl,rfl,rfl,rfl⟩,⟨_,rfl,rfl⟩,rfl⟩
 ·cases h;exact⟨⟨_,_,rfl,rfl,rfl,rfl,rfl,rfl⟩,⟨_,rfl,rfl⟩,rfl⟩
 ·cases h;exact⟨⟨_,_,rfl,rfl,rfl,rfl,rfl,rfl⟩,⟨_,rfl,⟨_,rfl,rfl⟩⟩,rfl⟩
 ·cases h;exact⟨⟨_,_,rfl,rfl,rfl,rfl,rfl,rfl⟩,⟨_,rfl,rfl⟩,rfl⟩
 ·cases h;exact⟨⟨_,_,rfl,rfl,rfl,rfl,rfl,rfl⟩,⟨_,rfl,⟨_,rfl,rfl⟩⟩,rfl⟩
 ·cases h;exact⟨⟨_,_,rfl,rfl,rfl,rfl,rfl,rfl⟩,⟨_,rfl,rfl⟩,rfl⟩
 ·cases h;exact⟨⟨_,_,rfl,rfl,rfl,rfl,rfl,rfl⟩,⟨_,rfl,⟨_,rfl,rfl⟩⟩,rfl⟩
 ·cases h;exact⟨⟨_,_,rfl,rfl,rfl,rfl,rfl,rfl⟩,⟨_,rfl,⟨_,rfl,rfl⟩⟩,rfl⟩
 ·cases h;exact⟨⟨_,_,rfl,rfl,rfl,rfl,rfl,rfl⟩,⟨_,rfl,rfl⟩,rfl⟩
 ·cases h;exact⟨⟨_,_,rfl,rfl,rfl,rfl,rfl,rfl⟩,⟨_,rfl,⟨_,rfl,rfl⟩⟩,rfl⟩
 ·cases h;exact⟨⟨_,_,rfl,rfl,rfl,rfl,rfl,rfl⟩,⟨_,rfl,rfl⟩,rfl⟩
 ·cases h;exact⟨⟨_,_,rfl,rfl,rfl,rfl,rfl,rfl⟩,⟨_,rfl,rfl⟩,rfl⟩
 ·cases h;exact⟨⟨_,_,rfl,rfl,rfl,rfl,rfl,rfl⟩,⟨_,rfl,rfl⟩,rfl⟩
 ·cases h;exact⟨⟨_,_,rfl,rfl,rfl,rfl,rfl,rfl⟩,⟨_,rfl,⟨_,rfl,rfl⟩⟩,rfl⟩
 ·cases h;exact⟨⟨_,_,rfl,rfl,rfl,rfl,rfl,rfl⟩,⟨_,rfl,⟨_,rfl,rfl⟩⟩,rfl⟩
 ·cases h;exact⟨⟨_,_,rfl,rfl,rfl,rfl,rfl,rfl⟩,⟨_,rfl,rfl⟩,rfl⟩
 ·cases h;exact⟨⟨_,_,rfl,rfl,rfl,rfl,rfl,rfl⟩,⟨_,rfl,⟨_,rfl,rfl⟩⟩,rfl⟩
 ·cases h;exact⟨⟨_,_,rfl,rfl,rfl,rfl,rfl,rfl⟩,⟨_,rfl,⟨_,rfl,rfl⟩⟩,rfl⟩
 ·cases h;exact⟨⟨_,_,rfl,rfl,rfl,rfl,rfl,rfl⟩,⟨_,rfl,⟨_,rfl,rfl⟩⟩,rfl⟩
 ·cases h;exact⟨⟨_,_,rfl,rfl,rfl,rfl,rfl,rfl⟩,⟨_,rfl,rfl⟩,rfl⟩
 ·cases h;exact⟨⟨_,_,rfl,rfl,rfl,rfl,rfl,rfl⟩,⟨_,rfl,(by unfold TK.fits;exact⟨(by intro fs h;cases h),(by intro n e h;cases h)⟩)⟩,rfl⟩
 ·cases h;exact⟨⟨_,_,rfl,rfl,rfl,rfl,rfl,rfl⟩,⟨_,rfl,(by unfold TK.fits;exact⟨(by intro fs h;cases h),(by intro n e h;cases h)⟩)⟩,rfl⟩
 ·cases h;exact⟨⟨_,_,rfl,rfl,rfl,rfl,rfl,rfl⟩,⟨_,rfl,⟨_,rfl,rfl⟩⟩,rfl⟩
 ·cases h;exact⟨⟨_,_,rfl,rfl,rfl,rfl,rfl,rfl⟩,⟨_,rfl,⟨_,rfl,rfl⟩⟩,rfl⟩
 ·cases h;exact⟨⟨_,_,rfl,rfl,rfl,rfl,rfl,rfl⟩,⟨_,rfl,rfl⟩,rfl⟩
 ·cases h;exact⟨⟨_,_,rfl,rfl,rfl,rfl,rfl,rfl⟩,⟨_,rfl,⟨_,rfl,rfl⟩⟩,rfl⟩
 ·cases h;exact⟨⟨_,_,rfl,rfl,rfl,rfl,rfl,rfl⟩,⟨_,rfl,⟨_,rfl,rfl⟩⟩,rfl⟩
 ·cases h;exact⟨⟨_,_,rfl,rfl,rfl,rfl,rfl,rfl⟩,⟨_,rfl,rfl⟩,rfl⟩
 ·cases h;exact⟨⟨_,_,rfl,rfl,rfl,rfl,rfl,rfl⟩,⟨_,rfl,rfl⟩,rfl⟩
 ·cases h;exact⟨⟨_,_,rfl,rfl,rfl,rfl,rfl,rfl⟩,⟨_,rfl,rfl⟩,rfl⟩
 ·cases h;exact⟨⟨_,_,rfl,rfl,rfl,rfl,rfl,rfl⟩,⟨_,rfl,rfl⟩,rfl⟩
 ·cases h;exact⟨⟨_,_,rfl,rfl,rfl,rfl,rfl,rfl⟩,⟨_,rfl,rfl⟩,rfl⟩
 ·cases h;exact⟨⟨_,_,rfl,rfl,rfl,rfl,rfl,rfl⟩,⟨_,rfl,rfl⟩,rfl⟩
 ·cases h;exact⟨⟨_,_,rfl,rfl,rfl,rfl,rfl,rfl⟩,⟨_,rfl,⟨_,rfl,rfl⟩⟩,rfl⟩
 ·cases h;exact⟨⟨_,_,rfl,rfl,rfl,rfl,rfl,rfl⟩,⟨_,rfl,⟨_,rfl,rfl⟩⟩,rfl⟩
 ·cases h;exact⟨⟨_,_,rfl,rfl,rfl,rfl,rfl,rfl⟩,⟨_,rfl,⟨_,rfl,rfl⟩⟩,rfl⟩
 ·cases h;exact⟨⟨_,_,rfl,rfl,rfl,rfl,rfl,rfl⟩,⟨_,rfl,⟨_,rfl,rfl⟩⟩,rfl⟩
 ·cases h;exact⟨⟨_,_,rfl,rfl,rfl,rfl,rfl,rfl⟩,⟨_,rfl,rfl⟩,rfl⟩
 ·cases h;exact⟨⟨_,_,rfl,rfl,rfl,rfl,rfl,rfl⟩,⟨_,rfl,rfl⟩,rfl⟩
 ·cases h;exact⟨⟨_,_,rfl,rfl,rfl,rfl,rfl,rfl⟩,⟨_,rfl,(by unfold TK.fits;exact⟨(by intro fs h;cases h),(by intro n e h;cases h)⟩)⟩,rfl⟩
 ·cases h;exact⟨⟨_,_,rfl,rfl,rfl,rfl,rfl,rfl⟩,⟨_,rfl,⟨_,rfl,rfl⟩⟩,rfl⟩
 ·cases h;exact⟨⟨_,_,rfl,rfl,rfl,rfl,rfl,rfl⟩,⟨_,rfl,rfl⟩,rfl⟩
 ·cases h;exact⟨⟨_,_,rfl,rfl,rfl,rfl,rfl,rfl⟩,⟨_,rfl,rfl⟩,rfl⟩
 ·cases h;exact⟨⟨_,_,rfl,rfl,rfl,rfl,rfl,rfl⟩,⟨_,rfl,rfl⟩,rfl⟩
 ·cases h;exact⟨⟨_,_,rfl,rfl,rfl,rfl,rfl,rfl⟩,⟨_,rfl,rfl⟩,rfl⟩
 ·cases h;exact⟨⟨_,_,rfl,rfl,rfl,rfl,rfl,rfl⟩,⟨_,rfl,⟨_,rfl,rfl⟩⟩,rfl⟩
 ·cases h;exact⟨⟨_,_,rfl,rfl,rfl,rfl,rfl,rfl⟩,⟨_,rfl,rfl⟩,rfl⟩
 ·cases h;exact⟨⟨_,_,rfl,rfl,rfl,rfl,rfl,rfl⟩,⟨_,rfl,rfl⟩,rfl⟩
 ·cases h;exact⟨⟨_,_,rfl,rfl,rfl,rfl,rfl,rfl⟩,⟨_,rfl,⟨_,rfl,rfl⟩⟩,rfl⟩
 ·cases h;exact⟨⟨_,_,rfl,rfl,rfl,rfl,rfl,rfl⟩,⟨_,rfl,rfl⟩,rfl⟩
 ·cases h;exact⟨⟨_,_,rfl,rfl,rfl,rfl,rfl,rfl⟩,⟨_,rfl,rfl⟩,rfl⟩
 ·cases h
theorem hmo : Tryz.prog.follows .mixedOrders=true:=by rfl
theorem tt55 : tbl 55=some ⟨1,4,(.v (.int .u32 0)),.int .u32⟩:=rfl
theorem aIH : EqT Tryz.prog 55 (α:=Int) k32 (λa b=>a==b) 1:=
 aGd Tryz.underlying55
theorem aG5 : EqT Tryz.prog 298 (α:=(Vector Int 8)) (eA 8 1 k32) (eqV (λa b=>a==b)) 2:=
 aEG (M:=8) hT tt55 Tryz.underlying298 (by kernel_rfl) (λ_=>rfl) rfl (λ_=>rfl) (λ_=>rfl) aIH
def str_0 : ByteArray:=(ByteArray.mk (List.toArray (fq (fq [0,1,2,2,3,3,3,3,4,4,4,4,4,4,4,4,5,5,5,5,5,5,5,5,5,5,5,5,5,5,5,5,6,6,6,6,6,6,6,6,6,6,6,6,6,6,6,6,6,6,6,6,6,6,6,6,6,6,6,6,6,6,6,6] [7,7,7,7,7,7,7,7,7,7,7,7,7,7,7,7,7,7,7,7,7,7,7,7,7,7,7,7,7,7,7,7,7,7,7,7,7,7,7,7,7,7,7,7,7,7,7,7,7,7,7,7,7,7,7,7,7,7,7,7,7,7,7,7]) (fq [8,8,8,8,8,8,8,8,8,8,8,8,8,8,8,8,8,8,8,8,8,8,8,8,8,8,8,8,8,8,8,8,8,8,8,8,8,8,8,8,8,8,8,8,8,8,8,8,8,8,8,8,8,8,8,8,8,8,8,8,8,8,8,8] [8,8,8,8,8,8,8,8,8,8,8,8,8,8,8,8,8,8,8,8,8,8,8,8,8,8,8,8,8,8,8,8,8,8,8,8,8,8,8,8,8,8,8,8,8,8,8,8,8,8,8,8,8,8,8,8,8,8,8,8,8,8,8,8]))))
abbrev aBy : AV:=(.st 21 [(j64 0),(j64 0),(j64 0),(j64 0),(j64 0),(k64 0),(.st 14 [(.st 3 [(j64 0),(j64 0),(j64 0)]),(.st 3 [(j64 0),(j64 0),(j64 0)]),(.st 3 [(j64 0),(j64 0),(j64 0)]),(.st 3 [(j64 0),(j64 0),(j64 0)]),(j64 0),(j64 0)]),(eB false)])
end Go.UK
