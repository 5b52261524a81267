/- A part of the proof: what the functions of the program compute. -/
import Derived.Test.YtidamaopieegkaaGreatDoorLib15
import Derived.Test.YtidamaopieegkaaGreatDoorChecked
open List renaming append→fc,replicate→aj
namespace Go.UK
open Go Go.Proofs
set_option maxRecDepth 20000
set_option maxHeartbeats 40000000
set_option linter.all false
instance : aZ:=⟨⟨[],[]⟩⟩
structure cP where
 gX:Int
 gY:Int
 gZ:Int
def cP.enc(s:cP):AV := .st 3 [(j64 s.gX),(j64 s.gY),(j64 s.gZ)]
structure bN where
 gM:(Vector Int 9)
 gT:cP
def bN.enc(s:bN):AV := .st 12 [(eA 9 1 j64 s.gM),(cP.enc s.gT)]
structure bI where
 gL:Int
 gQ:Int
 gR:Int
 gN:Int
 gT:bN
def bI.enc(s:bI):AV := .st 16 [(j64 s.gL),(j64 s.gQ),(j64 s.gR),(j64 s.gN),(bN.enc s.gT)]
structure aF where
 gX:Int
 gY:Int
 gZ:Int
def aF.enc(s:aF):AV := .st 3 [(j64 s.gX),(j64 s.gY),(j64 s.gZ)]
structure aV where
 gB2:aF
 gB3:aF
 gUp:aF
 gB4:aF
 gA4:Int
 gA5:Int
def aV.enc(s:aV):AV := .st 14 [(aF.enc s.gB2),(aF.enc s.gB3),(aF.enc s.gUp),(aF.enc s.gB4),(j64 s.gA4),(j64 s.gA5)]
structure aB where
 gW:Int
 gH:Int
 gA6:Int
 gA7:Int
 gA8:Int
 gS:Int
 gE:aV
 gA9:Bool
def aB.enc(s:aB):AV := .st 21 [(j64 s.gW),(j64 s.gH),(j64 s.gA6),(j64 s.gA7),(j64 s.gA8),(k64 s.gS),(aV.enc s.gE),(eB s.gA9)]
structure aL where
 gC:Int
 gK:Int
 gA1:(List Int)
 gD:bI
 gF:Int
 gB6:aB
 gB0:Int
 gI:Int
 gA0:Int
 gB1:Int
 gA2:Int
def aL.enc(s:aL):AV := .st 46 [(j64 s.gC),(j64 s.gK),(eL 1 k8 s.gA1),(bI.enc s.gD),(j64 s.gF),(aB.enc s.gB6),(j64 s.gB0),(j64 s.gI),(k32 s.gA0),(j64 s.gB1),(j64 s.gA2)]
structure aU where
 gA3:Int
 gG:(List Int)
 gJ:(List Int)
def aU.enc(s:aU):AV := .st 3 [(j64 s.gA3),(eL 1 j64 s.gG),(eL 1 k8 s.gJ)]
structure aE where
 gb:(List Int)
 ge:Int
 gB5:Bool
def aE.enc(s:aE):AV := .st 3 [(eL 1 k8 s.gb),(j64 s.ge),(eB s.gB5)]
structure lX where
 gId:Int
 gC:Int
 gA0:Int
 gC8:(Vector Int 8)
 gB7:Int
 gTo:Int
 gC9:Int
 gD0:Int
def lX.enc(s:lX):AV := .st 15 [(k64 s.gId),(j64 s.gC),(k32 s.gA0),(eA 8 1 k8 s.gC8),(k32 s.gB7),(k32 s.gTo),(j64 s.gC9),(j64 s.gD0)]
structure qN where
 gD1:(List aF)
 gD2:(List (Vector Int 2))
 gB8:(List (Vector Int 3))
def qN.enc(s:qN):AV := .st 3 [(eL 3 aF.enc s.gD1),(eL 2 (eA 2 1 j64) s.gD2),(eL 3 (eA 3 1 j64) s.gB8)]
structure iQ where
 gD3:Int
 gD4:(List (Vector Int 3))
def iQ.enc(s:iQ):AV := .st 2 [(j64 s.gD3),(eL 3 (eA 3 1 j64) s.gD4)]
structure fZ where
 gC:Int
 gC5:(Vector Int 3)
 gD5:Int
def fZ.enc(s:fZ):AV := .st 5 [(j64 s.gC),(eA 3 1 j64 s.gC5),(j64 s.gD5)]
structure kM where
 gC:Int
 gC5:(Vector Int 3)
 gAt:aF
 gU:aF
 gV:aF
def kM.enc(s:kM):AV := .st 13 [(j64 s.gC),(eA 3 1 j64 s.gC5),(aF.enc s.gAt),(aF.enc s.gU),(aF.enc s.gV)]
structure oP where
 gC:Int
 gL:qN
 gR:iQ
 gQ:fZ
 gD6:kM
def oP.enc(s:oP):AV := .st 24 [(j64 s.gC),(qN.enc s.gL),(iQ.enc s.gR),(fZ.enc s.gQ),(kM.enc s.gD6)]
structure aQ where
 gK:Int
 gM:lX
 gA:oP
def aQ.enc(s:aQ):AV := .st 40 [(j64 s.gK),(lX.enc s.gM),(oP.enc s.gA)]
structure bA where
 gh:(Vector Int 8)
 gC6:(Vector Int 64)
 gn:Int
def bA.enc(s:bA):AV := .st 73 [(eA 8 1 k32 s.gh),(eA 64 1 k8 s.gC6),(j64 s.gn)]
structure aO where
 gD7:Int
 gD8:Int
 gI:Int
 gA3:Int
 gD9:(Vector Int 32)
def aO.enc(s:aO):AV := .st 36 [(j64 s.gD7),(k32 s.gD8),(j64 s.gI),(j64 s.gA3),(eA 32 1 k8 s.gD9)]
structure aA where
 gE0:Int
 gE1:Int
 gE2:Int
def aA.enc(s:aA):AV := .st 3 [(k32 s.gE0),(j64 s.gE1),(j64 s.gE2)]
structure aY where
 gE3:Int
 gE4:Int
 gE5:Int
def aY.enc(s:aY):AV := .st 3 [(j64 s.gE3),(j64 s.gE4),(j64 s.gE5)]
structure eH where
 gC7:(Vector Int 32)
 gE6:Int
 gB5:Bool
def eH.enc(s:eH):AV := .st 34 [(eA 32 1 k8 s.gC7),(k32 s.gE6),(eB s.gB5)]
structure aD where
 gB9:eH
 gl:(List aO)
def aD.enc(s:aD):AV := .st 35 [(eH.enc s.gB9),(eL 36 aO.enc s.gl)]
structure pV where
 gP:(Vector aF 3)
 gUv:(Vector (Vector Int 2) 3)
 gE7:Int
 gE8:Int
 gE9:Int
 gF0:Int
def pV.enc(s:pV):AV := .st 19 [(eA 9 3 aF.enc s.gP),(eA 6 2 (eA 2 1 j64) s.gUv),(j64 s.gE7),(j64 s.gE8),(j64 s.gE9),(k8 s.gF0)]
structure cE where
 gB8:(List pV)
 gC0:(List fZ)
 gC1:(List iQ)
 gC2:(List kM)
 gC3:(List Int)
 gC4:(List Int)
 gA0:Int
 gB7:Int
 gTo:Int
def cE.enc(s:cE):AV := .st 9 [(eL 19 pV.enc s.gB8),(eL 5 fZ.enc s.gC0),(eL 2 iQ.enc s.gC1),(eL 13 kM.enc s.gC2),(eL 1 k64 s.gC3),(eL 1 k32 s.gC4),(k32 s.gA0),(k32 s.gB7),(k32 s.gTo)]
def tbl : TypeId->Option TI
 | 2=>some ⟨1,8,(.v (.int .i64 0)),.int .i64⟩
 | 3=>some ⟨1,8,(.v (.int .i64 0)),.int .i64⟩
 | 4=>some ⟨1,1,(.v (.bool false)),.bool⟩
 | 5=>some ⟨1,1,(.v (.int .u8 0)),.int .u8⟩
 | 9=>some ⟨1,16,(.v (.string (ByteArray.mk #[]))),.str⟩
 | 22=>some ⟨1,24,(.v (.slice none 0 0)),.sl 57⟩
 | 23=>some ⟨1,8,(.v (.int .i64 0)),.int .i64⟩
 | 24=>some ⟨1,24,(.v (.slice none 0 0)),.sl 3⟩
 | 25=>some ⟨1,24,(.v (.slice none 0 0)),.sl 5⟩
 | 27=>some ⟨3,56,(.st 3 [(.v (.int .i64 0)),(.v (.slice none 0 0)),(.v (.slice none 0 0))]),.st [(0,23),(1,24),(2,25)]⟩
 | 40=>some ⟨1,8,(.v (.int .i64 0)),.int .i64⟩
 | 41=>some ⟨9,72,(.arr 9 1 (aj 9 (.v (.int .i64 0)))),.arr 9 40⟩
 | 43=>some ⟨3,24,(.st 3 [(.v (.int .i64 0)),(.v (.int .i64 0)),(.v (.int .i64 0))]),.st [(0,40),(1,40),(2,40)]⟩
 | 45=>some ⟨12,96,(.st 12 [(.arr 9 1 (aj 9 (.v (.int .i64 0)))),(.st 3 [(.v (.int .i64 0)),(.v (.int .i64 0)),(.v (.int .i64 0))])]),.st [(0,41),(9,43)]⟩
 | 47=>some ⟨16,128,(.st 16 [(.v (.int .i64 0)),(.v (.int .i64 0)),(.v (.int .i64 0)),(.v (.int .i64 0)),(.st 12 [(.arr 9 1 (aj 9 (.v (.int .i64 0)))),(.st 3 [(.v (.int .i64 0)),(.v (.int .i64 0)),(.v (.int .i64 0))])])]),.st [(0,3),(1,3),(2,3),(3,3),(4,45)]⟩
 | 48=>some ⟨1,8,(.v (.int .u64 0)),.int .u64⟩
 | 50=>some ⟨3,24,(.st 3 [(.v (.int .i64 0)),(.v (.int .i64 0)),(.v (.int .i64 0))]),.st [(0,3),(1,3),(2,3)]⟩
 | 52=>some ⟨14,112,(.st 14 [(.st 3 [(.v (.int .i64 0)),(.v (.int .i64 0)),(.v (.int .i64 0))]),(.st 3 [(.v (.int .i64 0)),(.v (.int .i64 0)),(.v (.int .i64 0))]),(.st 3 [(.v (.int .i64 0)),(.v (.int .i64 0)),(.v (.int .i64 0))]),(.st 3 [(.v (.int .i64 0)),(.v (.int .i64 0)),(.v (.int .i64 0))]),(.v (.int .i64 0)),(.v (.int .i64 0))]),.st [(0,50),(3,50),(6,50),(9,50),(12,3),(13,3)]⟩
 | 54=>some ⟨21,168,(.st 21 [(.v (.int .i64 0)),(.v (.int .i64 0)),(.v (.int .i64 0)),(.v (.int .i64 0)),(.v (.int .i64 0)),(.v (.int .u64 0)),(.st 14 [(.st 3 [(.v (.int .i64 0)),(.v (.int .i64 0)),(.v (.int .i64 0))]),(.st 3 [(.v (.int .i64 0)),(.v (.int .i64 0)),(.v (.int .i64 0))]),(.st 3 [(.v (.int .i64 0)),(.v (.int .i64 0)),(.v (.int .i64 0))]),(.st 3 [(.v (.int .i64 0)),(.v (.int .i64 0)),(.v (.int .i64 0))]),(.v (.int .i64 0)),(.v (.int .i64 0))]),(.v (.bool false))]),.st [(0,3),(1,3),(2,3),(3,3),(4,3),(5,48),(6,52),(20,4)]⟩
 | 55=>some ⟨1,4,(.v (.int .u32 0)),.int .u32⟩
 | 57=>some ⟨46,384,(.st 46 [(.v (.int .i64 0)),(.v (.int .i64 0)),(.v (.slice none 0 0)),(.st 16 [(.v (.int .i64 0)),(.v (.int .i64 0)),(.v (.int .i64 0)),(.v (.int .i64 0)),(.st 12 [(.arr 9 1 (aj 9 (.v (.int .i64 0)))),(.st 3 [(.v (.int .i64 0)),(.v (.int .i64 0)),(.v (.int .i64 0))])])]),(.v (.int .i64 0)),(.st 21 [(.v (.int .i64 0)),(.v (.int .i64 0)),(.v (.int .i64 0)),(.v (.int .i64 0)),(.v (.int .i64 0)),(.v (.int .u64 0)),(.st 14 [(.st 3 [(.v (.int .i64 0)),(.v (.int .i64 0)),(.v (.int .i64 0))]),(.st 3 [(.v (.int .i64 0)),(.v (.int .i64 0)),(.v (.int .i64 0))]),(.st 3 [(.v (.int .i64 0)),(.v (.int .i64 0)),(.v (.int .i64 0))]),(.st 3 [(.v (.int .i64 0)),(.v (.int .i64 0)),(.v (.int .i64 0))]),(.v (.int .i64 0)),(.v (.int .i64 0))]),(.v (.bool false))]),(.v (.int .i64 0)),(.v (.int .i64 0)),(.v (.int .u32 0)),(.v (.int .i64 0)),(.v (.int .i64 0))]),.st [(0,3),(1,3),(2,25),(3,47),(19,3),(20,54),(41,3),(42,3),(43,55),(44,3),(45,3)]⟩
 | 60=>some ⟨2,32,(.st 2 [(.v (.slice none 0 0)),(.v (.int .i64 0))]),.st [(0,25),(1,23)]⟩
 | 64=>some ⟨2,32,(.st 2 [(.v (.slice none 0 0)),(.v (.bool false))]),.st [(0,25),(1,4)]⟩
 | 69=>some ⟨1,24,(.v (.slice none 0 0)),.sl 48⟩
 | 71=>some ⟨32,32,(.arr 32 1 (aj 32 (.v (.int .u8 0)))),.arr 32 5⟩
 | 72=>some ⟨1,8,(.v (.pointer none)),.ptr 89⟩
 | 75=>some ⟨1,8,(.st 1 [(.v (.pointer none))]),.st [(0,72)]⟩
 | 80=>some ⟨1,24,(.v (.slice none 0 0)),.sl 40⟩
 | 85=>some ⟨1,8,(.v (.pointer none)),.ptr 112⟩
 | 89=>some ⟨3,40,(.st 3 [(.v (.slice none 0 0)),(.v (.int .i64 0)),(.v (.bool false))]),.st [(0,25),(1,23),(2,4)]⟩
 | 99=>some ⟨1,8,(.v (.pointer none)),.ptr 145⟩
 | 101=>some ⟨1,8,(.v (.pointer none)),.ptr 221⟩
 | 102=>some ⟨1,8,(.v (.pointer none)),.ptr 151⟩
 | 104=>some ⟨3,24,(.st 3 [(.v (.int .u32 0)),(.v (.int .i64 0)),(.v (.int .i64 0))]),.st [(0,55),(1,3),(2,3)]⟩
 | 105=>some ⟨24,192,(.arr 24 3 (aj 8 (.st 3 [(.v (.int .u32 0)),(.v (.int .i64 0)),(.v (.int .i64 0))]))),.arr 8 104⟩
 | 107=>some ⟨49,392,(.st 49 [(.st 21 [(.v (.int .i64 0)),(.v (.int .i64 0)),(.v (.int .i64 0)),(.v (.int .i64 0)),(.v (.int .i64 0)),(.v (.int .u64 0)),(.st 14 [(.st 3 [(.v (.int .i64 0)),(.v (.int .i64 0)),(.v (.int .i64 0))]),(.st 3 [(.v (.int .i64 0)),(.v (.int .i64 0)),(.v (.int .i64 0))]),(.st 3 [(.v (.int .i64 0)),(.v (.int .i64 0)),(.v (.int .i64 0))]),(.st 3 [(.v (.int .i64 0)),(.v (.int .i64 0)),(.v (.int .i64 0))]),(.v (.int .i64 0)),(.v (.int .i64 0))]),(.v (.bool false))]),(.v (.bool false)),(.v (.int .i64 0)),(.v (.pointer none)),(.v (.pointer none)),(.arr 24 3 (aj 8 (.st 3 [(.v (.int .u32 0)),(.v (.int .i64 0)),(.v (.int .i64 0))])))]),.st [(0,54),(21,4),(22,3),(23,101),(24,102),(25,105)]⟩
 | 108=>some ⟨392,3136,(.st 392 (aj 8 (.st 49 [(.st 21 [(.v (.int .i64 0)),(.v (.int .i64 0)),(.v (.int .i64 0)),(.v (.int .i64 0)),(.v (.int .i64 0)),(.v (.int .u64 0)),(.st 14 [(.st 3 [(.v (.int .i64 0)),(.v (.int .i64 0)),(.v (.int .i64 0))]),(.st 3 [(.v (.int .i64 0)),(.v (.int .i64 0)),(.v (.int .i64 0))]),(.st 3 [(.v (.int .i64 0)),(.v (.int .i64 0)),(.v (.int .i64 0))]),(.st 3 [(.v (.int .i64 0)),(.v (.int .i64 0)),(.v (.int .i64 0))]),(.v (.int .i64 0)),(.v (.int .i64 0))]),(.v (.bool false))]),(.v (.bool false)),(.v (.int .i64 0)),(.v (.pointer none)),(.v (.pointer none)),(.arr 24 3 (aj 8 (.st 3 [(.v (.int .u32 0)),(.v (.int .i64 0)),(.v (.int .i64 0))])))]))),.arr 8 107⟩
 | 110=>some ⟨3,24,(.st 3 [(.v (.int .i64 0)),(.v (.int .i64 0)),(.v (.int .i64 0))]),.st [(0,3),(1,3),(2,3)]⟩
 | 112=>some ⟨429,3208,(.st 429 [(.arr 32 1 (aj 32 (.v (.int .u8 0)))),(.v (.pointer none)),(.v (.int .u32 0)),(.st 392 (aj 8 (.st 49 [(.st 21 [(.v (.int .i64 0)),(.v (.int .i64 0)),(.v (.int .i64 0)),(.v (.int .i64 0)),(.v (.int .i64 0)),(.v (.int .u64 0)),(.st 14 [(.st 3 [(.v (.int .i64 0)),(.v (.int .i64 0)),(.v (.int .i64 0))]),(.st 3 [(.v (.int .i64 0)),(.v (.int .i64 0)),(.v (.int .i64 0))]),(.st 3 [(.v (.int .i64 0)),(.v (.int .i64 0)),(.v (.int .i64 0))]),(.st 3 [(.v (.int .i64 0)),(.v (.int .i64 0)),(.v (.int .i64 0))]),(.v (.int .i64 0)),(.v (.int .i64 0))]),(.v (.bool false))]),(.v (.bool false)),(.v (.int .i64 0)),(.v (.pointer none)),(.v (.pointer none)),(.arr 24 3 (aj 8 (.st 3 [(.v (.int .u32 0)),(.v (.int .i64 0)),(.v (.int .i64 0))])))]))),(.st 3 [(.v (.int .i64 0)),(.v (.int .i64 0)),(.v (.int .i64 0))])]),.st [(0,71),(32,99),(33,55),(34,108),(426,110)]⟩
 | 115=>some ⟨8,8,(.arr 8 1 (aj 8 (.v (.int .u8 0)))),.arr 8 5⟩
 | 117=>some ⟨15,56,(.st 15 [(.v (.int .u64 0)),(.v (.int .i64 0)),(.v (.int .u32 0)),(.arr 8 1 (aj 8 (.v (.int .u8 0)))),(.v (.int .u32 0)),(.v (.int .u32 0)),(.v (.int .i64 0)),(.v (.int .i64 0))]),.st [(0,48),(1,3),(2,55),(3,115),(11,55),(12,55),(13,3),(14,3)]⟩
 | 118=>some ⟨1,24,(.v (.slice none 0 0)),.sl 50⟩
 | 119=>some ⟨1,24,(.v (.slice none 0 0)),.sl 188⟩
 | 120=>some ⟨1,24,(.v (.slice none 0 0)),.sl 125⟩
 | 122=>some ⟨3,72,(.st 3 [(.v (.slice none 0 0)),(.v (.slice none 0 0)),(.v (.slice none 0 0))]),.st [(0,118),(1,119),(2,120)]⟩
 | 124=>some ⟨2,32,(.st 2 [(.v (.int .i64 0)),(.v (.slice none 0 0))]),.st [(0,3),(1,120)]⟩
 | 125=>some ⟨3,24,(.arr 3 1 (aj 3 (.v (.int .i64 0)))),.arr 3 3⟩
 | 127=>some ⟨5,40,(.st 5 [(.v (.int .i64 0)),(.arr 3 1 (aj 3 (.v (.int .i64 0)))),(.v (.int .i64 0))]),.st [(0,3),(1,125),(4,3)]⟩
 | 129=>some ⟨13,104,(.st 13 [(.v (.int .i64 0)),(.arr 3 1 (aj 3 (.v (.int .i64 0)))),(.st 3 [(.v (.int .i64 0)),(.v (.int .i64 0)),(.v (.int .i64 0))]),(.st 3 [(.v (.int .i64 0)),(.v (.int .i64 0)),(.v (.int .i64 0))]),(.st 3 [(.v (.int .i64 0)),(.v (.int .i64 0)),(.v (.int .i64 0))])]),.st [(0,3),(1,125),(4,50),(7,50),(10,50)]⟩
 | 131=>some ⟨24,256,(.st 24 [(.v (.int .i64 0)),(.st 3 [(.v (.slice none 0 0)),(.v (.slice none 0 0)),(.v (.slice none 0 0))]),(.st 2 [(.v (.int .i64 0)),(.v (.slice none 0 0))]),(.st 5 [(.v (.int .i64 0)),(.arr 3 1 (aj 3 (.v (.int .i64 0)))),(.v (.int .i64 0))]),(.st 13 [(.v (.int .i64 0)),(.arr 3 1 (aj 3 (.v (.int .i64 0)))),(.st 3 [(.v (.int .i64 0)),(.v (.int .i64 0)),(.v (.int .i64 0))]),(.st 3 [(.v (.int .i64 0)),(.v (.int .i64 0)),(.v (.int .i64 0))]),(.st 3 [(.v (.int .i64 0)),(.v (.int .i64 0)),(.v (.int .i64 0))])])]),.st [(0,3),(1,122),(4,124),(6,127),(11,129)]⟩
 | 137=>some ⟨1,8,(.v (.pointer none)),.ptr 107⟩
 | 142=>some ⟨1,8,(.v (.map none)),.other⟩
 | 143=>some ⟨1,8,(.v (.map none)),.other⟩
 | 145=>some ⟨2,16,(.st 2 [(.v (.map none)),(.v (.map none))]),.st [(0,142),(1,143)]⟩
 | 148=>some ⟨34,40,(.st 34 [(.arr 32 1 (aj 32 (.v (.int .u8 0)))),(.v (.int .u32 0)),(.v (.bool false))]),.st [(0,71),(32,55),(33,4)]⟩
 | 149=>some ⟨1,24,(.v (.slice none 0 0)),.sl 225⟩
 | 151=>some ⟨35,64,(.st 35 [(.st 34 [(.arr 32 1 (aj 32 (.v (.int .u8 0)))),(.v (.int .u32 0)),(.v (.bool false))]),(.v (.slice none 0 0))]),.st [(0,148),(34,149)]⟩
 | 161=>some ⟨40,320,(.st 40 [(.v (.int .i64 0)),(.st 15 [(.v (.int .u64 0)),(.v (.int .i64 0)),(.v (.int .u32 0)),(.arr 8 1 (aj 8 (.v (.int .u8 0)))),(.v (.int .u32 0)),(.v (.int .u32 0)),(.v (.int .i64 0)),(.v (.int .i64 0))]),(.st 24 [(.v (.int .i64 0)),(.st 3 [(.v (.slice none 0 0)),(.v (.slice none 0 0)),(.v (.slice none 0 0))]),(.st 2 [(.v (.int .i64 0)),(.v (.slice none 0 0))]),(.st 5 [(.v (.int .i64 0)),(.arr 3 1 (aj 3 (.v (.int .i64 0)))),(.v (.int .i64 0))]),(.st 13 [(.v (.int .i64 0)),(.arr 3 1 (aj 3 (.v (.int .i64 0)))),(.st 3 [(.v (.int .i64 0)),(.v (.int .i64 0)),(.v (.int .i64 0))]),(.st 3 [(.v (.int .i64 0)),(.v (.int .i64 0)),(.v (.int .i64 0))]),(.st 3 [(.v (.int .i64 0)),(.v (.int .i64 0)),(.v (.int .i64 0))])])])]),.st [(0,3),(1,117),(16,131)]⟩
 | 188=>some ⟨2,16,(.arr 2 1 (aj 2 (.v (.int .i64 0)))),.arr 2 3⟩
 | 197=>some ⟨1,24,(.v (.slice none 0 0)),.sl 293⟩
 | 198=>some ⟨1,24,(.v (.slice none 0 0)),.sl 127⟩
 | 199=>some ⟨1,24,(.v (.slice none 0 0)),.sl 124⟩
 | 200=>some ⟨1,24,(.v (.slice none 0 0)),.sl 129⟩
 | 201=>some ⟨1,24,(.v (.slice none 0 0)),.sl 55⟩
 | 203=>some ⟨9,160,(.st 9 [(.v (.slice none 0 0)),(.v (.slice none 0 0)),(.v (.slice none 0 0)),(.v (.slice none 0 0)),(.v (.slice none 0 0)),(.v (.slice none 0 0)),(.v (.int .u32 0)),(.v (.int .u32 0)),(.v (.int .u32 0))]),.st [(0,197),(1,198),(2,199),(3,200),(4,69),(5,201),(6,55),(7,55),(8,55)]⟩
 | 216=>some ⟨93,304,(.st 93 [(.v (.int .i64 0)),(.st 21 [(.v (.int .i64 0)),(.v (.int .i64 0)),(.v (.int .i64 0)),(.v (.int .i64 0)),(.v (.int .i64 0)),(.v (.int .u64 0)),(.st 14 [(.st 3 [(.v (.int .i64 0)),(.v (.int .i64 0)),(.v (.int .i64 0))]),(.st 3 [(.v (.int .i64 0)),(.v (.int .i64 0)),(.v (.int .i64 0))]),(.st 3 [(.v (.int .i64 0)),(.v (.int .i64 0)),(.v (.int .i64 0))]),(.st 3 [(.v (.int .i64 0)),(.v (.int .i64 0)),(.v (.int .i64 0))]),(.v (.int .i64 0)),(.v (.int .i64 0))]),(.v (.bool false))]),(.st 3 [(.v (.int .i64 0)),(.v (.int .i64 0)),(.v (.int .i64 0))]),(.v (.slice none 0 0)),(.v (.int .u32 0)),(.v (.int .u32 0)),(.v (.int .u32 0)),(.arr 32 1 (aj 32 (.v (.int .u8 0)))),(.arr 32 1 (aj 32 (.v (.int .u8 0))))]),.st [(0,3),(1,54),(22,110),(25,69),(26,55),(27,55),(28,55),(29,71),(61,71)]⟩
 | 221=>some ⟨95,352,(.st 95 [(.v (.slice none 0 0)),(.v (.slice none 0 0)),(.st 93 [(.v (.int .i64 0)),(.st 21 [(.v (.int .i64 0)),(.v (.int .i64 0)),(.v (.int .i64 0)),(.v (.int .i64 0)),(.v (.int .i64 0)),(.v (.int .u64 0)),(.st 14 [(.st 3 [(.v (.int .i64 0)),(.v (.int .i64 0)),(.v (.int .i64 0))]),(.st 3 [(.v (.int .i64 0)),(.v (.int .i64 0)),(.v (.int .i64 0))]),(.st 3 [(.v (.int .i64 0)),(.v (.int .i64 0)),(.v (.int .i64 0))]),(.st 3 [(.v (.int .i64 0)),(.v (.int .i64 0)),(.v (.int .i64 0))]),(.v (.int .i64 0)),(.v (.int .i64 0))]),(.v (.bool false))]),(.st 3 [(.v (.int .i64 0)),(.v (.int .i64 0)),(.v (.int .i64 0))]),(.v (.slice none 0 0)),(.v (.int .u32 0)),(.v (.int .u32 0)),(.v (.int .u32 0)),(.arr 32 1 (aj 32 (.v (.int .u8 0)))),(.arr 32 1 (aj 32 (.v (.int .u8 0))))])]),.st [(0,25),(1,25),(2,216)]⟩
 | 225=>some ⟨36,64,(.st 36 [(.v (.int .i64 0)),(.v (.int .u32 0)),(.v (.int .i64 0)),(.v (.int .i64 0)),(.arr 32 1 (aj 32 (.v (.int .u8 0))))]),.st [(0,3),(1,55),(2,3),(3,23),(4,71)]⟩
 | 228=>some ⟨1,24,(.v (.slice none 0 0)),.sl 25⟩
 | 229=>some ⟨1,8,(.v (.pointer none)),.ptr 301⟩
 | 258=>some ⟨1,8,(.v (.map none)),.other⟩
 | 260=>some ⟨12,184,(.st 12 [(.st 9 [(.v (.slice none 0 0)),(.v (.slice none 0 0)),(.v (.slice none 0 0)),(.v (.slice none 0 0)),(.v (.slice none 0 0)),(.v (.slice none 0 0)),(.v (.int .u32 0)),(.v (.int .u32 0)),(.v (.int .u32 0))]),(.v (.map none)),(.v (.map none)),(.v (.map none))]),.st [(0,203),(9,142),(10,258),(11,258)]⟩
 | 262=>some ⟨1,24,(.v (.slice none 0 0)),.sl 161⟩
 | 264=>some ⟨1,24,(.v (.slice none 0 0)),.sl 47⟩
 | 290=>some ⟨9,72,(.arr 9 3 (aj 3 (.st 3 [(.v (.int .i64 0)),(.v (.int .i64 0)),(.v (.int .i64 0))]))),.arr 3 50⟩
 | 291=>some ⟨6,48,(.arr 6 2 (aj 3 (.arr 2 1 (aj 2 (.v (.int .i64 0)))))),.arr 3 188⟩
 | 293=>some ⟨19,152,(.st 19 [(.arr 9 3 (aj 3 (.st 3 [(.v (.int .i64 0)),(.v (.int .i64 0)),(.v (.int .i64 0))]))),(.arr 6 2 (aj 3 (.arr 2 1 (aj 2 (.v (.int .i64 0)))))),(.v (.int .i64 0)),(.v (.int .i64 0)),(.v (.int .i64 0)),(.v (.int .u8 0))]),.st [(0,290),(9,291),(15,3),(16,3),(17,3),(18,5)]⟩
 | 298=>some ⟨8,32,(.arr 8 1 (aj 8 (.v (.int .u32 0)))),.arr 8 55⟩
 | 299=>some ⟨64,64,(.arr 64 1 (aj 64 (.v (.int .u8 0)))),.arr 64 5⟩
 | 301=>some ⟨73,104,(.st 73 [(.arr 8 1 (aj 8 (.v (.int .u32 0)))),(.arr 64 1 (aj 64 (.v (.int .u8 0)))),(.v (.int .i64 0))]),.st [(0,298),(8,299),(72,3)]⟩
 | 303=>some ⟨1,8,(.v (.int .u64 0)),.int .u64⟩
 | 383=>some ⟨64,256,(.arr 64 1 (aj 64 (.v (.int .u32 0)))),.arr 64 55⟩
 | _=>none
theorem hT : TOK Tryz.prog tbl:=by
 intro t i h;unfold tbl at h;split at h
 ·cases h;exact⟨⟨_,_,rfl,rfl,rfl,rfl,rfl,rfl⟩,⟨_,rfl,rfl⟩,rfl⟩
 ·cases h;exact⟨⟨_,_,rfl,rfl,rfl,rfl,rfl,rfl⟩,⟨_,rfl,rfl⟩,rfl⟩
 ·cases h;exact⟨⟨_,_,rfl,rfl,rfl,rfl,rfl,rfl⟩,⟨_,rfl,rfl⟩,rfl⟩
 ·cases h;exact⟨⟨_,_,rfl,rfl,rfl,rfl,rfl,rfl⟩,⟨_,rfl,rfl⟩,rfl⟩
 ·cases h;exact⟨⟨_,_,rfl,rfl,rfl,rfl,rfl,rfl⟩,⟨_,rfl,rfl⟩,rfl⟩
 ·cases h;exact⟨⟨_,_,rfl,rfl,rfl,rfl,rfl,rfl⟩,⟨_,rfl,rfl⟩,rfl⟩
 ·cases h;exact⟨⟨_,_,rfl,rfl,rfl,rfl,rfl,rfl⟩,⟨_,rfl,rfl⟩,rfl⟩
 ·cases h;exact⟨⟨_,_,rfl,rfl,rfl,rfl,rfl,rfl⟩,⟨_,rfl,rfl⟩,rfl⟩
 ·cases h;exact⟨⟨_,_,rfl,rfl,rfl,rfl,rfl,rfl⟩,⟨_,rfl,rfl⟩,rfl⟩
 ·cases h;exact⟨⟨_,_,rfl,rfl,rfl,rfl,rfl,rfl⟩,⟨_,rfl,⟨_,rfl,rfl⟩⟩,rfl⟩
 ·cases h;exact⟨⟨_,_,rfl,rfl,rfl,rfl,rfl,rfl⟩,⟨_,rfl,rfl⟩,rfl⟩
 ·cases h;exact⟨⟨_,_,rfl,rfl,rfl,rfl,rfl,rfl⟩,⟨_,rfl,rfl⟩,rfl⟩
 ·cases h;exact⟨⟨_,_,rfl,rfl,rfl,rfl,rfl,rfl⟩,⟨_,rfl,⟨_,rfl,rfl⟩⟩,rfl⟩
 ·cases h;exact⟨⟨_,_,rfl,rfl,rfl,rfl,rfl,rfl⟩,⟨_,rfl,⟨_,rfl,rfl⟩⟩,rfl⟩
 ·cases h;exact⟨⟨_,_,rfl,rfl,rfl,rfl,rfl,rfl⟩,⟨_,rfl,⟨_,rfl,rfl⟩⟩,rfl⟩
 ·cases h;exact⟨⟨_,_,rfl,rfl,rfl,rfl,rfl,rfl⟩,⟨_,rfl,rfl⟩,rfl⟩
 ·cases h;exact⟨⟨_,_,rfl,rfl,rfl,rfl,rfl,rfl⟩,⟨_,rfl,⟨_,rfl,rfl⟩⟩,rfl⟩
 ·cases h;exact⟨⟨_,_,rfl,rfl,rfl,rfl,rfl,rfl⟩,⟨_,rfl,⟨_,rfl,rfl⟩⟩,rfl⟩
 ·cases h;exact⟨⟨_,_,rfl,rfl,rfl,rfl,rfl,rfl⟩,⟨_,rfl,⟨_,rfl,rfl⟩⟩,rfl⟩
 ·cases h;exact⟨⟨_,_,rfl,rfl,rfl,rfl,rfl,rfl⟩,⟨_,rfl,rfl⟩,rfl⟩
 ·cases h;exact⟨⟨_,_,rfl,rfl,rfl,rfl,rfl,rfl⟩,⟨_,rfl,⟨_,rfl,rfl⟩⟩,rfl⟩
 ·cases h;exact⟨⟨_,_,rfl,rfl,rfl,rfl,rfl,rfl⟩,⟨_,rfl,⟨_,rfl,rfl⟩⟩,rfl⟩
 ·cases h;exact⟨⟨_,_,rfl,rfl,rfl,rfl,rfl,rfl⟩,⟨_,rfl,⟨_,rfl,rfl⟩⟩,rfl⟩
 ·cases h;exact⟨⟨_,_,rfl,rfl,rfl,rfl,rfl,rfl⟩,⟨_,rfl,rfl⟩,rfl⟩
 ·cases h;exact⟨⟨_,_,rfl,rfl,rfl,rfl,rfl,rfl⟩,⟨_,rfl,rfl⟩,rfl⟩
 ·cases h;exact⟨⟨_,_,rfl,rfl,rfl,rfl,rfl,rfl⟩,⟨_,rfl,rfl⟩,rfl⟩
 ·cases h;exact⟨⟨_,_,rfl,rfl,rfl,rfl,rfl,rfl⟩,⟨_,rfl,⟨_,rfl,rfl⟩⟩,rfl⟩
 ·cases h;exact⟨⟨_,_,rfl,rfl,rfl,rfl,rfl,rfl⟩,⟨_,rfl,rfl⟩,rfl⟩
 ·cases h;exact⟨⟨_,_,rfl,rfl,rfl,rfl,rfl,rfl⟩,⟨_,rfl,rfl⟩,rfl⟩
 ·cases h;exact⟨⟨_,_,rfl,rfl,rfl,rfl,rfl,rfl⟩,⟨_,rfl,⟨_,rfl,rfl⟩⟩,rfl⟩
 ·cases h;exact⟨⟨_,_,rfl,rfl,rfl,rfl,rfl,rfl⟩,⟨_,rfl,rfl⟩,rfl⟩
 ·cases h;exact⟨⟨_,_,rfl,rfl,rfl,rfl,rfl,rfl⟩,⟨_,rfl,rfl⟩,rfl⟩
 ·cases h;exact⟨⟨_,_,rfl,rfl,rfl,rfl,rfl,rfl⟩,⟨_,rfl,rfl⟩,rfl⟩
 ·cases h;exact⟨⟨_,_,rfl,rfl,rfl,rfl,rfl,rfl⟩,⟨_,rfl,⟨_,rfl,rfl⟩⟩,rfl⟩
 ·cases h;exact⟨⟨_,_,rfl,rfl,rfl,rfl,rfl,rfl⟩,⟨_,rfl,rfl⟩,rfl⟩
 ·cases h;exact⟨⟨_,_,rfl,rfl,rfl,rfl,rfl,rfl⟩,⟨_,rfl,⟨_,rfl,rfl⟩⟩,rfl⟩
 ·cases h;exact⟨⟨_,_,rfl,rfl,rfl,rfl,rfl,rfl⟩,⟨_,rfl,rfl⟩,rfl⟩
 ·cases h;exact⟨⟨_,_,rfl,rfl,rfl,rfl,rfl,rfl⟩,⟨_,rfl,⟨_,rfl,rfl⟩⟩,rfl⟩
 ·cases h;exact⟨⟨_,_,rfl,rfl,rfl,rfl,rfl,rfl⟩,⟨_,rfl,⟨_,rfl,rfl⟩⟩,rfl⟩
 ·cases h;exact⟨⟨_,_,rfl,rfl,rfl,rfl,rfl,rfl⟩,⟨_,rfl,rfl⟩,rfl⟩
 ·cases h;exact⟨⟨_,_,rfl,rfl,rfl,rfl,rfl,rfl⟩,⟨_,rfl,⟨_,rfl,rfl⟩⟩,rfl⟩
 ·cases h;exact⟨⟨_,_,rfl,rfl,rfl,rfl,rfl,rfl⟩,⟨_,rfl,rfl⟩,rfl⟩
 ·cases h;exact⟨⟨_,_,rfl,rfl,rfl,rfl,rfl,rfl⟩,⟨_,rfl,rfl⟩,rfl⟩
 ·cases h;exact⟨⟨_,_,rfl,rfl,rfl,rfl,rfl,rfl⟩,⟨_,rfl,rfl⟩,rfl⟩
 ·cases h;exact⟨⟨_,_,rfl,rfl,rfl,rfl,rfl,rfl⟩,⟨_,rfl,⟨_,rfl,rfl⟩⟩,rfl⟩
 ·cases h;exact⟨⟨_,_,rfl,rfl,rfl,rfl,rfl,rfl⟩,⟨_,rfl,⟨_,rfl,rfl⟩⟩,rfl⟩
 ·cases h;exact⟨⟨_,_,rfl,rfl,rfl,rfl,rfl,rfl⟩,⟨_,rfl,rfl⟩,rfl⟩
 ·cases h;exact⟨⟨_,_,rfl,rfl,rfl,rfl,rfl,rfl⟩,⟨_,rfl,⟨_,rfl,rfl⟩⟩,rfl⟩
 ·cases h;exact⟨⟨_,_,rfl,rfl,rfl,rfl,rfl,rfl⟩,⟨_,rfl,⟨_,rfl,rfl⟩⟩,rfl⟩
 ·cases h;exact⟨⟨_,_,rfl,rfl,rfl,rfl,rfl,rfl⟩,⟨_,rfl,⟨_,rfl,rfl⟩⟩,rfl⟩
 ·cases h;exact⟨⟨_,_,rfl,rfl,rfl,rfl,rfl,rfl⟩,⟨_,rfl,rfl⟩,rfl⟩
 ·cases h;exact⟨⟨_,_,rfl,rfl,rfl,rfl,rfl,rfl⟩,⟨_,rfl,(by unfold TK.fits;exact⟨(by intro fs h;cases h),(by intro n e h;cases h)⟩)⟩,rfl⟩
 ·cases h;exact⟨⟨_,_,rfl,rfl,rfl,rfl,rfl,rfl⟩,⟨_,rfl,(by unfold TK.fits;exact⟨(by intro fs h;cases h),(by intro n e h;cases h)⟩)⟩,rfl⟩
 ·cases h;exact⟨⟨_,_,rfl,rfl,rfl,rfl,rfl,rfl⟩,⟨_,rfl,⟨_,rfl,rfl⟩⟩,rfl⟩
 ·cases h;exact⟨⟨_,_,rfl,rfl,rfl,rfl,rfl,rfl⟩,⟨_,rfl,⟨_,rfl,rfl⟩⟩,rfl⟩
 ·cases h;exact⟨⟨_,_,rfl,rfl,rfl,rfl,rfl,rfl⟩,⟨_,rfl,rfl⟩,rfl⟩
 ·cases h;exact⟨⟨_,_,rfl,rfl,rfl,rfl,rfl,rfl⟩,⟨_,rfl,⟨_,rfl,rfl⟩⟩,rfl⟩
 ·cases h;exact⟨⟨_,_,rfl,rfl,rfl,rfl,rfl,rfl⟩,⟨_,rfl,⟨_,rfl,rfl⟩⟩,rfl⟩
 ·cases h;exact⟨⟨_,_,rfl,rfl,rfl,rfl,rfl,rfl⟩,⟨_,rfl,rfl⟩,rfl⟩
 ·cases h;exact⟨⟨_,_,rfl,rfl,rfl,rfl,rfl,rfl⟩,⟨_,rfl,rfl⟩,rfl⟩
 ·cases h;exact⟨⟨_,_,rfl,rfl,rfl,rfl,rfl,rfl⟩,⟨_,rfl,rfl⟩,rfl⟩
 ·cases h;exact⟨⟨_,_,rfl,rfl,rfl,rfl,rfl,rfl⟩,⟨_,rfl,rfl⟩,rfl⟩
 ·cases h;exact⟨⟨_,_,rfl,rfl,rfl,rfl,rfl,rfl⟩,⟨_,rfl,rfl⟩,rfl⟩
 ·cases h;exact⟨⟨_,_,rfl,rfl,rfl,rfl,rfl,rfl⟩,⟨_,rfl,rfl⟩,rfl⟩
 ·cases h;exact⟨⟨_,_,rfl,rfl,rfl,rfl,rfl,rfl⟩,⟨_,rfl,⟨_,rfl,rfl⟩⟩,rfl⟩
 ·cases h;exact⟨⟨_,_,rfl,rfl,rfl,rfl,rfl,rfl⟩,⟨_,rfl,⟨_,rfl,rfl⟩⟩,rfl⟩
 ·cases h;exact⟨⟨_,_,rfl,rfl,rfl,rfl,rfl,rfl⟩,⟨_,rfl,⟨_,rfl,rfl⟩⟩,rfl⟩
 ·cases h;exact⟨⟨_,_,rfl,rfl,rfl,rfl,rfl,rfl⟩,⟨_,rfl,⟨_,rfl,rfl⟩⟩,rfl⟩
 ·cases h;exact⟨⟨_,_,rfl,rfl,rfl,rfl,rfl,rfl⟩,⟨_,rfl,rfl⟩,rfl⟩
 ·cases h;exact⟨⟨_,_,rfl,rfl,rfl,rfl,rfl,rfl⟩,⟨_,rfl,rfl⟩,rfl⟩
 ·cases h;exact⟨⟨_,_,rfl,rfl,rfl,rfl,rfl,rfl⟩,⟨_,rfl,(by unfold TK.fits;exact⟨(by intro fs h;cases h),(by intro n e h;cases h)⟩)⟩,rfl⟩
 ·cases h;exact⟨⟨_,_,rfl,rfl,rfl,rfl,rfl,rfl⟩,⟨_,rfl,⟨_,rfl,rfl⟩⟩,rfl⟩
 ·cases h;exact⟨⟨_,_,rfl,rfl,rfl,rfl,rfl,rfl⟩,⟨_,rfl,rfl⟩,rfl⟩
 ·cases h;exact⟨⟨_,_,rfl,rfl,rfl,rfl,rfl,rfl⟩,⟨_,rfl,rfl⟩,rfl⟩
 ·cases h;exact⟨⟨_,_,rfl,rfl,rfl,rfl,rfl,rfl⟩,⟨_,rfl,rfl⟩,rfl⟩
 ·cases h;exact⟨⟨_,_,rfl,rfl,rfl,rfl,rfl,rfl⟩,⟨_,rfl,rfl⟩,rfl⟩
 ·cases h;exact⟨⟨_,_,rfl,rfl,rfl,rfl,rfl,rfl⟩,⟨_,rfl,⟨_,rfl,rfl⟩⟩,rfl⟩
 ·cases h;exact⟨⟨_,_,rfl,rfl,rfl,rfl,rfl,rfl⟩,⟨_,rfl,rfl⟩,rfl⟩
 ·cases h;exact⟨⟨_,_,rfl,rfl,rfl,rfl,rfl,rfl⟩,⟨_,rfl,rfl⟩,rfl⟩
 ·cases h;exact⟨⟨_,_,rfl,rfl,rfl,rfl,rfl,rfl⟩,⟨_,rfl,⟨_,rfl,rfl⟩⟩,rfl⟩
 ·cases h;exact⟨⟨_,_,rfl,rfl,rfl,rfl,rfl,rfl⟩,⟨_,rfl,rfl⟩,rfl⟩
 ·cases h;exact⟨⟨_,_,rfl,rfl,rfl,rfl,rfl,rfl⟩,⟨_,rfl,rfl⟩,rfl⟩
 ·cases h
theorem hmo : Tryz.prog.follows .mixedOrders=true:=by rfl
theorem tt55 : tbl 55=some ⟨1,4,(.v (.int .u32 0)),.int .u32⟩:=rfl
theorem aHM : EqT Tryz.prog 55 (α:=Int) k32 (λa b=>a==b) 1:=
 aGN Tryz.underlying55
theorem aGC : EqT Tryz.prog 298 (α:=(Vector Int 8)) (eA 8 1 k32) (eqV (λa b=>a==b)) 2:=
 aDi (M:=8) hT tt55 Tryz.underlying298 (by kernel_rfl) (λ_=>rfl) rfl (λ_=>rfl) (λ_=>rfl) aHM
def str_0 : ByteArray:=(ByteArray.mk (List.toArray (fc (fc [0,1,2,2,3,3,3,3,4,4,4,4,4,4,4,4,5,5,5,5,5,5,5,5,5,5,5,5,5,5,5,5,6,6,6,6,6,6,6,6,6,6,6,6,6,6,6,6,6,6,6,6,6,6,6,6,6,6,6,6,6,6,6,6] [7,7,7,7,7,7,7,7,7,7,7,7,7,7,7,7,7,7,7,7,7,7,7,7,7,7,7,7,7,7,7,7,7,7,7,7,7,7,7,7,7,7,7,7,7,7,7,7,7,7,7,7,7,7,7,7,7,7,7,7,7,7,7,7]) (fc [8,8,8,8,8,8,8,8,8,8,8,8,8,8,8,8,8,8,8,8,8,8,8,8,8,8,8,8,8,8,8,8,8,8,8,8,8,8,8,8,8,8,8,8,8,8,8,8,8,8,8,8,8,8,8,8,8,8,8,8,8,8,8,8] [8,8,8,8,8,8,8,8,8,8,8,8,8,8,8,8,8,8,8,8,8,8,8,8,8,8,8,8,8,8,8,8,8,8,8,8,8,8,8,8,8,8,8,8,8,8,8,8,8,8,8,8,8,8,8,8,8,8,8,8,8,8,8,8]))))
abbrev eT : AV:=(.st 21 [(j64 0),(j64 0),(j64 0),(j64 0),(j64 0),(k64 0),(.st 14 [(.st 3 [(j64 0),(j64 0),(j64 0)]),(.st 3 [(j64 0),(j64 0),(j64 0)]),(.st 3 [(j64 0),(j64 0),(j64 0)]),(.st 3 [(j64 0),(j64 0),(j64 0)]),(j64 0),(j64 0)]),(eB false)])
end Go.UK
