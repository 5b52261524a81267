/- A part of the proof: what the functions of the program compute. -/
import Derived.Test.YtbfieohdmihfpaaGreatDoorLib16
import Derived.Test.YtbfieohdmihfpaaGreatDoorChecked
open List renaming replicate→aj
namespace Go.UK
open Go Go.Proofs Go.Sort Go.RowKit
set_option maxRecDepth 20000
set_option maxHeartbeats 40000000
set_option linter.all false
instance : bL:=⟨⟨[(5,aAy .u64 Lib.pow10Tab)],[(231, "umbra/vault.do",548)]⟩⟩
theorem aNB : (5,aAy .u64 Lib.pow10Tab)∈bL.l:=List.mem_cons_self
structure aF where
 gId:Int
 gC:Int
 gA6:Int
 gA3:(Vector Int 8)
 gA4:Int
 gTo:Int
 gA1:Int
 gA8:Int
def aF.enc(s:aF):AV := .st 15 [(k64 s.gId),(j64 s.gC),(k32 s.gA6),(eA 8 1 k8 s.gA3),(k32 s.gA4),(k32 s.gTo),(j64 s.gA1),(j64 s.gA8)]
structure aA where
 gX:Int
 gY:Int
 gZ:Int
def aA.enc(s:aA):AV := .st 3 [(j64 s.gX),(j64 s.gY),(j64 s.gZ)]
structure aP where
 gF:(List aA)
 gL:(List (Vector Int 2))
 gJ:(List (Vector Int 3))
def aP.enc(s:aP):AV := .st 3 [(eL 3 aA.enc s.gF),(eL 2 (eA 2 1 j64) s.gL),(eL 3 (eA 3 1 j64) s.gJ)]
structure aK where
 gO:Int
 gK:(List (Vector Int 3))
def aK.enc(s:aK):AV := .st 2 [(j64 s.gO),(eL 3 (eA 3 1 j64) s.gK)]
structure aD where
 gC:Int
 gE:(Vector Int 3)
 gA5:Int
def aD.enc(s:aD):AV := .st 5 [(j64 s.gC),(eA 3 1 j64 s.gE),(j64 s.gA5)]
structure aJ where
 gC:Int
 gE:(Vector Int 3)
 gAt:aA
 gU:aA
 gV:aA
def aJ.enc(s:aJ):AV := .st 13 [(j64 s.gC),(eA 3 1 j64 s.gE),(aA.enc s.gAt),(aA.enc s.gU),(aA.enc s.gV)]
structure aE where
 gC:Int
 gA0:aP
 gA2:aK
 gG:aD
 gD:aJ
def aE.enc(s:aE):AV := .st 24 [(j64 s.gC),(aP.enc s.gA0),(aK.enc s.gA2),(aD.enc s.gG),(aJ.enc s.gD)]
structure pQ where
 gX:Int
 gY:Int
 gZ:Int
def pQ.enc(s:pQ):AV := .st 3 [(j64 s.gX),(j64 s.gY),(j64 s.gZ)]
structure jW where
 gM:(Vector Int 9)
 gT:pQ
def jW.enc(s:jW):AV := .st 12 [(eA 9 1 j64 s.gM),(pQ.enc s.gT)]
structure nM where
 gA0:Int
 gG:Int
 gA2:Int
 gN:Int
 gT:jW
def nM.enc(s:nM):AV := .st 16 [(j64 s.gA0),(j64 s.gG),(j64 s.gA2),(j64 s.gN),(jW.enc s.gT)]
structure bM where
 gC:Int
 gB0:Int
 gM:aF
 gA:aE
 gI:nM
def bM.enc(s:bM):AV := .st 57 [(j64 s.gC),(j64 s.gB0),(aF.enc s.gM),(aE.enc s.gA),(nM.enc s.gI)]
structure dL where
 gh:(Vector Int 8)
 gB1:(Vector Int 64)
 gn:Int
def dL.enc(s:dL):AV := .st 73 [(eA 8 1 k32 s.gh),(eA 64 1 k8 s.gB1),(j64 s.gn)]
structure aG where
 gh:(Vector Int 3)
def aG.enc(s:aG):AV := .st 3 [(eA 3 1 k64 s.gh)]
structure aM where
 gA7:aG
 gP:Bool
 gr0:Int
 gr1:Int
 gs0:Int
 gs1:Int
 gQ:(List Int)
 gR:Int
def aM.enc(s:aM):AV := .st 10 [(aG.enc s.gA7),(eB s.gP),(k64 s.gr0),(k64 s.gr1),(k64 s.gs0),(k64 s.gs1),(eL 1 k8 s.gQ),(j64 s.gR)]
structure aQ where
 gA9:Int
 gto:Int
def aQ.enc(s:aQ):AV := .st 2 [(j64 s.gA9),(j64 s.gto)]
structure kW where
 gB0:Int
 gM:aF
 gA:aE
def kW.enc(s:kW):AV := .st 40 [(j64 s.gB0),(aF.enc s.gM),(aE.enc s.gA)]
structure aY where
 gB7:Int
 gB8:Int
 gB9:Int
 gB2:Int
 gC0:(Vector Int 32)
def aY.enc(s:aY):AV := .st 36 [(j64 s.gB7),(k32 s.gB8),(j64 s.gB9),(j64 s.gB2),(eA 32 1 k8 s.gC0)]
structure aC where
 gC1:Int
 gC2:Int
 gC3:Int
def aC.enc(s:aC):AV := .st 3 [(k32 s.gC1),(j64 s.gC2),(j64 s.gC3)]
structure jG where
 gC4:aA
 gC5:aA
 gUp:aA
 gC6:aA
 gC7:Int
 gC8:Int
def jG.enc(s:jG):AV := .st 14 [(aA.enc s.gC4),(aA.enc s.gC5),(aA.enc s.gUp),(aA.enc s.gC6),(j64 s.gC7),(j64 s.gC8)]
structure aL where
 gW:Int
 gH:Int
 gC9:Int
 gD0:Int
 gD1:Int
 gD2:Int
 gD3:jG
 gD4:Bool
def aL.enc(s:aL):AV := .st 21 [(j64 s.gW),(j64 s.gH),(j64 s.gC9),(j64 s.gD0),(j64 s.gD1),(k64 s.gD2),(jG.enc s.gD3),(eB s.gD4)]
structure kY where
 gD5:Int
 gD6:Int
 gD7:Int
def kY.enc(s:kY):AV := .st 3 [(j64 s.gD5),(j64 s.gD6),(j64 s.gD7)]
structure lB where
 gD8:(Vector Int 32)
 gD9:Int
 gP:Bool
def lB.enc(s:lB):AV := .st 34 [(eA 32 1 k8 s.gD8),(k32 s.gD9),(eB s.gP)]
structure aH where
 gE0:lB
 gl:(List aY)
def aH.enc(s:aH):AV := .st 35 [(lB.enc s.gE0),(eL 36 aY.enc s.gl)]
structure qR where
 gB3:ByteArray
 gid:Int
 gB4:Int
def qR.enc(s:qR):AV := .st 3 [(eS s.gB3),(j64 s.gid),(j64 s.gB4)]
structure wJ where
 gB2:Int
 gB5:(List Int)
 gB6:(List Int)
def wJ.enc(s:wJ):AV := .st 3 [(j64 s.gB2),(eL 1 j64 s.gB5),(eL 1 k8 s.gB6)]
def tbl : TypeId->Option TI
 | 2=>some ⟨1,8,(.v (.int .i64 0)),.int .i64⟩
 | 3=>some ⟨1,8,(.v (.int .i64 0)),.int .i64⟩
 | 4=>some ⟨1,1,(.v (.bool false)),.bool⟩
 | 5=>some ⟨1,1,(.v (.int .u8 0)),.int .u8⟩
 | 9=>some ⟨1,16,(.v (.string (ByteArray.mk #[]))),.str⟩
 | 22=>some ⟨32,32,(.arr 32 1 (aj 32 (.v (.int .u8 0)))),.arr 32 5⟩
 | 23=>some ⟨1,24,(.v (.slice none 0 0)),.sl 5⟩
 | 24=>some ⟨1,8,(.v (.int .u64 0)),.int .u64⟩
 | 25=>some ⟨1,4,(.v (.int .u32 0)),.int .u32⟩
 | 26=>some ⟨8,8,(.arr 8 1 (aj 8 (.v (.int .u8 0)))),.arr 8 5⟩
 | 28=>some ⟨15,56,(.st 15 [(.v (.int .u64 0)),(.v (.int .i64 0)),(.v (.int .u32 0)),(.arr 8 1 (aj 8 (.v (.int .u8 0)))),(.v (.int .u32 0)),(.v (.int .u32 0)),(.v (.int .i64 0)),(.v (.int .i64 0))]),.st [(0,24),(1,3),(2,25),(3,26),(11,25),(12,25),(13,3),(14,3)]⟩
 | 29=>some ⟨1,24,(.v (.slice none 0 0)),.sl 40⟩
 | 30=>some ⟨1,24,(.v (.slice none 0 0)),.sl 208⟩
 | 31=>some ⟨1,24,(.v (.slice none 0 0)),.sl 36⟩
 | 33=>some ⟨3,72,(.st 3 [(.v (.slice none 0 0)),(.v (.slice none 0 0)),(.v (.slice none 0 0))]),.st [(0,29),(1,30),(2,31)]⟩
 | 35=>some ⟨2,32,(.st 2 [(.v (.int .i64 0)),(.v (.slice none 0 0))]),.st [(0,3),(1,31)]⟩
 | 36=>some ⟨3,24,(.arr 3 1 (aj 3 (.v (.int .i64 0)))),.arr 3 3⟩
 | 38=>some ⟨5,40,(.st 5 [(.v (.int .i64 0)),(.arr 3 1 (aj 3 (.v (.int .i64 0)))),(.v (.int .i64 0))]),.st [(0,3),(1,36),(4,3)]⟩
 | 40=>some ⟨3,24,(.st 3 [(.v (.int .i64 0)),(.v (.int .i64 0)),(.v (.int .i64 0))]),.st [(0,3),(1,3),(2,3)]⟩
 | 42=>some ⟨13,104,(.st 13 [(.v (.int .i64 0)),(.arr 3 1 (aj 3 (.v (.int .i64 0)))),(.st 3 [(.v (.int .i64 0)),(.v (.int .i64 0)),(.v (.int .i64 0))]),(.st 3 [(.v (.int .i64 0)),(.v (.int .i64 0)),(.v (.int .i64 0))]),(.st 3 [(.v (.int .i64 0)),(.v (.int .i64 0)),(.v (.int .i64 0))])]),.st [(0,3),(1,36),(4,40),(7,40),(10,40)]⟩
 | 44=>some ⟨24,256,(.st 24 [(.v (.int .i64 0)),(.st 3 [(.v (.slice none 0 0)),(.v (.slice none 0 0)),(.v (.slice none 0 0))]),(.st 2 [(.v (.int .i64 0)),(.v (.slice none 0 0))]),(.st 5 [(.v (.int .i64 0)),(.arr 3 1 (aj 3 (.v (.int .i64 0)))),(.v (.int .i64 0))]),(.st 13 [(.v (.int .i64 0)),(.arr 3 1 (aj 3 (.v (.int .i64 0)))),(.st 3 [(.v (.int .i64 0)),(.v (.int .i64 0)),(.v (.int .i64 0))]),(.st 3 [(.v (.int .i64 0)),(.v (.int .i64 0)),(.v (.int .i64 0))]),(.st 3 [(.v (.int .i64 0)),(.v (.int .i64 0)),(.v (.int .i64 0))])])]),.st [(0,3),(1,33),(4,35),(6,38),(11,42)]⟩
 | 45=>some ⟨1,8,(.v (.int .i64 0)),.int .i64⟩
 | 46=>some ⟨9,72,(.arr 9 1 (aj 9 (.v (.int .i64 0)))),.arr 9 45⟩
 | 48=>some ⟨3,24,(.st 3 [(.v (.int .i64 0)),(.v (.int .i64 0)),(.v (.int .i64 0))]),.st [(0,45),(1,45),(2,45)]⟩
 | 50=>some ⟨12,96,(.st 12 [(.arr 9 1 (aj 9 (.v (.int .i64 0)))),(.st 3 [(.v (.int .i64 0)),(.v (.int .i64 0)),(.v (.int .i64 0))])]),.st [(0,46),(9,48)]⟩
 | 52=>some ⟨16,128,(.st 16 [(.v (.int .i64 0)),(.v (.int .i64 0)),(.v (.int .i64 0)),(.v (.int .i64 0)),(.st 12 [(.arr 9 1 (aj 9 (.v (.int .i64 0)))),(.st 3 [(.v (.int .i64 0)),(.v (.int .i64 0)),(.v (.int .i64 0))])])]),.st [(0,3),(1,3),(2,3),(3,3),(4,50)]⟩
 | 54=>some ⟨57,456,(.st 57 [(.v (.int .i64 0)),(.v (.int .i64 0)),(.st 15 [(.v (.int .u64 0)),(.v (.int .i64 0)),(.v (.int .u32 0)),(.arr 8 1 (aj 8 (.v (.int .u8 0)))),(.v (.int .u32 0)),(.v (.int .u32 0)),(.v (.int .i64 0)),(.v (.int .i64 0))]),(.st 24 [(.v (.int .i64 0)),(.st 3 [(.v (.slice none 0 0)),(.v (.slice none 0 0)),(.v (.slice none 0 0))]),(.st 2 [(.v (.int .i64 0)),(.v (.slice none 0 0))]),(.st 5 [(.v (.int .i64 0)),(.arr 3 1 (aj 3 (.v (.int .i64 0)))),(.v (.int .i64 0))]),(.st 13 [(.v (.int .i64 0)),(.arr 3 1 (aj 3 (.v (.int .i64 0)))),(.st 3 [(.v (.int .i64 0)),(.v (.int .i64 0)),(.v (.int .i64 0))]),(.st 3 [(.v (.int .i64 0)),(.v (.int .i64 0)),(.v (.int .i64 0))]),(.st 3 [(.v (.int .i64 0)),(.v (.int .i64 0)),(.v (.int .i64 0))])])]),(.st 16 [(.v (.int .i64 0)),(.v (.int .i64 0)),(.v (.int .i64 0)),(.v (.int .i64 0)),(.st 12 [(.arr 9 1 (aj 9 (.v (.int .i64 0)))),(.st 3 [(.v (.int .i64 0)),(.v (.int .i64 0)),(.v (.int .i64 0))])])])]),.st [(0,3),(1,3),(2,28),(17,44),(41,52)]⟩
 | 56=>some ⟨1,8,(.v (.int .i64 0)),.int .i64⟩
 | 71=>some ⟨1,24,(.v (.slice none 0 0)),.sl 23⟩
 | 72=>some ⟨1,8,(.v (.pointer none)),.ptr 110⟩
 | 81=>some ⟨12,12,(.arr 12 1 (aj 12 (.v (.int .u8 0)))),.arr 12 5⟩
 | 84=>some ⟨1,8,(.v .nilFunc),.other⟩
 | 89=>some ⟨8,32,(.arr 8 1 (aj 8 (.v (.int .u32 0)))),.arr 8 25⟩
 | 90=>some ⟨64,64,(.arr 64 1 (aj 64 (.v (.int .u8 0)))),.arr 64 5⟩
 | 96=>some ⟨1,8,(.v (.pointer none)),.ptr 137⟩
 | 98=>some ⟨1,8,(.v (.pointer none)),.ptr 100⟩
 | 100=>some ⟨2,32,(.st 2 [(.v (.pointer none)),(.v (.slice none 0 0))]),.st [(0,98),(1,23)]⟩
 | 101=>some ⟨1,24,(.v (.slice none 0 0)),.sl 9⟩
 | 104=>some ⟨1,16,(.v .nilIface),.other⟩
 | 110=>some ⟨73,104,(.st 73 [(.arr 8 1 (aj 8 (.v (.int .u32 0)))),(.arr 64 1 (aj 64 (.v (.int .u8 0)))),(.v (.int .i64 0))]),.st [(0,89),(8,90),(72,3)]⟩
 | 111=>some ⟨1,8,(.v (.int .u64 0)),.int .u64⟩
 | 117=>some ⟨16,16,(.arr 16 1 (aj 16 (.v (.int .u8 0)))),.arr 16 5⟩
 | 120=>some ⟨1,24,(.v (.slice none 0 0)),.sl 24⟩
 | 124=>some ⟨64,256,(.arr 64 1 (aj 64 (.v (.int .u32 0)))),.arr 64 25⟩
 | 132=>some ⟨1,8,(.v (.pointer none)),.ptr 169⟩
 | 134=>some ⟨1,8,(.v (.pointer none)),.ptr 187⟩
 | 137=>some ⟨66,80,(.st 66 [(.arr 32 1 (aj 32 (.v (.int .u8 0)))),(.arr 32 1 (aj 32 (.v (.int .u8 0)))),(.v (.pointer none)),(.v (.pointer none))]),.st [(0,22),(32,22),(64,132),(65,134)]⟩
 | 139=>some ⟨1,16,(.v .nilIface),.other⟩
 | 148=>some ⟨1,24,(.v (.slice none 0 0)),.sl 3⟩
 | 155=>some ⟨1,24,(.v (.slice none 0 0)),.sl 25⟩
 | 167=>some ⟨1,8,(.v (.map none)),.other⟩
 | 169=>some ⟨33,40,(.st 33 [(.arr 32 1 (aj 32 (.v (.int .u8 0)))),(.v (.map none))]),.st [(0,22),(32,167)]⟩
 | 170=>some ⟨1,8,(.v (.pointer none)),.ptr 221⟩
 | 173=>some ⟨14,112,(.st 14 [(.st 3 [(.v (.int .i64 0)),(.v (.int .i64 0)),(.v (.int .i64 0))]),(.st 3 [(.v (.int .i64 0)),(.v (.int .i64 0)),(.v (.int .i64 0))]),(.st 3 [(.v (.int .i64 0)),(.v (.int .i64 0)),(.v (.int .i64 0))]),(.st 3 [(.v (.int .i64 0)),(.v (.int .i64 0)),(.v (.int .i64 0))]),(.v (.int .i64 0)),(.v (.int .i64 0))]),.st [(0,40),(3,40),(6,40),(9,40),(12,3),(13,3)]⟩
 | 175=>some ⟨21,168,(.st 21 [(.v (.int .i64 0)),(.v (.int .i64 0)),(.v (.int .i64 0)),(.v (.int .i64 0)),(.v (.int .i64 0)),(.v (.int .u64 0)),(.st 14 [(.st 3 [(.v (.int .i64 0)),(.v (.int .i64 0)),(.v (.int .i64 0))]),(.st 3 [(.v (.int .i64 0)),(.v (.int .i64 0)),(.v (.int .i64 0))]),(.st 3 [(.v (.int .i64 0)),(.v (.int .i64 0)),(.v (.int .i64 0))]),(.st 3 [(.v (.int .i64 0)),(.v (.int .i64 0)),(.v (.int .i64 0))]),(.v (.int .i64 0)),(.v (.int .i64 0))]),(.v (.bool false))]),.st [(0,3),(1,3),(2,3),(3,3),(4,3),(5,24),(6,173),(20,4)]⟩
 | 176=>some ⟨1,8,(.v (.pointer none)),.ptr 355⟩
 | 177=>some ⟨1,8,(.v (.pointer none)),.ptr 227⟩
 | 179=>some ⟨3,24,(.st 3 [(.v (.int .u32 0)),(.v (.int .i64 0)),(.v (.int .i64 0))]),.st [(0,25),(1,3),(2,3)]⟩
 | 180=>some ⟨24,192,(.arr 24 3 (aj 8 (.st 3 [(.v (.int .u32 0)),(.v (.int .i64 0)),(.v (.int .i64 0))]))),.arr 8 179⟩
 | 182=>some ⟨49,392,(.st 49 [(.st 21 [(.v (.int .i64 0)),(.v (.int .i64 0)),(.v (.int .i64 0)),(.v (.int .i64 0)),(.v (.int .i64 0)),(.v (.int .u64 0)),(.st 14 [(.st 3 [(.v (.int .i64 0)),(.v (.int .i64 0)),(.v (.int .i64 0))]),(.st 3 [(.v (.int .i64 0)),(.v (.int .i64 0)),(.v (.int .i64 0))]),(.st 3 [(.v (.int .i64 0)),(.v (.int .i64 0)),(.v (.int .i64 0))]),(.st 3 [(.v (.int .i64 0)),(.v (.int .i64 0)),(.v (.int .i64 0))]),(.v (.int .i64 0)),(.v (.int .i64 0))]),(.v (.bool false))]),(.v (.bool false)),(.v (.int .i64 0)),(.v (.pointer none)),(.v (.pointer none)),(.arr 24 3 (aj 8 (.st 3 [(.v (.int .u32 0)),(.v (.int .i64 0)),(.v (.int .i64 0))])))]),.st [(0,175),(21,4),(22,3),(23,176),(24,177),(25,180)]⟩
 | 183=>some ⟨392,3136,(.st 392 (aj 8 (.st 49 [(.st 21 [(.v (.int .i64 0)),(.v (.int .i64 0)),(.v (.int .i64 0)),(.v (.int .i64 0)),(.v (.int .i64 0)),(.v (.int .u64 0)),(.st 14 [(.st 3 [(.v (.int .i64 0)),(.v (.int .i64 0)),(.v (.int .i64 0))]),(.st 3 [(.v (.int .i64 0)),(.v (.int .i64 0)),(.v (.int .i64 0))]),(.st 3 [(.v (.int .i64 0)),(.v (.int .i64 0)),(.v (.int .i64 0))]),(.st 3 [(.v (.int .i64 0)),(.v (.int .i64 0)),(.v (.int .i64 0))]),(.v (.int .i64 0)),(.v (.int .i64 0))]),(.v (.bool false))]),(.v (.bool false)),(.v (.int .i64 0)),(.v (.pointer none)),(.v (.pointer none)),(.arr 24 3 (aj 8 (.st 3 [(.v (.int .u32 0)),(.v (.int .i64 0)),(.v (.int .i64 0))])))]))),.arr 8 182⟩
 | 185=>some ⟨3,24,(.st 3 [(.v (.int .i64 0)),(.v (.int .i64 0)),(.v (.int .i64 0))]),.st [(0,3),(1,3),(2,3)]⟩
 | 187=>some ⟨429,3208,(.st 429 [(.arr 32 1 (aj 32 (.v (.int .u8 0)))),(.v (.pointer none)),(.v (.int .u32 0)),(.st 392 (aj 8 (.st 49 [(.st 21 [(.v (.int .i64 0)),(.v (.int .i64 0)),(.v (.int .i64 0)),(.v (.int .i64 0)),(.v (.int .i64 0)),(.v (.int .u64 0)),(.st 14 [(.st 3 [(.v (.int .i64 0)),(.v (.int .i64 0)),(.v (.int .i64 0))]),(.st 3 [(.v (.int .i64 0)),(.v (.int .i64 0)),(.v (.int .i64 0))]),(.st 3 [(.v (.int .i64 0)),(.v (.int .i64 0)),(.v (.int .i64 0))]),(.st 3 [(.v (.int .i64 0)),(.v (.int .i64 0)),(.v (.int .i64 0))]),(.v (.int .i64 0)),(.v (.int .i64 0))]),(.v (.bool false))]),(.v (.bool false)),(.v (.int .i64 0)),(.v (.pointer none)),(.v (.pointer none)),(.arr 24 3 (aj 8 (.st 3 [(.v (.int .u32 0)),(.v (.int .i64 0)),(.v (.int .i64 0))])))]))),(.st 3 [(.v (.int .i64 0)),(.v (.int .i64 0)),(.v (.int .i64 0))])]),.st [(0,22),(32,170),(33,25),(34,183),(426,185)]⟩
 | 208=>some ⟨2,16,(.arr 2 1 (aj 2 (.v (.int .i64 0)))),.arr 2 3⟩
 | 210=>some ⟨5,40,(.arr 5 1 (aj 5 (.v (.int .i64 0)))),.arr 5 3⟩
 | 212=>some ⟨1,8,(.v (.pointer none)),.ptr 265⟩
 | 218=>some ⟨1,8,(.v (.map none)),.other⟩
 | 219=>some ⟨1,8,(.v (.map none)),.other⟩
 | 221=>some ⟨2,16,(.st 2 [(.v (.map none)),(.v (.map none))]),.st [(0,218),(1,219)]⟩
 | 224=>some ⟨34,40,(.st 34 [(.arr 32 1 (aj 32 (.v (.int .u8 0)))),(.v (.int .u32 0)),(.v (.bool false))]),.st [(0,22),(32,25),(33,4)]⟩
 | 225=>some ⟨1,24,(.v (.slice none 0 0)),.sl 381⟩
 | 227=>some ⟨35,64,(.st 35 [(.st 34 [(.arr 32 1 (aj 32 (.v (.int .u8 0)))),(.v (.int .u32 0)),(.v (.bool false))]),(.v (.slice none 0 0))]),.st [(0,224),(34,225)]⟩
 | 231=>some ⟨3,32,(.st 3 [(.v (.string (ByteArray.mk #[]))),(.v (.int .i64 0)),(.v (.int .i64 0))]),.st [(0,9),(1,3),(2,3)]⟩
 | 253=>some ⟨16,64,(.arr 16 1 (aj 16 (.v (.int .u32 0)))),.arr 16 25⟩
 | 255=>some ⟨4,32,(.arr 4 1 (aj 4 (.v (.int .i64 0)))),.arr 4 3⟩
 | 256=>some ⟨32,256,(.arr 32 4 (aj 8 (.arr 4 1 (aj 4 (.v (.int .i64 0)))))),.arr 8 255⟩
 | 257=>some ⟨4,16,(.arr 4 1 (aj 4 (.v (.int .u32 0)))),.arr 4 25⟩
 | 261=>some ⟨3,24,(.arr 3 1 (aj 3 (.v (.int .u64 0)))),.arr 3 24⟩
 | 263=>some ⟨3,24,(.st 3 [(.arr 3 1 (aj 3 (.v (.int .u64 0))))]),.st [(0,261)]⟩
 | 265=>some ⟨10,96,(.st 10 [(.st 3 [(.arr 3 1 (aj 3 (.v (.int .u64 0))))]),(.v (.bool false)),(.v (.int .u64 0)),(.v (.int .u64 0)),(.v (.int .u64 0)),(.v (.int .u64 0)),(.v (.slice none 0 0)),(.v (.int .i64 0))]),.st [(0,263),(3,4),(4,24),(5,24),(6,24),(7,24),(8,23),(9,3)]⟩
 | 267=>some ⟨17,17,(.arr 17 1 (aj 17 (.v (.int .u8 0)))),.arr 17 5⟩
 | 268=>some ⟨1,24,(.v (.slice none 0 0)),.sl 267⟩
 | 351=>some ⟨2,16,(.st 2 [(.v (.int .i64 0)),(.v (.int .i64 0))]),.st [(0,3),(1,3)]⟩
 | 353=>some ⟨93,304,(.st 93 [(.v (.int .i64 0)),(.st 21 [(.v (.int .i64 0)),(.v (.int .i64 0)),(.v (.int .i64 0)),(.v (.int .i64 0)),(.v (.int .i64 0)),(.v (.int .u64 0)),(.st 14 [(.st 3 [(.v (.int .i64 0)),(.v (.int .i64 0)),(.v (.int .i64 0))]),(.st 3 [(.v (.int .i64 0)),(.v (.int .i64 0)),(.v (.int .i64 0))]),(.st 3 [(.v (.int .i64 0)),(.v (.int .i64 0)),(.v (.int .i64 0))]),(.st 3 [(.v (.int .i64 0)),(.v (.int .i64 0)),(.v (.int .i64 0))]),(.v (.int .i64 0)),(.v (.int .i64 0))]),(.v (.bool false))]),(.st 3 [(.v (.int .i64 0)),(.v (.int .i64 0)),(.v (.int .i64 0))]),(.v (.slice none 0 0)),(.v (.int .u32 0)),(.v (.int .u32 0)),(.v (.int .u32 0)),(.arr 32 1 (aj 32 (.v (.int .u8 0)))),(.arr 32 1 (aj 32 (.v (.int .u8 0))))]),.st [(0,3),(1,175),(22,185),(25,120),(26,25),(27,25),(28,25),(29,22),(61,22)]⟩
 | 355=>some ⟨95,352,(.st 95 [(.v (.slice none 0 0)),(.v (.slice none 0 0)),(.st 93 [(.v (.int .i64 0)),(.st 21 [(.v (.int .i64 0)),(.v (.int .i64 0)),(.v (.int .i64 0)),(.v (.int .i64 0)),(.v (.int .i64 0)),(.v (.int .u64 0)),(.st 14 [(.st 3 [(.v (.int .i64 0)),(.v (.int .i64 0)),(.v (.int .i64 0))]),(.st 3 [(.v (.int .i64 0)),(.v (.int .i64 0)),(.v (.int .i64 0))]),(.st 3 [(.v (.int .i64 0)),(.v (.int .i64 0)),(.v (.int .i64 0))]),(.st 3 [(.v (.int .i64 0)),(.v (.int .i64 0)),(.v (.int .i64 0))]),(.v (.int .i64 0)),(.v (.int .i64 0))]),(.v (.bool false))]),(.st 3 [(.v (.int .i64 0)),(.v (.int .i64 0)),(.v (.int .i64 0))]),(.v (.slice none 0 0)),(.v (.int .u32 0)),(.v (.int .u32 0)),(.v (.int .u32 0)),(.arr 32 1 (aj 32 (.v (.int .u8 0)))),(.arr 32 1 (aj 32 (.v (.int .u8 0))))])]),.st [(0,23),(1,23),(2,353)]⟩
 | 359=>some ⟨3,56,(.st 3 [(.v (.int .i64 0)),(.v (.slice none 0 0)),(.v (.slice none 0 0))]),.st [(0,56),(1,148),(2,23)]⟩
 | 381=>some ⟨36,64,(.st 36 [(.v (.int .i64 0)),(.v (.int .u32 0)),(.v (.int .i64 0)),(.v (.int .i64 0)),(.arr 32 1 (aj 32 (.v (.int .u8 0))))]),.st [(0,3),(1,25),(2,3),(3,56),(4,22)]⟩
 | 393=>some ⟨40,320,(.st 40 [(.v (.int .i64 0)),(.st 15 [(.v (.int .u64 0)),(.v (.int .i64 0)),(.v (.int .u32 0)),(.arr 8 1 (aj 8 (.v (.int .u8 0)))),(.v (.int .u32 0)),(.v (.int .u32 0)),(.v (.int .i64 0)),(.v (.int .i64 0))]),(.st 24 [(.v (.int .i64 0)),(.st 3 [(.v (.slice none 0 0)),(.v (.slice none 0 0)),(.v (.slice none 0 0))]),(.st 2 [(.v (.int .i64 0)),(.v (.slice none 0 0))]),(.st 5 [(.v (.int .i64 0)),(.arr 3 1 (aj 3 (.v (.int .i64 0)))),(.v (.int .i64 0))]),(.st 13 [(.v (.int .i64 0)),(.arr 3 1 (aj 3 (.v (.int .i64 0)))),(.st 3 [(.v (.int .i64 0)),(.v (.int .i64 0)),(.v (.int .i64 0))]),(.st 3 [(.v (.int .i64 0)),(.v (.int .i64 0)),(.v (.int .i64 0))]),(.st 3 [(.v (.int .i64 0)),(.v (.int .i64 0)),(.v (.int .i64 0))])])])]),.st [(0,3),(1,28),(16,44)]⟩
 | _=>none
theorem hT : TOK Tryz.prog tbl:=by
 intro t i h;unfold tbl at h;split at h
 ·cases h;exact⟨⟨_,_,rfl,rfl,rfl,rfl,rfl,rfl⟩,⟨_,rfl,rfl⟩,rfl⟩
 ·cases h;exact⟨⟨_,_,rfl,rfl,rfl,rfl,rfl,rfl⟩,⟨_,rfl,rfl⟩,rfl⟩
 ·cases h;exact⟨⟨_,_,rfl,rfl,rfl,rfl,rfl,rfl⟩,⟨_,rfl,rfl⟩,rfl⟩
 ·cases h;exact⟨⟨_,_,rfl,rfl,rfl,rfl,rfl,rfl⟩,⟨_,rfl,rfl⟩,rfl⟩
 ·cases h;exact⟨⟨_,_,rfl,rfl,rfl,rfl,rfl,rfl⟩,⟨_,rfl,rfl⟩,rfl⟩
 ·cases h;exact⟨⟨_,_,rfl,rfl,rfl,rfl,rfl,rfl⟩,⟨_,rfl,rfl⟩,rfl⟩
 ·cases h;exact⟨⟨_,_,rfl,rfl,rfl,rfl,rfl,rfl⟩,⟨_,rfl,rfl⟩,rfl⟩
 ·cases h;exact⟨⟨_,_,rfl,rfl,rfl,rfl,rfl,rfl⟩,⟨_,rfl,rfl⟩,rfl⟩
 ·cases h;exact⟨⟨_,_,rfl,rfl,rfl,rfl,rfl,rfl⟩,⟨_,rfl,rfl⟩,rfl⟩
 ·cases h;exact⟨⟨_,_,rfl,rfl,rfl,rfl,rfl,rfl⟩,⟨_,rfl,rfl⟩,rfl⟩
 ·cases h;exact⟨⟨_,_,rfl,rfl,rfl,rfl,rfl,rfl⟩,⟨_,rfl,⟨_,rfl,rfl⟩⟩,rfl⟩
 ·cases h;exact⟨⟨_,_,rfl,rfl,rfl,rfl,rfl,rfl⟩,⟨_,rfl,rfl⟩,rfl⟩
 ·cases h;exact⟨⟨_,_,rfl,rfl,rfl,rfl,rfl,rfl⟩,⟨_,rfl,rfl⟩,rfl⟩
 ·cases h;exact⟨⟨_,_,rfl,rfl,rfl,rfl,rfl,rfl⟩,⟨_,rfl,rfl⟩,rfl⟩
 ·cases h;exact⟨⟨_,_,rfl,rfl,rfl,rfl,rfl,rfl⟩,⟨_,rfl,⟨_,rfl,rfl⟩⟩,rfl⟩
 ·cases h;exact⟨⟨_,_,rfl,rfl,rfl,rfl,rfl,rfl⟩,⟨_,rfl,⟨_,rfl,rfl⟩⟩,rfl⟩
 ·cases h;exact⟨⟨_,_,rfl,rfl,rfl,rfl,rfl,rfl⟩,⟨_,rfl,rfl⟩,rfl⟩
 ·cases h;exact⟨⟨_,_,rfl,rfl,rfl,rfl,rfl,rfl⟩,⟨_,rfl,⟨_,rfl,rfl⟩⟩,rfl⟩
 ·cases h;exact⟨⟨_,_,rfl,rfl,rfl,rfl,rfl,rfl⟩,⟨_,rfl,⟨_,rfl,rfl⟩⟩,rfl⟩
 ·cases h;exact⟨⟨_,_,rfl,rfl,rfl,rfl,rfl,rfl⟩,⟨_,rfl,⟨_,rfl,rfl⟩⟩,rfl⟩
 ·cases h;exact⟨⟨_,_,rfl,rfl,rfl,rfl,rfl,rfl⟩,⟨_,rfl,⟨_,rfl,rfl⟩⟩,rfl⟩
 ·cases h;exact⟨⟨_,_,rfl,rfl,rfl,rfl,rfl,rfl⟩,⟨_,rfl,rfl⟩,rfl⟩
 ·cases h;exact⟨⟨_,_,rfl,rfl,rfl,rfl,rfl,rfl⟩,⟨_,rfl,rfl⟩,rfl⟩
 ·cases h;exact⟨⟨_,_,rfl,rfl,rfl,rfl,rfl,rfl⟩,⟨_,rfl,⟨_,rfl,rfl⟩⟩,rfl⟩
 ·cases h;exact⟨⟨_,_,rfl,rfl,rfl,rfl,rfl,rfl⟩,⟨_,rfl,⟨_,rfl,rfl⟩⟩,rfl⟩
 ·cases h;exact⟨⟨_,_,rfl,rfl,rfl,rfl,rfl,rfl⟩,⟨_,rfl,⟨_,rfl,rfl⟩⟩,rfl⟩
 ·cases h;exact⟨⟨_,_,rfl,rfl,rfl,rfl,rfl,rfl⟩,⟨_,rfl,⟨_,rfl,rfl⟩⟩,rfl⟩
 ·cases h;exact⟨⟨_,_,rfl,rfl,rfl,rfl,rfl,rfl⟩,⟨_,rfl,rfl⟩,rfl⟩
 ·cases h;exact⟨⟨_,_,rfl,rfl,rfl,rfl,rfl,rfl⟩,⟨_,rfl,rfl⟩,rfl⟩
 ·cases h;exact⟨⟨_,_,rfl,rfl,rfl,rfl,rfl,rfl⟩,⟨_,rfl,rfl⟩,rfl⟩
 ·cases h;exact⟨⟨_,_,rfl,rfl,rfl,rfl,rfl,rfl⟩,⟨_,rfl,rfl⟩,rfl⟩
 ·cases h;exact⟨⟨_,_,rfl,rfl,rfl,rfl,rfl,rfl⟩,⟨_,rfl,(by unfold TK.fits;exact⟨(by intro fs h;cases h),(by intro n e h;cases h)⟩)⟩,rfl⟩
 ·cases h;exact⟨⟨_,_,rfl,rfl,rfl,rfl,rfl,rfl⟩,⟨_,rfl,rfl⟩,rfl⟩
 ·cases h;exact⟨⟨_,_,rfl,rfl,rfl,rfl,rfl,rfl⟩,⟨_,rfl,rfl⟩,rfl⟩
 ·cases h;exact⟨⟨_,_,rfl,rfl,rfl,rfl,rfl,rfl⟩,⟨_,rfl,rfl⟩,rfl⟩
 ·cases h;exact⟨⟨_,_,rfl,rfl,rfl,rfl,rfl,rfl⟩,⟨_,rfl,rfl⟩,rfl⟩
 ·cases h;exact⟨⟨_,_,rfl,rfl,rfl,rfl,rfl,rfl⟩,⟨_,rfl,⟨_,rfl,rfl⟩⟩,rfl⟩
 ·cases h;exact⟨⟨_,_,rfl,rfl,rfl,rfl,rfl,rfl⟩,⟨_,rfl,rfl⟩,rfl⟩
 ·cases h;exact⟨⟨_,_,rfl,rfl,rfl,rfl,rfl,rfl⟩,⟨_,rfl,(by unfold TK.fits;exact⟨(by intro fs h;cases h),(by intro n e h;cases h)⟩)⟩,rfl⟩
 ·cases h;exact⟨⟨_,_,rfl,rfl,rfl,rfl,rfl,rfl⟩,⟨_,rfl,⟨_,rfl,rfl⟩⟩,rfl⟩
 ·cases h;exact⟨⟨_,_,rfl,rfl,rfl,rfl,rfl,rfl⟩,⟨_,rfl,rfl⟩,rfl⟩
 ·cases h;exact⟨⟨_,_,rfl,rfl,rfl,rfl,rfl,rfl⟩,⟨_,rfl,rfl⟩,rfl⟩
 ·cases h;exact⟨⟨_,_,rfl,rfl,rfl,rfl,rfl,rfl⟩,⟨_,rfl,rfl⟩,rfl⟩
 ·cases h;exact⟨⟨_,_,rfl,rfl,rfl,rfl,rfl,rfl⟩,⟨_,rfl,rfl⟩,rfl⟩
 ·cases h;exact⟨⟨_,_,rfl,rfl,rfl,rfl,rfl,rfl⟩,⟨_,rfl,rfl⟩,rfl⟩
 ·cases h;exact⟨⟨_,_,rfl,rfl,rfl,rfl,rfl,rfl⟩,⟨_,rfl,rfl⟩,rfl⟩
 ·cases h;exact⟨⟨_,_,rfl,rfl,rfl,rfl,rfl,rfl⟩,⟨_,rfl,⟨_,rfl,rfl⟩⟩,rfl⟩
 ·cases h;exact⟨⟨_,_,rfl,rfl,rfl,rfl,rfl,rfl⟩,⟨_,rfl,(by unfold TK.fits;exact⟨(by intro fs h;cases h),(by intro n e h;cases h)⟩)⟩,rfl⟩
 ·cases h;exact⟨⟨_,_,rfl,rfl,rfl,rfl,rfl,rfl⟩,⟨_,rfl,rfl⟩,rfl⟩
 ·cases h;exact⟨⟨_,_,rfl,rfl,rfl,rfl,rfl,rfl⟩,⟨_,rfl,rfl⟩,rfl⟩
 ·cases h;exact⟨⟨_,_,rfl,rfl,rfl,rfl,rfl,rfl⟩,⟨_,rfl,(by unfold TK.fits;exact⟨(by intro fs h;cases h),(by intro n e h;cases h)⟩)⟩,rfl⟩
 ·cases h;exact⟨⟨_,_,rfl,rfl,rfl,rfl,rfl,rfl⟩,⟨_,rfl,⟨_,rfl,rfl⟩⟩,rfl⟩
 ·cases h;exact⟨⟨_,_,rfl,rfl,rfl,rfl,rfl,rfl⟩,⟨_,rfl,rfl⟩,rfl⟩
 ·cases h;exact⟨⟨_,_,rfl,rfl,rfl,rfl,rfl,rfl⟩,⟨_,rfl,⟨_,rfl,rfl⟩⟩,rfl⟩
 ·cases h;exact⟨⟨_,_,rfl,rfl,rfl,rfl,rfl,rfl⟩,⟨_,rfl,⟨_,rfl,rfl⟩⟩,rfl⟩
 ·cases h;exact⟨⟨_,_,rfl,rfl,rfl,rfl,rfl,rfl⟩,⟨_,rfl,rfl⟩,rfl⟩
 ·cases h;exact⟨⟨_,_,rfl,rfl,rfl,rfl,rfl,rfl⟩,⟨_,rfl,rfl⟩,rfl⟩
 ·cases h;exact⟨⟨_,_,rfl,rfl,rfl,rfl,rfl,rfl⟩,⟨_,rfl,⟨_,rfl,rfl⟩⟩,rfl⟩
 ·cases h;exact⟨⟨_,_,rfl,rfl,rfl,rfl,rfl,rfl⟩,⟨_,rfl,rfl⟩,rfl⟩
 ·cases h;exact⟨⟨_,_,rfl,rfl,rfl,rfl,rfl,rfl⟩,⟨_,rfl,⟨_,rfl,rfl⟩⟩,rfl⟩
 ·cases h;exact⟨⟨_,_,rfl,rfl,rfl,rfl,rfl,rfl⟩,⟨_,rfl,rfl⟩,rfl⟩
 ·cases h;exact⟨⟨_,_,rfl,rfl,rfl,rfl,rfl,rfl⟩,⟨_,rfl,⟨_,rfl,rfl⟩⟩,rfl⟩
 ·cases h;exact⟨⟨_,_,rfl,rfl,rfl,rfl,rfl,rfl⟩,⟨_,rfl,⟨_,rfl,rfl⟩⟩,rfl⟩
 ·cases h;exact⟨⟨_,_,rfl,rfl,rfl,rfl,rfl,rfl⟩,⟨_,rfl,rfl⟩,rfl⟩
 ·cases h;exact⟨⟨_,_,rfl,rfl,rfl,rfl,rfl,rfl⟩,⟨_,rfl,rfl⟩,rfl⟩
 ·cases h;exact⟨⟨_,_,rfl,rfl,rfl,rfl,rfl,rfl⟩,⟨_,rfl,rfl⟩,rfl⟩
 ·cases h;exact⟨⟨_,_,rfl,rfl,rfl,rfl,rfl,rfl⟩,⟨_,rfl,(by unfold TK.fits;exact⟨(by intro fs h;cases h),(by intro n e h;cases h)⟩)⟩,rfl⟩
 ·cases h;exact⟨⟨_,_,rfl,rfl,rfl,rfl,rfl,rfl⟩,⟨_,rfl,(by unfold TK.fits;exact⟨(by intro fs h;cases h),(by intro n e h;cases h)⟩)⟩,rfl⟩
 ·cases h;exact⟨⟨_,_,rfl,rfl,rfl,rfl,rfl,rfl⟩,⟨_,rfl,⟨_,rfl,rfl⟩⟩,rfl⟩
 ·cases h;exact⟨⟨_,_,rfl,rfl,rfl,rfl,rfl,rfl⟩,⟨_,rfl,⟨_,rfl,rfl⟩⟩,rfl⟩
 ·cases h;exact⟨⟨_,_,rfl,rfl,rfl,rfl,rfl,rfl⟩,⟨_,rfl,rfl⟩,rfl⟩
 ·cases h;exact⟨⟨_,_,rfl,rfl,rfl,rfl,rfl,rfl⟩,⟨_,rfl,⟨_,rfl,rfl⟩⟩,rfl⟩
 ·cases h;exact⟨⟨_,_,rfl,rfl,rfl,rfl,rfl,rfl⟩,⟨_,rfl,⟨_,rfl,rfl⟩⟩,rfl⟩
 ·cases h;exact⟨⟨_,_,rfl,rfl,rfl,rfl,rfl,rfl⟩,⟨_,rfl,rfl⟩,rfl⟩
 ·cases h;exact⟨⟨_,_,rfl,rfl,rfl,rfl,rfl,rfl⟩,⟨_,rfl,rfl⟩,rfl⟩
 ·cases h;exact⟨⟨_,_,rfl,rfl,rfl,rfl,rfl,rfl⟩,⟨_,rfl,rfl⟩,rfl⟩
 ·cases h;exact⟨⟨_,_,rfl,rfl,rfl,rfl,rfl,rfl⟩,⟨_,rfl,rfl⟩,rfl⟩
 ·cases h;exact⟨⟨_,_,rfl,rfl,rfl,rfl,rfl,rfl⟩,⟨_,rfl,rfl⟩,rfl⟩
 ·cases h;exact⟨⟨_,_,rfl,rfl,rfl,rfl,rfl,rfl⟩,⟨_,rfl,⟨_,rfl,rfl⟩⟩,rfl⟩
 ·cases h;exact⟨⟨_,_,rfl,rfl,rfl,rfl,rfl,rfl⟩,⟨_,rfl,⟨_,rfl,rfl⟩⟩,rfl⟩
 ·cases h;exact⟨⟨_,_,rfl,rfl,rfl,rfl,rfl,rfl⟩,⟨_,rfl,rfl⟩,rfl⟩
 ·cases h;exact⟨⟨_,_,rfl,rfl,rfl,rfl,rfl,rfl⟩,⟨_,rfl,rfl⟩,rfl⟩
 ·cases h;exact⟨⟨_,_,rfl,rfl,rfl,rfl,rfl,rfl⟩,⟨_,rfl,⟨_,rfl,rfl⟩⟩,rfl⟩
 ·cases h;exact⟨⟨_,_,rfl,rfl,rfl,rfl,rfl,rfl⟩,⟨_,rfl,⟨_,rfl,rfl⟩⟩,rfl⟩
 ·cases h;exact⟨⟨_,_,rfl,rfl,rfl,rfl,rfl,rfl⟩,⟨_,rfl,⟨_,rfl,rfl⟩⟩,rfl⟩
 ·cases h;exact⟨⟨_,_,rfl,rfl,rfl,rfl,rfl,rfl⟩,⟨_,rfl,⟨_,rfl,rfl⟩⟩,rfl⟩
 ·cases h;exact⟨⟨_,_,rfl,rfl,rfl,rfl,rfl,rfl⟩,⟨_,rfl,⟨_,rfl,rfl⟩⟩,rfl⟩
 ·cases h;exact⟨⟨_,_,rfl,rfl,rfl,rfl,rfl,rfl⟩,⟨_,rfl,⟨_,rfl,rfl⟩⟩,rfl⟩
 ·cases h
theorem hmo : Tryz.prog.follows .mixedOrders=true:=by rfl
instance : TKI Tryz.prog tbl:=⟨⟨hT⟩⟩
theorem Af(im:Nat->Bool){f:FuncId}{fn:Func}{c:Code}{args:List AV}{ret:AV}{H H':List Box}(hf:Tryz.prog.funcs[f]? = some fn){π:Prop}(e:π)(h:π->At Tryz.prog tbl im (Fr.f fn.ntmps H.length) (aDg tbl H.length fn.results.toList ret H') (.code c [] ⟨aAD 0 args,H⟩))(hb:fn.body=some c:=by exact rfl)(hk:Nat.ble args.length fn.ntmps=true:=by kernel_rfl):FnM Tryz.prog f H args ret H':=At.f im hT hmo hf hb e h hk
def De{im:Nat->Bool}{n:Fr}{Q:Exit->ASt->Prop}{p:Pt}{m:List Bool}{q:DQ}{τ:Type}{L R:EF->τ} := @DD.e _ Tryz.prog tbl im n Q p m q τ L R hT hmo
theorem tt3 : tbl 3=some ⟨1,8,(.v (.int .i64 0)),.int .i64⟩:=rfl
theorem tt25 : tbl 25=some ⟨1,4,(.v (.int .u32 0)),.int .u32⟩:=rfl
theorem tt36 : tbl 36=some ⟨3,24,(.arr 3 1 (aj 3 (.v (.int .i64 0)))),.arr 3 3⟩:=rfl
theorem tt40 : tbl 40=some ⟨3,24,(.st 3 [(.v (.int .i64 0)),(.v (.int .i64 0)),(.v (.int .i64 0))]),.st [(0,3),(1,3),(2,3)]⟩:=rfl
theorem aWp : EqT Tryz.prog 25 (α:=Int) k32 (λa b=>a==b) 1:=
 aNW Tryz.underlying25
theorem aWy : EqT Tryz.prog 89 (α:=(Vector Int 8)) (eA 8 1 k32) (eqV (λa b=>a==b)) 2:=
 aEs (M:=8) hT tt25 Tryz.underlying89 (by kernel_rfl) (λ_=>rfl) rfl (λ_=>rfl) (λ_=>rfl) aWp
theorem aFG : EqT Tryz.prog 3 (α:=Int) j64 (λa b=>a==b) 1:=
 aNW Tryz.underlying3
def aA.eq(a b:aA):Bool:=(λa b=>a==b) a.gX b.gX&&((λa b=>a==b) a.gY b.gY&&((λa b=>a==b) a.gZ b.gZ&&true))
theorem uK : EqT Tryz.prog 40 (α:=aA) aA.enc aA.eq 2:=
 aDF (N:=3) Tryz.underlying40 (by kernel_rfl) (λ_=>rfl) (λa b=>sD hT a.gX b.gX (by decide) rfl tt3 rfl (λ_=>rfl) (λ_=>rfl) (λ_=>rfl) aFG (by decide) (sD hT a.gY b.gY (by decide) rfl tt3 rfl (λ_=>rfl) (λ_=>rfl) (λ_=>rfl) aFG (by decide) (sD hT a.gZ b.gZ (by decide) rfl tt3 rfl (λ_=>rfl) (λ_=>rfl) (λ_=>rfl) aFG (by decide) (aJB))))
theorem aMD : EqT Tryz.prog 36 (α:=(Vector Int 3)) (eA 3 1 j64) (eqV (λa b=>a==b)) 2:=
 aEs (M:=3) hT tt3 Tryz.underlying36 (by kernel_rfl) (λ_=>rfl) rfl (λ_=>rfl) (λ_=>rfl) aFG
def aD.eq(a b:aD):Bool:=(λa b=>a==b) a.gC b.gC&&((eqV (λa b=>a==b)) a.gE b.gE&&((λa b=>a==b) a.gA5 b.gA5&&true))
theorem aJ8 : EqT Tryz.prog 38 (α:=aD) aD.enc aD.eq 3:=
 aDF (N:=5) Tryz.underlying38 (by kernel_rfl) (λ_=>rfl) (λa b=>sD hT a.gC b.gC (by decide) rfl tt3 rfl (λ_=>rfl) (λ_=>rfl) (λ_=>rfl) aFG (by decide) (sD hT a.gE b.gE (by decide) rfl tt36 rfl (λ_=>rfl) (λ_=>rfl) (λ_=>rfl) aMD (by decide) (sD hT a.gA5 b.gA5 (by decide) rfl tt3 rfl (λ_=>rfl) (λ_=>rfl) (λ_=>rfl) aFG (by decide) (aJB))))
def aJ.eq(a b:aJ):Bool:=(λa b=>a==b) a.gC b.gC&&((eqV (λa b=>a==b)) a.gE b.gE&&(aA.eq a.gAt b.gAt&&(aA.eq a.gU b.gU&&(aA.eq a.gV b.gV&&true))))
theorem aJq : EqT Tryz.prog 42 (α:=aJ) aJ.enc aJ.eq 3:=
 aDF (N:=13) Tryz.underlying42 (by kernel_rfl) (λ_=>rfl) (λa b=>sD hT a.gC b.gC (by decide) rfl tt3 rfl (λ_=>rfl) (λ_=>rfl) (λ_=>rfl) aFG (by decide) (sD hT a.gE b.gE (by decide) rfl tt36 rfl (λ_=>rfl) (λ_=>rfl) (λ_=>rfl) aMD (by decide) (sD hT a.gAt b.gAt (by decide) rfl tt40 rfl (λ_=>rfl) (λ_=>rfl) (λ_=>rfl) uK (by decide) (sD hT a.gU b.gU (by decide) rfl tt40 rfl (λ_=>rfl) (λ_=>rfl) (λ_=>rfl) uK (by decide) (sD hT a.gV b.gV (by decide) rfl tt40 rfl (λ_=>rfl) (λ_=>rfl) (λ_=>rfl) uK (by decide) (aJB))))))
theorem aSs : EqT Tryz.prog 208 (α:=(Vector Int 2)) (eA 2 1 j64) (eqV (λa b=>a==b)) 2:=
 aEs (M:=2) hT tt3 Tryz.underlying208 (by kernel_rfl) (λ_=>rfl) rfl (λ_=>rfl) (λ_=>rfl) aFG
def aHn : ByteArray:=(ByteArray.mk #[117,109,98,114,97,32,115,101,115,115,105,111,110])
def aOP : ByteArray:=(ByteArray.mk #[101,120,112,97,110,100,32,51,50,45,98,121,116,101,32,107])
def str_2 : ByteArray:=(ByteArray.mk #[108,105,99,101,110,115,111,114,32,55,10,114,111,116,97,116,101,32,55,10,114,111,116,97,116,101,32,56])
def str_3 : ByteArray:=(ByteArray.mk #[117,109,98,114,97,32,114,101,99,101,105,112,116])
def aUf : ByteArray:=(ByteArray.mk #[108,105,99,101,110,115,111,114])
def aUe : ByteArray:=(ByteArray.mk #[114,111,116,97,116,101])
def str_6 : ByteArray:=(ByteArray.mk #[114,101,116,105,114,101])
def str_7 : ByteArray:=(ByteArray.mk #[119,114,97,112,112,101,100])
def str_8 : ByteArray:=(ByteArray.mk #[97,117,100,105,116])
def str_9 : ByteArray:=(ByteArray.mk #[115,104,111,114,116])
def aV4 : ByteArray:=(ByteArray.mk #[111,114,100,101,114])
def aW3 : ByteArray:=(ByteArray.mk #[108,97,121,101,114])
def aW6 : ByteArray:=(ByteArray.mk #[113,117,111,116,97])
def aWM : ByteArray:=(ByteArray.mk #[115,116,97,108,101])
def aU5 : ByteArray:=(ByteArray.mk #[119,105,110,100,111,119])
def aVr : ByteArray:=(ByteArray.mk #[115,112,101,110,116])
def aW7 : ByteArray:=(ByteArray.mk #[111,107,10,111,107,32,50,10,110,111,110,101,10])
abbrev aCT : AV:=(.st 21 [(j64 0),(j64 0),(j64 0),(j64 0),(j64 0),(k64 0),(.st 14 [(.st 3 [(j64 0),(j64 0),(j64 0)]),(.st 3 [(j64 0),(j64 0),(j64 0)]),(.st 3 [(j64 0),(j64 0),(j64 0)]),(.st 3 [(j64 0),(j64 0),(j64 0)]),(j64 0),(j64 0)]),(eB false)])
end Go.UK
