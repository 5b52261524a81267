/- A part of the proof: what the functions of the program compute. -/
import Derived.Test.YtmmabhkichiikaaGreatLib15
import Derived.Test.YtmmabhkichiikaaGreatChecked
open List renaming append→jd,replicate→ai
namespace Go.UK
open Go Go.Proofs
set_option maxRecDepth 20000
set_option maxHeartbeats 40000000
set_option linter.all false
instance : bW:=⟨⟨[],[(112, "Any",230),(112, "Nearest",231),(112, "Steps",232),(115, "Any",242),(115, "Nearest",243),(115, "Steps",244),(317, "umbra/lamp.comes",249),(321, "umbra/lamp.comes",250)]⟩⟩
structure aB where
 gX:Int
 gY:Int
 gZ:Int
def aB.enc(s:aB):AV := .st 3 [(j64 s.gX),(j64 s.gY),(j64 s.gZ)]
structure aJ where
 gP:(Vector aB 3)
 gUv:(Vector (Vector Int 2) 3)
 gC5:Int
 gB7:Int
 gA2:Int
 gD4:Int
def aJ.enc(s:aJ):AV := .st 19 [(eA 9 3 aB.enc s.gP),(eA 6 2 (eA 2 1 j64) s.gUv),(j64 s.gC5),(j64 s.gB7),(j64 s.gA2),(k8 s.gD4)]
structure aO where
 gA9:Int
 gA7:(Vector Int 3)
 gD5:Int
def aO.enc(s:aO):AV := .st 5 [(j64 s.gA9),(eA 3 1 j64 s.gA7),(j64 s.gD5)]
structure aC where
 gF:Int
 gA5:(List (Vector Int 3))
def aC.enc(s:aC):AV := .st 2 [(j64 s.gF),(eL 3 (eA 3 1 j64) s.gA5)]
structure aS where
 gA9:Int
 gA7:(Vector Int 3)
 gAt:aB
 gU:aB
 gV:aB
def aS.enc(s:aS):AV := .st 13 [(j64 s.gA9),(eA 3 1 j64 s.gA7),(aB.enc s.gAt),(aB.enc s.gU),(aB.enc s.gV)]
structure aE where
 gQ:(List aJ)
 gB0:(List aO)
 gO:(List aC)
 gM:(List aS)
 gJ:(List Int)
 gA3:(List Int)
 gR:Int
 gB4:Int
 gTo:Int
def aE.enc(s:aE):AV := .st 9 [(eL 19 aJ.enc s.gQ),(eL 5 aO.enc s.gB0),(eL 2 aC.enc s.gO),(eL 13 aS.enc s.gM),(eL 1 k64 s.gJ),(eL 1 k32 s.gA3),(k32 s.gR),(k32 s.gB4),(k32 s.gTo)]
structure bQ where
 gA6:aB
 gB3:aB
 gUp:aB
 gE2:aB
 gC6:Int
 gD1:Int
def bQ.enc(s:bQ):AV := .st 14 [(aB.enc s.gA6),(aB.enc s.gB3),(aB.enc s.gUp),(aB.enc s.gE2),(j64 s.gC6),(j64 s.gD1)]
structure aF where
 gW:Int
 gH:Int
 gB5:Int
 gG:Int
 gK:Int
 gD6:Int
 gD7:bQ
 gA4:Bool
def aF.enc(s:aF):AV := .st 21 [(j64 s.gW),(j64 s.gH),(j64 s.gB5),(j64 s.gG),(j64 s.gK),(k64 s.gD6),(bQ.enc s.gD7),(eB s.gA4)]
structure aT where
 gHi:Int
 gLo:Int
def aT.enc(s:aT):AV := .st 2 [(j64 s.gHi),(k64 s.gLo)]
structure aA where
 gX:Int
 gY:Int
 gZ:Int
def aA.enc(s:aA):AV := .st 3 [(j64 s.gX),(j64 s.gY),(j64 s.gZ)]
structure aX where
 gLo:aB
 gHi:aB
 gB1:Int
 gB3:Int
 gC7:Int
 gC2:Int
def aX.enc(s:aX):AV := .st 10 [(aB.enc s.gLo),(aB.enc s.gHi),(j64 s.gB1),(j64 s.gB3),(j64 s.gC7),(j64 s.gC2)]
structure aW where
 gA1:Int
 gC:Int
 gS:Int
 gD9:Int
def aW.enc(s:aW):AV := .st 4 [(j64 s.gA1),(j64 s.gC),(j64 s.gS),(j64 s.gD9)]
structure bB where
 gn:Int
 glo:aB
 ghi:aB
def bB.enc(s:bB):AV := .st 7 [(j64 s.gn),(aB.enc s.glo),(aB.enc s.ghi)]
structure bD where
 gA8:(List aX)
 gD2:(List Int)
def bD.enc(s:bD):AV := .st 2 [(eL 10 aX.enc s.gA8),(eL 1 j64 s.gD2)]
structure aM where
 gT:bD
 gA:Bool
 gl:(List aJ)
 gD3:Int
def aM.enc(s:aM):AV := .st 5 [(bD.enc s.gT),(eB s.gA),(eL 19 aJ.enc s.gl),(j64 s.gD3)]
structure cO where
 gx:Int
 gy:Int
 gw:Int
 gh:Int
def cO.enc(s:cO):AV := .st 4 [(j64 s.gx),(j64 s.gy),(j64 s.gw),(j64 s.gh)]
structure aK where
 gx:Int
 gy:Int
 gin:cO
def aK.enc(s:aK):AV := .st 6 [(j64 s.gx),(j64 s.gy),(cO.enc s.gin)]
structure aG where
 gA7:aA
 gA0:Int
 gG:Int
 gB6:aA
 gA2:Int
def aG.enc(s:aG):AV := .st 9 [(aA.enc s.gA7),(j64 s.gA0),(j64 s.gG),(aA.enc s.gB6),(j64 s.gA2)]
structure aI where
 gW:Int
 gH:Int
 gC1:(List (Vector Int 3))
 gA0:(List Int)
 gG:(List Int)
 gB6:(List (Vector Int 3))
 gB8:(List Int)
 gR:(List Int)
def aI.enc(s:aI):AV := .st 8 [(j64 s.gW),(j64 s.gH),(eL 3 (eA 3 1 j64) s.gC1),(eL 1 j64 s.gA0),(eL 1 j64 s.gG),(eL 3 (eA 3 1 j64) s.gB6),(eL 1 j64 s.gB8),(eL 1 j64 s.gR)]
structure aH where
 gL:Int
 gN:Int
 gI:Int
def aH.enc(s:aH):AV := .st 3 [(j64 s.gL),(j64 s.gN),(j64 s.gI)]
structure jJ where
 gn:Int
def jJ.enc(s:jJ):AV := .st 1 [(j64 s.gn)]
structure aL where
 gD8:jJ
 gA:Bool
 gl:(List aJ)
def aL.enc(s:aL):AV := .st 3 [(jJ.enc s.gD8),(eB s.gA),(eL 19 aJ.enc s.gl)]
structure aN where
 go:aB
 gd:aB
 gE8:Int
def aN.enc(s:aN):AV := .st 7 [(aB.enc s.go),(aB.enc s.gd),(j64 s.gE8)]
structure bV where
 gE3:Int
 gE4:Int
 gE5:Int
def bV.enc(s:bV):AV := .st 3 [(k32 s.gE3),(k32 s.gE4),(k32 s.gE5)]
structure eM where
 gF2:bV
 gis:Bool
 gF3:(Vector Int 64)
def eM.enc(s:eM):AV := .st 68 [(bV.enc s.gF2),(eB s.gis),(eA 64 1 k8 s.gF3)]
structure aD where
 gE6:eM
 gA:Bool
 gD:Int
 gC:Int
 gE:Int
def aD.enc(s:aD):AV := .st 72 [(eM.enc s.gE6),(eB s.gA),(k64 s.gD),(j64 s.gC),(j64 s.gE)]
structure aR where
 gC3:Int
 gB9:Int
 gU:Int
 gV:Int
def aR.enc(s:aR):AV := .st 4 [(j64 s.gC3),(j64 s.gB9),(j64 s.gU),(j64 s.gV)]
structure bC where
 gi:Int
 gat:aB
 gn:aA
 gc:aA
 gB2:aO
 gC0:Bool
def bC.enc(s:bC):AV := .st 16 [(j64 s.gi),(aB.enc s.gat),(aA.enc s.gn),(aA.enc s.gc),(aO.enc s.gB2),(eB s.gC0)]
structure xL where
 gE0:aB
def xL.enc(s:xL):AV := .st 3 [(aB.enc s.gE0)]
structure yE where
 gF4:aB
def yE.enc(s:yE):AV := .st 3 [(aB.enc s.gF4)]
structure mR where
 gE9:aB
 gF0:Bool
 gE7:Bool
 gC4:aA
def mR.enc(s:mR):AV := .st 8 [(aB.enc s.gE9),(eB s.gF0),(eB s.gE7),(aA.enc s.gC4)]
structure jT where
 gF1:aB
 gC4:aA
 gC8:Bool
def jT.enc(s:jT):AV := .st 7 [(aB.enc s.gF1),(aA.enc s.gC4),(eB s.gC8)]
structure aU where
 gW:Int
 gH:Int
 gC9:Int
 gD0:ByteArray
 gE1:(List Int)
def aU.enc(s:aU):AV := .st 5 [(j64 s.gW),(j64 s.gH),(j64 s.gC9),(eS s.gD0),(eL 1 j64 s.gE1)]
structure aY where
 gn:Int
 gd:Int
def aY.enc(s:aY):AV := .st 2 [(j64 s.gn),(j64 s.gd)]
def tbl : TypeId->Option TI
 | 2=>some ⟨1,8,(.v (.int .i64 0)),.int .i64⟩
 | 3=>some ⟨1,8,(.v (.int .i64 0)),.int .i64⟩
 | 4=>some ⟨1,1,(.v (.bool false)),.bool⟩
 | 5=>some ⟨1,1,(.v (.int .u8 0)),.int .u8⟩
 | 9=>some ⟨1,16,(.v (.string (ByteArray.mk #[]))),.str⟩
 | 22=>some ⟨1,24,(.v (.slice none 0 0)),.sl 123⟩
 | 23=>some ⟨1,24,(.v (.slice none 0 0)),.sl 126⟩
 | 24=>some ⟨1,24,(.v (.slice none 0 0)),.sl 63⟩
 | 25=>some ⟨1,24,(.v (.slice none 0 0)),.sl 129⟩
 | 26=>some ⟨1,24,(.v (.slice none 0 0)),.sl 31⟩
 | 27=>some ⟨1,24,(.v (.slice none 0 0)),.sl 28⟩
 | 28=>some ⟨1,4,(.v (.int .u32 0)),.int .u32⟩
 | 30=>some ⟨9,160,(.st 9 [(.v (.slice none 0 0)),(.v (.slice none 0 0)),(.v (.slice none 0 0)),(.v (.slice none 0 0)),(.v (.slice none 0 0)),(.v (.slice none 0 0)),(.v (.int .u32 0)),(.v (.int .u32 0)),(.v (.int .u32 0))]),.st [(0,22),(1,23),(2,24),(3,25),(4,26),(5,27),(6,28),(7,28),(8,28)]⟩
 | 31=>some ⟨1,8,(.v (.int .u64 0)),.int .u64⟩
 | 33=>some ⟨3,24,(.st 3 [(.v (.int .i64 0)),(.v (.int .i64 0)),(.v (.int .i64 0))]),.st [(0,3),(1,3),(2,3)]⟩
 | 35=>some ⟨14,112,(.st 14 [(.st 3 [(.v (.int .i64 0)),(.v (.int .i64 0)),(.v (.int .i64 0))]),(.st 3 [(.v (.int .i64 0)),(.v (.int .i64 0)),(.v (.int .i64 0))]),(.st 3 [(.v (.int .i64 0)),(.v (.int .i64 0)),(.v (.int .i64 0))]),(.st 3 [(.v (.int .i64 0)),(.v (.int .i64 0)),(.v (.int .i64 0))]),(.v (.int .i64 0)),(.v (.int .i64 0))]),.st [(0,33),(3,33),(6,33),(9,33),(12,3),(13,3)]⟩
 | 37=>some ⟨21,168,(.st 21 [(.v (.int .i64 0)),(.v (.int .i64 0)),(.v (.int .i64 0)),(.v (.int .i64 0)),(.v (.int .i64 0)),(.v (.int .u64 0)),(.st 14 [(.st 3 [(.v (.int .i64 0)),(.v (.int .i64 0)),(.v (.int .i64 0))]),(.st 3 [(.v (.int .i64 0)),(.v (.int .i64 0)),(.v (.int .i64 0))]),(.st 3 [(.v (.int .i64 0)),(.v (.int .i64 0)),(.v (.int .i64 0))]),(.st 3 [(.v (.int .i64 0)),(.v (.int .i64 0)),(.v (.int .i64 0))]),(.v (.int .i64 0)),(.v (.int .i64 0))]),(.v (.bool false))]),.st [(0,3),(1,3),(2,3),(3,3),(4,3),(5,31),(6,35),(20,4)]⟩
 | 38=>some ⟨2,2,(.arr 2 1 (ai 2 (.v (.int .u8 0)))),.arr 2 5⟩
 | 41=>some ⟨1,8,(.v (.pointer none)),.ptr 71⟩
 | 42=>some ⟨1,8,(.v (.int .i64 0)),.int .i64⟩
 | 49=>some ⟨1,24,(.v (.slice none 0 0)),.sl 97⟩
 | 50=>some ⟨1,24,(.v (.slice none 0 0)),.sl 3⟩
 | 52=>some ⟨8,160,(.st 8 [(.v (.int .i64 0)),(.v (.int .i64 0)),(.v (.slice none 0 0)),(.v (.slice none 0 0)),(.v (.slice none 0 0)),(.v (.slice none 0 0)),(.v (.slice none 0 0)),(.v (.slice none 0 0))]),.st [(0,3),(1,3),(2,49),(3,50),(4,50),(5,49),(6,50),(7,50)]⟩
 | 54=>some ⟨3,24,(.st 3 [(.v (.int .i64 0)),(.v (.int .i64 0)),(.v (.int .i64 0))]),.st [(0,3),(1,3),(2,3)]⟩
 | 59=>some ⟨1,24,(.v (.slice none 0 0)),.sl 5⟩
 | 63=>some ⟨2,32,(.st 2 [(.v (.int .i64 0)),(.v (.slice none 0 0))]),.st [(0,3),(1,49)]⟩
 | 64=>some ⟨1,8,(.v (.pointer none)),.ptr 107⟩
 | 67=>some ⟨1,8,(.v .nilFunc),.other⟩
 | 68=>some ⟨1,24,(.v (.slice none 0 0)),.sl 78⟩
 | 69=>some ⟨1,24,(.v (.slice none 0 0)),.sl 89⟩
 | 71=>some ⟨43,560,(.st 43 [(.v (.pointer none)),(.st 9 [(.v (.slice none 0 0)),(.v (.slice none 0 0)),(.v (.slice none 0 0)),(.v (.slice none 0 0)),(.v (.slice none 0 0)),(.v (.slice none 0 0)),(.v (.int .u32 0)),(.v (.int .u32 0)),(.v (.int .u32 0))]),(.st 21 [(.v (.int .i64 0)),(.v (.int .i64 0)),(.v (.int .i64 0)),(.v (.int .i64 0)),(.v (.int .i64 0)),(.v (.int .u64 0)),(.st 14 [(.st 3 [(.v (.int .i64 0)),(.v (.int .i64 0)),(.v (.int .i64 0))]),(.st 3 [(.v (.int .i64 0)),(.v (.int .i64 0)),(.v (.int .i64 0))]),(.st 3 [(.v (.int .i64 0)),(.v (.int .i64 0)),(.v (.int .i64 0))]),(.st 3 [(.v (.int .i64 0)),(.v (.int .i64 0)),(.v (.int .i64 0))]),(.v (.int .i64 0)),(.v (.int .i64 0))]),(.v (.bool false))]),(.v (.int .i64 0)),(.v (.slice none 0 0)),(.v (.int .i64 0)),(.v (.slice none 0 0)),(.st 8 [(.v (.int .i64 0)),(.v (.int .i64 0)),(.v (.slice none 0 0)),(.v (.slice none 0 0)),(.v (.slice none 0 0)),(.v (.slice none 0 0)),(.v (.slice none 0 0)),(.v (.slice none 0 0))])]),.st [(0,64),(1,30),(10,37),(31,3),(32,68),(33,3),(34,69),(35,52)]⟩
 | 73=>some ⟨1,8,(.v .nilFunc),.other⟩
 | 76=>some ⟨4,32,(.st 4 [(.v (.int .i64 0)),(.v (.int .i64 0)),(.v (.int .i64 0)),(.v (.int .i64 0))]),.st [(0,3),(1,3),(2,3),(3,3)]⟩
 | 78=>some ⟨6,48,(.st 6 [(.v (.int .i64 0)),(.v (.int .i64 0)),(.st 4 [(.v (.int .i64 0)),(.v (.int .i64 0)),(.v (.int .i64 0)),(.v (.int .i64 0))])]),.st [(0,3),(1,3),(2,76)]⟩
 | 81=>some ⟨1,24,(.v (.slice none 0 0)),.sl 84⟩
 | 84=>some ⟨4,32,(.arr 4 1 (ai 4 (.v (.int .i64 0)))),.arr 4 3⟩
 | 85=>some ⟨1,8,(.v (.int .i64 0)),.int .i64⟩
 | 87=>some ⟨3,24,(.st 3 [(.v (.int .i64 0)),(.v (.int .i64 0)),(.v (.int .i64 0))]),.st [(0,85),(1,85),(2,85)]⟩
 | 89=>some ⟨9,72,(.st 9 [(.st 3 [(.v (.int .i64 0)),(.v (.int .i64 0)),(.v (.int .i64 0))]),(.v (.int .i64 0)),(.v (.int .i64 0)),(.st 3 [(.v (.int .i64 0)),(.v (.int .i64 0)),(.v (.int .i64 0))]),(.v (.int .i64 0))]),.st [(0,87),(3,3),(4,85),(5,87),(8,3)]⟩
 | 97=>some ⟨3,24,(.arr 3 1 (ai 3 (.v (.int .i64 0)))),.arr 3 3⟩
 | 104=>some ⟨1,16,(.v .nilIface),.other⟩
 | 105=>some ⟨1,24,(.v (.slice none 0 0)),.sl 24⟩
 | 107=>some ⟨38,416,(.st 38 [(.st 9 [(.v (.slice none 0 0)),(.v (.slice none 0 0)),(.v (.slice none 0 0)),(.v (.slice none 0 0)),(.v (.slice none 0 0)),(.v (.slice none 0 0)),(.v (.int .u32 0)),(.v (.int .u32 0)),(.v (.int .u32 0))]),(.st 21 [(.v (.int .i64 0)),(.v (.int .i64 0)),(.v (.int .i64 0)),(.v (.int .i64 0)),(.v (.int .i64 0)),(.v (.int .u64 0)),(.st 14 [(.st 3 [(.v (.int .i64 0)),(.v (.int .i64 0)),(.v (.int .i64 0))]),(.st 3 [(.v (.int .i64 0)),(.v (.int .i64 0)),(.v (.int .i64 0))]),(.st 3 [(.v (.int .i64 0)),(.v (.int .i64 0)),(.v (.int .i64 0))]),(.st 3 [(.v (.int .i64 0)),(.v (.int .i64 0)),(.v (.int .i64 0))]),(.v (.int .i64 0)),(.v (.int .i64 0))]),(.v (.bool false))]),(.v .nilIface),(.v (.slice none 0 0)),(.st 3 [(.v (.int .i64 0)),(.v (.int .i64 0)),(.v (.int .i64 0))]),(.st 3 [(.v (.int .i64 0)),(.v (.int .i64 0)),(.v (.int .i64 0))])]),.st [(0,30),(9,37),(30,104),(31,105),(32,87),(35,54)]⟩
 | 112=>some ⟨1,8,(.v (.pointer none)),.ptr 178⟩
 | 115=>some ⟨1,8,(.v (.pointer none)),.ptr 185⟩
 | 119=>some ⟨9,72,(.arr 9 3 (ai 3 (.st 3 [(.v (.int .i64 0)),(.v (.int .i64 0)),(.v (.int .i64 0))]))),.arr 3 33⟩
 | 120=>some ⟨2,16,(.arr 2 1 (ai 2 (.v (.int .i64 0)))),.arr 2 3⟩
 | 121=>some ⟨6,48,(.arr 6 2 (ai 3 (.arr 2 1 (ai 2 (.v (.int .i64 0)))))),.arr 3 120⟩
 | 123=>some ⟨19,152,(.st 19 [(.arr 9 3 (ai 3 (.st 3 [(.v (.int .i64 0)),(.v (.int .i64 0)),(.v (.int .i64 0))]))),(.arr 6 2 (ai 3 (.arr 2 1 (ai 2 (.v (.int .i64 0)))))),(.v (.int .i64 0)),(.v (.int .i64 0)),(.v (.int .i64 0)),(.v (.int .u8 0))]),.st [(0,119),(9,121),(15,3),(16,3),(17,3),(18,5)]⟩
 | 126=>some ⟨5,40,(.st 5 [(.v (.int .i64 0)),(.arr 3 1 (ai 3 (.v (.int .i64 0)))),(.v (.int .i64 0))]),.st [(0,3),(1,97),(4,3)]⟩
 | 129=>some ⟨13,104,(.st 13 [(.v (.int .i64 0)),(.arr 3 1 (ai 3 (.v (.int .i64 0)))),(.st 3 [(.v (.int .i64 0)),(.v (.int .i64 0)),(.v (.int .i64 0))]),(.st 3 [(.v (.int .i64 0)),(.v (.int .i64 0)),(.v (.int .i64 0))]),(.st 3 [(.v (.int .i64 0)),(.v (.int .i64 0)),(.v (.int .i64 0))])]),.st [(0,3),(1,97),(4,33),(7,33),(10,33)]⟩
 | 136=>some ⟨1,8,(.v (.pointer none)),.ptr 193⟩
 | 139=>some ⟨7,56,(.st 7 [(.st 3 [(.v (.int .i64 0)),(.v (.int .i64 0)),(.v (.int .i64 0))]),(.st 3 [(.v (.int .i64 0)),(.v (.int .i64 0)),(.v (.int .i64 0))]),(.v (.int .i64 0))]),.st [(0,33),(3,33),(6,3)]⟩
 | 141=>some ⟨26,208,(.st 26 [(.st 7 [(.st 3 [(.v (.int .i64 0)),(.v (.int .i64 0)),(.v (.int .i64 0))]),(.st 3 [(.v (.int .i64 0)),(.v (.int .i64 0)),(.v (.int .i64 0))]),(.v (.int .i64 0))]),(.v (.pointer none)),(.v (.pointer none)),(.st 3 [(.v (.int .i64 0)),(.v (.int .i64 0)),(.v (.int .i64 0))]),(.st 3 [(.v (.int .i64 0)),(.v (.int .i64 0)),(.v (.int .i64 0))]),(.v (.int .i64 0)),(.v (.bool false)),(.st 9 [(.st 3 [(.v (.int .i64 0)),(.v (.int .i64 0)),(.v (.int .i64 0))]),(.v (.int .i64 0)),(.v (.int .i64 0)),(.st 3 [(.v (.int .i64 0)),(.v (.int .i64 0)),(.v (.int .i64 0))]),(.v (.int .i64 0))])]),.st [(0,139),(7,64),(8,136),(9,87),(12,87),(15,3),(16,4),(17,89)]⟩
 | 142=>some ⟨4,16,(.arr 4 1 (ai 4 (.v (.int .u32 0)))),.arr 4 28⟩
 | 171=>some ⟨1,24,(.v (.slice none 0 0)),.sl 87⟩
 | 173=>some ⟨1,8,(.v .nilFunc),.other⟩
 | 176=>some ⟨1,8,(.st 1 [(.v (.int .i64 0))]),.st [(0,3)]⟩
 | 178=>some ⟨3,40,(.st 3 [(.st 1 [(.v (.int .i64 0))]),(.v (.bool false)),(.v (.slice none 0 0))]),.st [(0,176),(1,4),(2,22)]⟩
 | 179=>some ⟨1,24,(.v (.slice none 0 0)),.sl 243⟩
 | 181=>some ⟨2,48,(.st 2 [(.v (.slice none 0 0)),(.v (.slice none 0 0))]),.st [(0,179),(1,50)]⟩
 | 185=>some ⟨5,88,(.st 5 [(.st 2 [(.v (.slice none 0 0)),(.v (.slice none 0 0))]),(.v (.bool false)),(.v (.slice none 0 0)),(.v (.int .i64 0))]),.st [(0,181),(2,4),(3,22),(4,3)]⟩
 | 188=>some ⟨3,12,(.st 3 [(.v (.int .u32 0)),(.v (.int .u32 0)),(.v (.int .u32 0))]),.st [(0,28),(1,28),(2,28)]⟩
 | 189=>some ⟨64,64,(.arr 64 1 (ai 64 (.v (.int .u8 0)))),.arr 64 5⟩
 | 191=>some ⟨68,80,(.st 68 [(.st 3 [(.v (.int .u32 0)),(.v (.int .u32 0)),(.v (.int .u32 0))]),(.v (.bool false)),(.arr 64 1 (ai 64 (.v (.int .u8 0))))]),.st [(0,188),(3,4),(4,189)]⟩
 | 193=>some ⟨72,112,(.st 72 [(.st 68 [(.st 3 [(.v (.int .u32 0)),(.v (.int .u32 0)),(.v (.int .u32 0))]),(.v (.bool false)),(.arr 64 1 (ai 64 (.v (.int .u8 0))))]),(.v (.bool false)),(.v (.int .u64 0)),(.v (.int .i64 0)),(.v (.int .i64 0))]),.st [(0,191),(68,4),(69,31),(70,3),(71,3)]⟩
 | 197=>some ⟨2,8,(.arr 2 1 (ai 2 (.v (.int .u32 0)))),.arr 2 28⟩
 | 204=>some ⟨16,128,(.st 16 [(.v (.int .i64 0)),(.st 3 [(.v (.int .i64 0)),(.v (.int .i64 0)),(.v (.int .i64 0))]),(.st 3 [(.v (.int .i64 0)),(.v (.int .i64 0)),(.v (.int .i64 0))]),(.st 3 [(.v (.int .i64 0)),(.v (.int .i64 0)),(.v (.int .i64 0))]),(.st 5 [(.v (.int .i64 0)),(.arr 3 1 (ai 3 (.v (.int .i64 0)))),(.v (.int .i64 0))]),(.v (.bool false))]),.st [(0,3),(1,33),(4,87),(7,87),(10,126),(15,4)]⟩
 | 211=>some ⟨7,56,(.st 7 [(.st 3 [(.v (.int .i64 0)),(.v (.int .i64 0)),(.v (.int .i64 0))]),(.st 3 [(.v (.int .i64 0)),(.v (.int .i64 0)),(.v (.int .i64 0))]),(.v (.bool false))]),.st [(0,33),(3,87),(6,4)]⟩
 | 216=>some ⟨1,24,(.v (.slice none 0 0)),.sl 85⟩
 | 218=>some ⟨2,16,(.st 2 [(.v (.int .i64 0)),(.v (.int .u64 0))]),.st [(0,2),(1,31)]⟩
 | 225=>some ⟨1,24,(.v (.slice none 0 0)),.sl 52⟩
 | 226=>some ⟨1,24,(.v (.slice none 0 0)),.sl 289⟩
 | 241=>some ⟨1,24,(.v (.slice none 0 0)),.sl 33⟩
 | 243=>some ⟨10,80,(.st 10 [(.st 3 [(.v (.int .i64 0)),(.v (.int .i64 0)),(.v (.int .i64 0))]),(.st 3 [(.v (.int .i64 0)),(.v (.int .i64 0)),(.v (.int .i64 0))]),(.v (.int .i64 0)),(.v (.int .i64 0)),(.v (.int .i64 0)),(.v (.int .i64 0))]),.st [(0,33),(3,33),(6,3),(7,3),(8,3),(9,3)]⟩
 | 245=>some ⟨4,32,(.st 4 [(.v (.int .i64 0)),(.v (.int .i64 0)),(.v (.int .i64 0)),(.v (.int .i64 0))]),.st [(0,3),(1,3),(2,3),(3,3)]⟩
 | 246=>some ⟨1,24,(.v (.slice none 0 0)),.sl 245⟩
 | 256=>some ⟨4,32,(.st 4 [(.v (.int .i64 0)),(.v (.int .i64 0)),(.v (.int .i64 0)),(.v (.int .i64 0))]),.st [(0,3),(1,3),(2,3),(3,3)]⟩
 | 264=>some ⟨8,56,(.st 8 [(.st 3 [(.v (.int .i64 0)),(.v (.int .i64 0)),(.v (.int .i64 0))]),(.v (.bool false)),(.v (.bool false)),(.st 3 [(.v (.int .i64 0)),(.v (.int .i64 0)),(.v (.int .i64 0))])]),.st [(0,33),(3,4),(4,4),(5,87)]⟩
 | 281=>some ⟨1,8,(.v (.int .u64 0)),.int .u64⟩
 | 287=>some ⟨6,144,(.arr 6 1 (ai 6 (.v (.slice none 0 0)))),.arr 6 50⟩
 | 289=>some ⟨5,64,(.st 5 [(.v (.int .i64 0)),(.v (.int .i64 0)),(.v (.int .i64 0)),(.v (.string (ByteArray.mk #[]))),(.v (.slice none 0 0))]),.st [(0,3),(1,3),(2,3),(3,9),(4,50)]⟩
 | 290=>some ⟨30,384,(.arr 30 5 (ai 6 (.st 5 [(.v (.int .i64 0)),(.v (.int .i64 0)),(.v (.int .i64 0)),(.v (.string (ByteArray.mk #[]))),(.v (.slice none 0 0))]))),.arr 6 289⟩
 | 304=>some ⟨12,12,(.arr 12 1 (ai 12 (.v (.int .u8 0)))),.arr 12 5⟩
 | 306=>some ⟨32,32,(.arr 32 1 (ai 32 (.v (.int .u8 0)))),.arr 32 5⟩
 | 317=>some ⟨3,24,(.st 3 [(.st 3 [(.v (.int .i64 0)),(.v (.int .i64 0)),(.v (.int .i64 0))])]),.st [(0,33)]⟩
 | 321=>some ⟨3,24,(.st 3 [(.st 3 [(.v (.int .i64 0)),(.v (.int .i64 0)),(.v (.int .i64 0))])]),.st [(0,33)]⟩
 | 330=>some ⟨1,24,(.v (.slice none 0 0)),.sl 218⟩
 | 334=>some ⟨7,56,(.st 7 [(.v (.int .i64 0)),(.st 3 [(.v (.int .i64 0)),(.v (.int .i64 0)),(.v (.int .i64 0))]),(.st 3 [(.v (.int .i64 0)),(.v (.int .i64 0)),(.v (.int .i64 0))])]),.st [(0,3),(1,33),(4,33)]⟩
 | 335=>some ⟨56,448,(.arr 56 7 (ai 8 (.st 7 [(.v (.int .i64 0)),(.st 3 [(.v (.int .i64 0)),(.v (.int .i64 0)),(.v (.int .i64 0))]),(.st 3 [(.v (.int .i64 0)),(.v (.int .i64 0)),(.v (.int .i64 0))])]))),.arr 8 334⟩
 | 337=>some ⟨16,64,(.arr 16 1 (ai 16 (.v (.int .u32 0)))),.arr 16 28⟩
 | 339=>some ⟨32,256,(.arr 32 4 (ai 8 (.arr 4 1 (ai 4 (.v (.int .i64 0)))))),.arr 8 84⟩
 | 345=>some ⟨12,96,(.arr 12 3 (ai 4 (.arr 3 1 (ai 3 (.v (.int .i64 0)))))),.arr 4 97⟩
 | 376=>some ⟨2,16,(.st 2 [(.v (.int .i64 0)),(.v (.int .i64 0))]),.st [(0,3),(1,3)]⟩
 | 380=>some ⟨12,96,(.arr 12 4 (ai 3 (.arr 4 1 (ai 4 (.v (.int .i64 0)))))),.arr 3 84⟩
 | _=>none
theorem hT : TOK Tryz.prog tbl:=by
 intro t i h;unfold tbl at h;split at h
 ·cases h;exact⟨⟨_,_,rfl,rfl,rfl,rfl,rfl,rfl⟩,⟨_,rfl,rfl⟩,rfl⟩
 ·cases h;exact⟨⟨_,_,rfl,rfl,rfl,rfl,rfl,rfl⟩,⟨_,rfl,rfl⟩,rfl⟩
 ·cases h;exact⟨⟨_,_,rfl,rfl,rfl,rfl,rfl,rfl⟩,⟨_,rfl,rfl⟩,rfl⟩
 ·cases h;exact⟨⟨_,_,rfl,rfl,rfl,rfl,rfl,rfl⟩,⟨_,rfl,rfl⟩,rfl⟩
 ·cases h;exact⟨⟨_,_,rfl,rfl,rfl,rfl,rfl,rfl⟩,⟨_,rfl,rfl⟩,rfl⟩
 ·cases h;exact⟨⟨_,_,rfl,rfl,rfl,rfl,rfl,rfl⟩,⟨_,rfl,rfl⟩,rfl⟩
 ·cases h;exact⟨⟨_,_,rfl,rfl,rfl,rfl,rfl,rfl⟩,⟨_,rfl,rfl⟩,rfl⟩
 ·cases h;exact⟨⟨_,_,rfl,rfl,rfl,rfl,rfl,rfl⟩,⟨_,rfl,rfl⟩,rfl⟩
 ·cases h;exact⟨⟨_,_,rfl,rfl,rfl,rfl,rfl,rfl⟩,⟨_,rfl,rfl⟩,rfl⟩
 ·cases h;exact⟨⟨_,_,rfl,rfl,rfl,rfl,rfl,rfl⟩,⟨_,rfl,rfl⟩,rfl⟩
 ·cases h;exact⟨⟨_,_,rfl,rfl,rfl,rfl,rfl,rfl⟩,⟨_,rfl,rfl⟩,rfl⟩
 ·cases h;exact⟨⟨_,_,rfl,rfl,rfl,rfl,rfl,rfl⟩,⟨_,rfl,rfl⟩,rfl⟩
 ·cases h;exact⟨⟨_,_,rfl,rfl,rfl,rfl,rfl,rfl⟩,⟨_,rfl,⟨_,rfl,rfl⟩⟩,rfl⟩
 ·cases h;exact⟨⟨_,_,rfl,rfl,rfl,rfl,rfl,rfl⟩,⟨_,rfl,rfl⟩,rfl⟩
 ·cases h;exact⟨⟨_,_,rfl,rfl,rfl,rfl,rfl,rfl⟩,⟨_,rfl,⟨_,rfl,rfl⟩⟩,rfl⟩
 ·cases h;exact⟨⟨_,_,rfl,rfl,rfl,rfl,rfl,rfl⟩,⟨_,rfl,⟨_,rfl,rfl⟩⟩,rfl⟩
 ·cases h;exact⟨⟨_,_,rfl,rfl,rfl,rfl,rfl,rfl⟩,⟨_,rfl,⟨_,rfl,rfl⟩⟩,rfl⟩
 ·cases h;exact⟨⟨_,_,rfl,rfl,rfl,rfl,rfl,rfl⟩,⟨_,rfl,rfl⟩,rfl⟩
 ·cases h;exact⟨⟨_,_,rfl,rfl,rfl,rfl,rfl,rfl⟩,⟨_,rfl,rfl⟩,rfl⟩
 ·cases h;exact⟨⟨_,_,rfl,rfl,rfl,rfl,rfl,rfl⟩,⟨_,rfl,rfl⟩,rfl⟩
 ·cases h;exact⟨⟨_,_,rfl,rfl,rfl,rfl,rfl,rfl⟩,⟨_,rfl,rfl⟩,rfl⟩
 ·cases h;exact⟨⟨_,_,rfl,rfl,rfl,rfl,rfl,rfl⟩,⟨_,rfl,rfl⟩,rfl⟩
 ·cases h;exact⟨⟨_,_,rfl,rfl,rfl,rfl,rfl,rfl⟩,⟨_,rfl,⟨_,rfl,rfl⟩⟩,rfl⟩
 ·cases h;exact⟨⟨_,_,rfl,rfl,rfl,rfl,rfl,rfl⟩,⟨_,rfl,⟨_,rfl,rfl⟩⟩,rfl⟩
 ·cases h;exact⟨⟨_,_,rfl,rfl,rfl,rfl,rfl,rfl⟩,⟨_,rfl,rfl⟩,rfl⟩
 ·cases h;exact⟨⟨_,_,rfl,rfl,rfl,rfl,rfl,rfl⟩,⟨_,rfl,⟨_,rfl,rfl⟩⟩,rfl⟩
 ·cases h;exact⟨⟨_,_,rfl,rfl,rfl,rfl,rfl,rfl⟩,⟨_,rfl,rfl⟩,rfl⟩
 ·cases h;exact⟨⟨_,_,rfl,rfl,rfl,rfl,rfl,rfl⟩,⟨_,rfl,(by unfold TK.fits;exact⟨(by intro fs h;cases h),(by intro n e h;cases h)⟩)⟩,rfl⟩
 ·cases h;exact⟨⟨_,_,rfl,rfl,rfl,rfl,rfl,rfl⟩,⟨_,rfl,rfl⟩,rfl⟩
 ·cases h;exact⟨⟨_,_,rfl,rfl,rfl,rfl,rfl,rfl⟩,⟨_,rfl,rfl⟩,rfl⟩
 ·cases h;exact⟨⟨_,_,rfl,rfl,rfl,rfl,rfl,rfl⟩,⟨_,rfl,⟨_,rfl,rfl⟩⟩,rfl⟩
 ·cases h;exact⟨⟨_,_,rfl,rfl,rfl,rfl,rfl,rfl⟩,⟨_,rfl,(by unfold TK.fits;exact⟨(by intro fs h;cases h),(by intro n e h;cases h)⟩)⟩,rfl⟩
 ·cases h;exact⟨⟨_,_,rfl,rfl,rfl,rfl,rfl,rfl⟩,⟨_,rfl,⟨_,rfl,rfl⟩⟩,rfl⟩
 ·cases h;exact⟨⟨_,_,rfl,rfl,rfl,rfl,rfl,rfl⟩,⟨_,rfl,⟨_,rfl,rfl⟩⟩,rfl⟩
 ·cases h;exact⟨⟨_,_,rfl,rfl,rfl,rfl,rfl,rfl⟩,⟨_,rfl,rfl⟩,rfl⟩
 ·cases h;exact⟨⟨_,_,rfl,rfl,rfl,rfl,rfl,rfl⟩,⟨_,rfl,rfl⟩,rfl⟩
 ·cases h;exact⟨⟨_,_,rfl,rfl,rfl,rfl,rfl,rfl⟩,⟨_,rfl,rfl⟩,rfl⟩
 ·cases h;exact⟨⟨_,_,rfl,rfl,rfl,rfl,rfl,rfl⟩,⟨_,rfl,⟨_,rfl,rfl⟩⟩,rfl⟩
 ·cases h;exact⟨⟨_,_,rfl,rfl,rfl,rfl,rfl,rfl⟩,⟨_,rfl,⟨_,rfl,rfl⟩⟩,rfl⟩
 ·cases h;exact⟨⟨_,_,rfl,rfl,rfl,rfl,rfl,rfl⟩,⟨_,rfl,rfl⟩,rfl⟩
 ·cases h;exact⟨⟨_,_,rfl,rfl,rfl,rfl,rfl,rfl⟩,⟨_,rfl,(by unfold TK.fits;exact⟨(by intro fs h;cases h),(by intro n e h;cases h)⟩)⟩,rfl⟩
 ·cases h;exact⟨⟨_,_,rfl,rfl,rfl,rfl,rfl,rfl⟩,⟨_,rfl,rfl⟩,rfl⟩
 ·cases h;exact⟨⟨_,_,rfl,rfl,rfl,rfl,rfl,rfl⟩,⟨_,rfl,⟨_,rfl,rfl⟩⟩,rfl⟩
 ·cases h;exact⟨⟨_,_,rfl,rfl,rfl,rfl,rfl,rfl⟩,⟨_,rfl,rfl⟩,rfl⟩
 ·cases h;exact⟨⟨_,_,rfl,rfl,rfl,rfl,rfl,rfl⟩,⟨_,rfl,rfl⟩,rfl⟩
 ·cases h;exact⟨⟨_,_,rfl,rfl,rfl,rfl,rfl,rfl⟩,⟨_,rfl,rfl⟩,rfl⟩
 ·cases h;exact⟨⟨_,_,rfl,rfl,rfl,rfl,rfl,rfl⟩,⟨_,rfl,rfl⟩,rfl⟩
 ·cases h;exact⟨⟨_,_,rfl,rfl,rfl,rfl,rfl,rfl⟩,⟨_,rfl,rfl⟩,rfl⟩
 ·cases h;exact⟨⟨_,_,rfl,rfl,rfl,rfl,rfl,rfl⟩,⟨_,rfl,⟨_,rfl,rfl⟩⟩,rfl⟩
 ·cases h;exact⟨⟨_,_,rfl,rfl,rfl,rfl,rfl,rfl⟩,⟨_,rfl,⟨_,rfl,rfl⟩⟩,rfl⟩
 ·cases h;exact⟨⟨_,_,rfl,rfl,rfl,rfl,rfl,rfl⟩,⟨_,rfl,⟨_,rfl,rfl⟩⟩,rfl⟩
 ·cases h;exact⟨⟨_,_,rfl,rfl,rfl,rfl,rfl,rfl⟩,⟨_,rfl,rfl⟩,rfl⟩
 ·cases h;exact⟨⟨_,_,rfl,rfl,rfl,rfl,rfl,rfl⟩,⟨_,rfl,⟨_,rfl,rfl⟩⟩,rfl⟩
 ·cases h;exact⟨⟨_,_,rfl,rfl,rfl,rfl,rfl,rfl⟩,⟨_,rfl,⟨_,rfl,rfl⟩⟩,rfl⟩
 ·cases h;exact⟨⟨_,_,rfl,rfl,rfl,rfl,rfl,rfl⟩,⟨_,rfl,rfl⟩,rfl⟩
 ·cases h;exact⟨⟨_,_,rfl,rfl,rfl,rfl,rfl,rfl⟩,⟨_,rfl,rfl⟩,rfl⟩
 ·cases h;exact⟨⟨_,_,rfl,rfl,rfl,rfl,rfl,rfl⟩,⟨_,rfl,(by unfold TK.fits;exact⟨(by intro fs h;cases h),(by intro n e h;cases h)⟩)⟩,rfl⟩
 ·cases h;exact⟨⟨_,_,rfl,rfl,rfl,rfl,rfl,rfl⟩,⟨_,rfl,⟨_,rfl,rfl⟩⟩,rfl⟩
 ·cases h;exact⟨⟨_,_,rfl,rfl,rfl,rfl,rfl,rfl⟩,⟨_,rfl,⟨_,rfl,rfl⟩⟩,rfl⟩
 ·cases h;exact⟨⟨_,_,rfl,rfl,rfl,rfl,rfl,rfl⟩,⟨_,rfl,rfl⟩,rfl⟩
 ·cases h;exact⟨⟨_,_,rfl,rfl,rfl,rfl,rfl,rfl⟩,⟨_,rfl,⟨_,rfl,rfl⟩⟩,rfl⟩
 ·cases h;exact⟨⟨_,_,rfl,rfl,rfl,rfl,rfl,rfl⟩,⟨_,rfl,⟨_,rfl,rfl⟩⟩,rfl⟩
 ·cases h;exact⟨⟨_,_,rfl,rfl,rfl,rfl,rfl,rfl⟩,⟨_,rfl,⟨_,rfl,rfl⟩⟩,rfl⟩
 ·cases h;exact⟨⟨_,_,rfl,rfl,rfl,rfl,rfl,rfl⟩,⟨_,rfl,rfl⟩,rfl⟩
 ·cases h;exact⟨⟨_,_,rfl,rfl,rfl,rfl,rfl,rfl⟩,⟨_,rfl,⟨_,rfl,rfl⟩⟩,rfl⟩
 ·cases h;exact⟨⟨_,_,rfl,rfl,rfl,rfl,rfl,rfl⟩,⟨_,rfl,⟨_,rfl,rfl⟩⟩,rfl⟩
 ·cases h;exact⟨⟨_,_,rfl,rfl,rfl,rfl,rfl,rfl⟩,⟨_,rfl,rfl⟩,rfl⟩
 ·cases h;exact⟨⟨_,_,rfl,rfl,rfl,rfl,rfl,rfl⟩,⟨_,rfl,⟨_,rfl,rfl⟩⟩,rfl⟩
 ·cases h;exact⟨⟨_,_,rfl,rfl,rfl,rfl,rfl,rfl⟩,⟨_,rfl,⟨_,rfl,rfl⟩⟩,rfl⟩
 ·cases h;exact⟨⟨_,_,rfl,rfl,rfl,rfl,rfl,rfl⟩,⟨_,rfl,rfl⟩,rfl⟩
 ·cases h;exact⟨⟨_,_,rfl,rfl,rfl,rfl,rfl,rfl⟩,⟨_,rfl,⟨_,rfl,rfl⟩⟩,rfl⟩
 ·cases h;exact⟨⟨_,_,rfl,rfl,rfl,rfl,rfl,rfl⟩,⟨_,rfl,rfl⟩,rfl⟩
 ·cases h;exact⟨⟨_,_,rfl,rfl,rfl,rfl,rfl,rfl⟩,⟨_,rfl,rfl⟩,rfl⟩
 ·cases h;exact⟨⟨_,_,rfl,rfl,rfl,rfl,rfl,rfl⟩,⟨_,rfl,rfl⟩,rfl⟩
 ·cases h;exact⟨⟨_,_,rfl,rfl,rfl,rfl,rfl,rfl⟩,⟨_,rfl,⟨_,rfl,rfl⟩⟩,rfl⟩
 ·cases h;exact⟨⟨_,_,rfl,rfl,rfl,rfl,rfl,rfl⟩,⟨_,rfl,⟨_,rfl,rfl⟩⟩,rfl⟩
 ·cases h;exact⟨⟨_,_,rfl,rfl,rfl,rfl,rfl,rfl⟩,⟨_,rfl,rfl⟩,rfl⟩
 ·cases h;exact⟨⟨_,_,rfl,rfl,rfl,rfl,rfl,rfl⟩,⟨_,rfl,⟨_,rfl,rfl⟩⟩,rfl⟩
 ·cases h;exact⟨⟨_,_,rfl,rfl,rfl,rfl,rfl,rfl⟩,⟨_,rfl,⟨_,rfl,rfl⟩⟩,rfl⟩
 ·cases h;exact⟨⟨_,_,rfl,rfl,rfl,rfl,rfl,rfl⟩,⟨_,rfl,rfl⟩,rfl⟩
 ·cases h;exact⟨⟨_,_,rfl,rfl,rfl,rfl,rfl,rfl⟩,⟨_,rfl,rfl⟩,rfl⟩
 ·cases h;exact⟨⟨_,_,rfl,rfl,rfl,rfl,rfl,rfl⟩,⟨_,rfl,⟨_,rfl,rfl⟩⟩,rfl⟩
 ·cases h;exact⟨⟨_,_,rfl,rfl,rfl,rfl,rfl,rfl⟩,⟨_,rfl,rfl⟩,rfl⟩
 ·cases h;exact⟨⟨_,_,rfl,rfl,rfl,rfl,rfl,rfl⟩,⟨_,rfl,rfl⟩,rfl⟩
 ·cases h;exact⟨⟨_,_,rfl,rfl,rfl,rfl,rfl,rfl⟩,⟨_,rfl,rfl⟩,rfl⟩
 ·cases h;exact⟨⟨_,_,rfl,rfl,rfl,rfl,rfl,rfl⟩,⟨_,rfl,⟨_,rfl,rfl⟩⟩,rfl⟩
 ·cases h;exact⟨⟨_,_,rfl,rfl,rfl,rfl,rfl,rfl⟩,⟨_,rfl,⟨_,rfl,rfl⟩⟩,rfl⟩
 ·cases h;exact⟨⟨_,_,rfl,rfl,rfl,rfl,rfl,rfl⟩,⟨_,rfl,rfl⟩,rfl⟩
 ·cases h;exact⟨⟨_,_,rfl,rfl,rfl,rfl,rfl,rfl⟩,⟨_,rfl,⟨_,rfl,rfl⟩⟩,rfl⟩
 ·cases h;exact⟨⟨_,_,rfl,rfl,rfl,rfl,rfl,rfl⟩,⟨_,rfl,rfl⟩,rfl⟩
 ·cases h;exact⟨⟨_,_,rfl,rfl,rfl,rfl,rfl,rfl⟩,⟨_,rfl,rfl⟩,rfl⟩
 ·cases h;exact⟨⟨_,_,rfl,rfl,rfl,rfl,rfl,rfl⟩,⟨_,rfl,rfl⟩,rfl⟩
 ·cases h;exact⟨⟨_,_,rfl,rfl,rfl,rfl,rfl,rfl⟩,⟨_,rfl,rfl⟩,rfl⟩
 ·cases h;exact⟨⟨_,_,rfl,rfl,rfl,rfl,rfl,rfl⟩,⟨_,rfl,⟨_,rfl,rfl⟩⟩,rfl⟩
 ·cases h;exact⟨⟨_,_,rfl,rfl,rfl,rfl,rfl,rfl⟩,⟨_,rfl,rfl⟩,rfl⟩
 ·cases h
theorem hmo : Tryz.prog.follows .mixedOrders=true:=by rfl
theorem tt2 : tbl 2=some ⟨1,8,(.v (.int .i64 0)),.int .i64⟩:=rfl
theorem tt3 : tbl 3=some ⟨1,8,(.v (.int .i64 0)),.int .i64⟩:=rfl
theorem tt28 : tbl 28=some ⟨1,4,(.v (.int .u32 0)),.int .u32⟩:=rfl
theorem tt31 : tbl 31=some ⟨1,8,(.v (.int .u64 0)),.int .u64⟩:=rfl
theorem tt85 : tbl 85=some ⟨1,8,(.v (.int .i64 0)),.int .i64⟩:=rfl
theorem aHb : EqT Tryz.prog 3 (α:=Int) j64 (λa b=>a==b) 1:=
 aFu Tryz.underlying3
def aB.eq(a b:aB):Bool:=(λa b=>a==b) a.gX b.gX&&((λa b=>a==b) a.gY b.gY&&((λa b=>a==b) a.gZ b.gZ&&true))
theorem aDB : EqT Tryz.prog 33 (α:=aB) aB.enc aB.eq 2:=
 aBr (N:=3) Tryz.underlying33 (by kernel_rfl) (λ_=>rfl) (λa b=>qS hT a.gX b.gX (by decide) rfl tt3 rfl (λ_=>rfl) (λ_=>rfl) (λ_=>rfl) aHb (by decide) (qS hT a.gY b.gY (by decide) rfl tt3 rfl (λ_=>rfl) (λ_=>rfl) (λ_=>rfl) aHb (by decide) (qS hT a.gZ b.gZ (by decide) rfl tt3 rfl (λ_=>rfl) (λ_=>rfl) (λ_=>rfl) aHb (by decide) (aFk))))
theorem aWl : EqT Tryz.prog 84 (α:=(Vector Int 4)) (eA 4 1 j64) (eqV (λa b=>a==b)) 2:=
 aKc (M:=4) hT tt3 Tryz.underlying84 (by kernel_rfl) (λ_=>rfl) rfl (λ_=>rfl) (λ_=>rfl) aHb
theorem aOF : EqT Tryz.prog 28 (α:=Int) k32 (λa b=>a==b) 1:=
 aFu Tryz.underlying28
def bV.eq(a b:bV):Bool:=(λa b=>a==b) a.gE3 b.gE3&&((λa b=>a==b) a.gE4 b.gE4&&((λa b=>a==b) a.gE5 b.gE5&&true))
theorem aUZ : EqT Tryz.prog 188 (α:=bV) bV.enc bV.eq 2:=
 aBr (N:=3) Tryz.underlying188 (by kernel_rfl) (λ_=>rfl) (λa b=>qS hT a.gE3 b.gE3 (by decide) rfl tt28 rfl (λ_=>rfl) (λ_=>rfl) (λ_=>rfl) aOF (by decide) (qS hT a.gE4 b.gE4 (by decide) rfl tt28 rfl (λ_=>rfl) (λ_=>rfl) (λ_=>rfl) aOF (by decide) (qS hT a.gE5 b.gE5 (by decide) rfl tt28 rfl (λ_=>rfl) (λ_=>rfl) (λ_=>rfl) aOF (by decide) (aFk))))
theorem eqT_2 : EqT Tryz.prog 2 (α:=Int) j64 (λa b=>a==b) 1:=
 aFu Tryz.underlying2
theorem aVt : EqT Tryz.prog 31 (α:=Int) k64 (λa b=>a==b) 1:=
 aFu Tryz.underlying31
def aT.eq(a b:aT):Bool:=(λa b=>a==b) a.gHi b.gHi&&((λa b=>a==b) a.gLo b.gLo&&true)
theorem aUD : EqT Tryz.prog 218 (α:=aT) aT.enc aT.eq 2:=
 aBr (N:=2) Tryz.underlying218 (by kernel_rfl) (λ_=>rfl) (λa b=>qS hT a.gHi b.gHi (by decide) rfl tt2 rfl (λ_=>rfl) (λ_=>rfl) (λ_=>rfl) eqT_2 (by decide) (qS hT a.gLo b.gLo (by decide) rfl tt31 rfl (λ_=>rfl) (λ_=>rfl) (λ_=>rfl) aVt (by decide) (aFk)))
theorem aOq : EqT Tryz.prog 85 (α:=Int) j64 (λa b=>a==b) 1:=
 aFu Tryz.underlying85
def aA.eq(a b:aA):Bool:=(λa b=>a==b) a.gX b.gX&&((λa b=>a==b) a.gY b.gY&&((λa b=>a==b) a.gZ b.gZ&&true))
theorem aWA : EqT Tryz.prog 87 (α:=aA) aA.enc aA.eq 2:=
 aBr (N:=3) Tryz.underlying87 (by kernel_rfl) (λ_=>rfl) (λa b=>qS hT a.gX b.gX (by decide) rfl tt85 rfl (λ_=>rfl) (λ_=>rfl) (λ_=>rfl) aOq (by decide) (qS hT a.gY b.gY (by decide) rfl tt85 rfl (λ_=>rfl) (λ_=>rfl) (λ_=>rfl) aOq (by decide) (qS hT a.gZ b.gZ (by decide) rfl tt85 rfl (λ_=>rfl) (λ_=>rfl) (λ_=>rfl) aOq (by decide) (aFk))))
theorem aVT : EqT Tryz.prog 97 (α:=(Vector Int 3)) (eA 3 1 j64) (eqV (λa b=>a==b)) 2:=
 aKc (M:=3) hT tt3 Tryz.underlying97 (by kernel_rfl) (λ_=>rfl) rfl (λ_=>rfl) (λ_=>rfl) aHb
def aH.eq(a b:aH):Bool:=(λa b=>a==b) a.gL b.gL&&((λa b=>a==b) a.gN b.gN&&((λa b=>a==b) a.gI b.gI&&true))
theorem aMh : EqT Tryz.prog 54 (α:=aH) aH.enc aH.eq 2:=
 aBr (N:=3) Tryz.underlying54 (by kernel_rfl) (λ_=>rfl) (λa b=>qS hT a.gL b.gL (by decide) rfl tt3 rfl (λ_=>rfl) (λ_=>rfl) (λ_=>rfl) aHb (by decide) (qS hT a.gN b.gN (by decide) rfl tt3 rfl (λ_=>rfl) (λ_=>rfl) (λ_=>rfl) aHb (by decide) (qS hT a.gI b.gI (by decide) rfl tt3 rfl (λ_=>rfl) (λ_=>rfl) (λ_=>rfl) aHb (by decide) (aFk))))
def aPM : ByteArray:=(ByteArray.mk (List.toArray (jd (jd [0,1,2,2,3,3,3,3,4,4,4,4,4,4,4,4,5,5,5,5,5,5,5,5,5,5,5,5,5,5,5,5,6,6,6,6,6,6,6,6,6,6,6,6,6,6,6,6,6,6,6,6,6,6,6,6,6,6,6,6,6,6,6,6] [7,7,7,7,7,7,7,7,7,7,7,7,7,7,7,7,7,7,7,7,7,7,7,7,7,7,7,7,7,7,7,7,7,7,7,7,7,7,7,7,7,7,7,7,7,7,7,7,7,7,7,7,7,7,7,7,7,7,7,7,7,7,7,7]) (jd [8,8,8,8,8,8,8,8,8,8,8,8,8,8,8,8,8,8,8,8,8,8,8,8,8,8,8,8,8,8,8,8,8,8,8,8,8,8,8,8,8,8,8,8,8,8,8,8,8,8,8,8,8,8,8,8,8,8,8,8,8,8,8,8] [8,8,8,8,8,8,8,8,8,8,8,8,8,8,8,8,8,8,8,8,8,8,8,8,8,8,8,8,8,8,8,8,8,8,8,8,8,8,8,8,8,8,8,8,8,8,8,8,8,8,8,8,8,8,8,8,8,8,8,8,8,8,8,8]))))
def str_1 : ByteArray:=(ByteArray.mk #[117,109,98,114,97,32,115,97,109,112,108,101,32,115,116,114,101,97,109,32,118,49])
def aMv : ByteArray:=(ByteArray.mk #[66,69,65,85,84,89])
def aNy : ByteArray:=(ByteArray.mk #[78,79,82,77,65,76])
abbrev cv_1 : AV:=(.arr 32 4 [(.arr 4 1 [(j64 0),(j64 4),(j64 8),(j64 12)]),(.arr 4 1 [(j64 1),(j64 5),(j64 9),(j64 13)]),(.arr 4 1 [(j64 2),(j64 6),(j64 10),(j64 14)]),(.arr 4 1 [(j64 3),(j64 7),(j64 11),(j64 15)]),(.arr 4 1 [(j64 0),(j64 5),(j64 10),(j64 15)]),(.arr 4 1 [(j64 1),(j64 6),(j64 11),(j64 12)]),(.arr 4 1 [(j64 2),(j64 7),(j64 8),(j64 13)]),(.arr 4 1 [(j64 3),(j64 4),(j64 9),(j64 14)])])
abbrev cv_2 : AV:=(.st 9 [(.st 3 [(j64 0),(j64 0),(j64 0)]),(j64 0),(j64 0),(.st 3 [(j64 0),(j64 0),(j64 0)]),(j64 0)])
abbrev cv_3 : AV:=(.st 26 [(.st 7 [(.st 3 [(j64 0),(j64 0),(j64 0)]),(.st 3 [(j64 0),(j64 0),(j64 0)]),(j64 0)]),(.ref 0 [] 0),(.ref 4 [] 0),(.st 3 [(j64 4294967296),(j64 4294967296),(j64 4294967296)]),(.st 3 [(j64 0),(j64 0),(j64 0)]),(j64 0),(eB false),(.st 9 [(.st 3 [(j64 0),(j64 0),(j64 0)]),(j64 0),(j64 0),(.st 3 [(j64 0),(j64 0),(j64 0)]),(j64 (-1))])])
end Go.UK
