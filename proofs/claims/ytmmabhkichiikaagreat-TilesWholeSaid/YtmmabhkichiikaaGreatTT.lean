/- A part of the proof: what the functions of the program compute. -/
import Derived.Test.YtmmabhkichiikaaGreatLib15
import Derived.Test.YtmmabhkichiikaaGreatChecked
open List renaming append→jt,replicate→ak
namespace Go.UK
open Go Go.Proofs
set_option maxRecDepth 20000
set_option maxHeartbeats 40000000
set_option linter.all false
instance : bS:=⟨⟨[],[(112, "Any",230),(112, "Nearest",231),(112, "Steps",232),(115, "Any",242),(115, "Nearest",243),(115, "Steps",244),(317, "umbra/lamp.comes",249),(321, "umbra/lamp.comes",250)]⟩⟩
structure aB where
 gX:Int
 gY:Int
 gZ:Int
def aB.enc(s:aB):AV := .st 3 [(j64 s.gX),(j64 s.gY),(j64 s.gZ)]
structure aJ where
 gP:(Vector aB 3)
 gUv:(Vector (Vector Int 2) 3)
 gC5:Int
 gB7:Int
 gA3:Int
 gD4:Int
def aJ.enc(s:aJ):AV := .st 19 [(eA 9 3 aB.enc s.gP),(eA 6 2 (eA 2 1 j64) s.gUv),(j64 s.gC5),(j64 s.gB7),(j64 s.gA3),(k8 s.gD4)]
structure aN where
 gB1:Int
 gA9:(Vector Int 3)
 gD5:Int
def aN.enc(s:aN):AV := .st 5 [(j64 s.gB1),(eA 3 1 j64 s.gA9),(j64 s.gD5)]
structure aC where
 gG:Int
 gA6:(List (Vector Int 3))
def aC.enc(s:aC):AV := .st 2 [(j64 s.gG),(eL 3 (eA 3 1 j64) s.gA6)]
structure aQ where
 gB1:Int
 gA9:(Vector Int 3)
 gAt:aB
 gU:aB
 gV:aB
def aQ.enc(s:aQ):AV := .st 13 [(j64 s.gB1),(eA 3 1 j64 s.gA9),(aB.enc s.gAt),(aB.enc s.gU),(aB.enc s.gV)]
structure aE where
 gL:(List aJ)
 gA4:(List aN)
 gQ:(List aC)
 gI:(List aQ)
 gJ:(List Int)
 gS:(List Int)
 gR:Int
 gB2:Int
 gTo:Int
def aE.enc(s:aE):AV := .st 9 [(eL 19 aJ.enc s.gL),(eL 5 aN.enc s.gA4),(eL 2 aC.enc s.gQ),(eL 13 aQ.enc s.gI),(eL 1 k64 s.gJ),(eL 1 k32 s.gS),(k32 s.gR),(k32 s.gB2),(k32 s.gTo)]
structure bN where
 gA7:aB
 gB6:aB
 gUp:aB
 gE2:aB
 gC6:Int
 gD1:Int
def bN.enc(s:bN):AV := .st 14 [(aB.enc s.gA7),(aB.enc s.gB6),(aB.enc s.gUp),(aB.enc s.gE2),(j64 s.gC6),(j64 s.gD1)]
structure aG where
 gW:Int
 gH:Int
 gA8:Int
 gK:Int
 gM:Int
 gD6:Int
 gD7:bN
 gA5:Bool
def aG.enc(s:aG):AV := .st 21 [(j64 s.gW),(j64 s.gH),(j64 s.gA8),(j64 s.gK),(j64 s.gM),(k64 s.gD6),(bN.enc s.gD7),(eB s.gA5)]
structure aT where
 gHi:Int
 gLo:Int
def aT.enc(s:aT):AV := .st 2 [(j64 s.gHi),(k64 s.gLo)]
structure aA where
 gX:Int
 gY:Int
 gZ:Int
def aA.enc(s:aA):AV := .st 3 [(j64 s.gX),(j64 s.gY),(j64 s.gZ)]
structure aX where
 gLo:aB
 gHi:aB
 gB3:Int
 gB6:Int
 gC7:Int
 gC2:Int
def aX.enc(s:aX):AV := .st 10 [(aB.enc s.gLo),(aB.enc s.gHi),(j64 s.gB3),(j64 s.gB6),(j64 s.gC7),(j64 s.gC2)]
structure aW where
 gA2:Int
 gC:Int
 gA0:Int
 gD9:Int
def aW.enc(s:aW):AV := .st 4 [(j64 s.gA2),(j64 s.gC),(j64 s.gA0),(j64 s.gD9)]
structure bB where
 gn:Int
 glo:aB
 ghi:aB
def bB.enc(s:bB):AV := .st 7 [(j64 s.gn),(aB.enc s.glo),(aB.enc s.ghi)]
structure bC where
 gB0:(List aX)
 gD2:(List Int)
def bC.enc(s:bC):AV := .st 2 [(eL 10 aX.enc s.gB0),(eL 1 j64 s.gD2)]
structure aL where
 gA1:bC
 gA:Bool
 gl:(List aJ)
 gD3:Int
def aL.enc(s:aL):AV := .st 5 [(bC.enc s.gA1),(eB s.gA),(eL 19 aJ.enc s.gl),(j64 s.gD3)]
structure cF where
 gx:Int
 gy:Int
 gw:Int
 gh:Int
def cF.enc(s:cF):AV := .st 4 [(j64 s.gx),(j64 s.gy),(j64 s.gw),(j64 s.gh)]
structure aM where
 gx:Int
 gy:Int
 gin:cF
def aM.enc(s:aM):AV := .st 6 [(j64 s.gx),(j64 s.gy),(cF.enc s.gin)]
structure aH where
 gA9:aA
 gT:Int
 gK:Int
 gB5:aA
 gA3:Int
def aH.enc(s:aH):AV := .st 9 [(aA.enc s.gA9),(j64 s.gT),(j64 s.gK),(aA.enc s.gB5),(j64 s.gA3)]
structure aI where
 gW:Int
 gH:Int
 gB9:(List (Vector Int 3))
 gT:(List Int)
 gK:(List Int)
 gB5:(List (Vector Int 3))
 gB8:(List Int)
 gR:(List Int)
def aI.enc(s:aI):AV := .st 8 [(j64 s.gW),(j64 s.gH),(eL 3 (eA 3 1 j64) s.gB9),(eL 1 j64 s.gT),(eL 1 j64 s.gK),(eL 3 (eA 3 1 j64) s.gB5),(eL 1 j64 s.gB8),(eL 1 j64 s.gR)]
structure aF where
 gN:Int
 gO:Int
 gF:Int
def aF.enc(s:aF):AV := .st 3 [(j64 s.gN),(j64 s.gO),(j64 s.gF)]
structure fD where
 gn:Int
def fD.enc(s:fD):AV := .st 1 [(j64 s.gn)]
structure aK where
 gD8:fD
 gA:Bool
 gl:(List aJ)
def aK.enc(s:aK):AV := .st 3 [(fD.enc s.gD8),(eB s.gA),(eL 19 aJ.enc s.gl)]
structure aP where
 go:aB
 gd:aB
 gE8:Int
def aP.enc(s:aP):AV := .st 7 [(aB.enc s.go),(aB.enc s.gd),(j64 s.gE8)]
structure bV where
 gE3:Int
 gE4:Int
 gE5:Int
def bV.enc(s:bV):AV := .st 3 [(k32 s.gE3),(k32 s.gE4),(k32 s.gE5)]
structure dN where
 gF2:bV
 gis:Bool
 gF3:(Vector Int 64)
def dN.enc(s:dN):AV := .st 68 [(bV.enc s.gF2),(eB s.gis),(eA 64 1 k8 s.gF3)]
structure aD where
 gE6:dN
 gA:Bool
 gD:Int
 gC:Int
 gE:Int
def aD.enc(s:aD):AV := .st 72 [(dN.enc s.gE6),(eB s.gA),(k64 s.gD),(j64 s.gC),(j64 s.gE)]
structure aS where
 gC3:Int
 gC0:Int
 gU:Int
 gV:Int
def aS.enc(s:aS):AV := .st 4 [(j64 s.gC3),(j64 s.gC0),(j64 s.gU),(j64 s.gV)]
structure bE where
 gi:Int
 gat:aB
 gn:aA
 gc:aA
 gB4:aN
 gC1:Bool
def bE.enc(s:bE):AV := .st 16 [(j64 s.gi),(aB.enc s.gat),(aA.enc s.gn),(aA.enc s.gc),(aN.enc s.gB4),(eB s.gC1)]
structure wN where
 gE0:aB
def wN.enc(s:wN):AV := .st 3 [(aB.enc s.gE0)]
structure wU where
 gF4:aB
def wU.enc(s:wU):AV := .st 3 [(aB.enc s.gF4)]
structure lV where
 gE9:aB
 gF0:Bool
 gE7:Bool
 gC4:aA
def lV.enc(s:lV):AV := .st 8 [(aB.enc s.gE9),(eB s.gF0),(eB s.gE7),(aA.enc s.gC4)]
structure iY where
 gF1:aB
 gC4:aA
 gC8:Bool
def iY.enc(s:iY):AV := .st 7 [(aB.enc s.gF1),(aA.enc s.gC4),(eB s.gC8)]
structure aY where
 gn:Int
 gd:Int
def aY.enc(s:aY):AV := .st 2 [(j64 s.gn),(j64 s.gd)]
structure aU where
 gW:Int
 gH:Int
 gC9:Int
 gD0:ByteArray
 gE1:(List Int)
def aU.enc(s:aU):AV := .st 5 [(j64 s.gW),(j64 s.gH),(j64 s.gC9),(eS s.gD0),(eL 1 j64 s.gE1)]
def tbl : TypeId->Option TI
 | 2=>some ⟨1,8,(.v (.int .i64 0)),.int .i64⟩
 | 3=>some ⟨1,8,(.v (.int .i64 0)),.int .i64⟩
 | 4=>some ⟨1,1,(.v (.bool false)),.bool⟩
 | 5=>some ⟨1,1,(.v (.int .u8 0)),.int .u8⟩
 | 9=>some ⟨1,16,(.v (.string (ByteArray.mk #[]))),.str⟩
 | 22=>some ⟨1,24,(.v (.slice none 0 0)),.sl 123⟩
 | 23=>some ⟨1,24,(.v (.slice none 0 0)),.sl 126⟩
 | 24=>some ⟨1,24,(.v (.slice none 0 0)),.sl 63⟩
 | 25=>some ⟨1,24,(.v (.slice none 0 0)),.sl 129⟩
 | 26=>some ⟨1,24,(.v (.slice none 0 0)),.sl 31⟩
 | 27=>some ⟨1,24,(.v (.slice none 0 0)),.sl 28⟩
 | 28=>some ⟨1,4,(.v (.int .u32 0)),.int .u32⟩
 | 30=>some ⟨9,160,(.st 9 [(.v (.slice none 0 0)),(.v (.slice none 0 0)),(.v (.slice none 0 0)),(.v (.slice none 0 0)),(.v (.slice none 0 0)),(.v (.slice none 0 0)),(.v (.int .u32 0)),(.v (.int .u32 0)),(.v (.int .u32 0))]),.st [(0,22),(1,23),(2,24),(3,25),(4,26),(5,27),(6,28),(7,28),(8,28)]⟩
 | 31=>some ⟨1,8,(.v (.int .u64 0)),.int .u64⟩
 | 33=>some ⟨3,24,(.st 3 [(.v (.int .i64 0)),(.v (.int .i64 0)),(.v (.int .i64 0))]),.st [(0,3),(1,3),(2,3)]⟩
 | 35=>some ⟨14,112,(.st 14 [(.st 3 [(.v (.int .i64 0)),(.v (.int .i64 0)),(.v (.int .i64 0))]),(.st 3 [(.v (.int .i64 0)),(.v (.int .i64 0)),(.v (.int .i64 0))]),(.st 3 [(.v (.int .i64 0)),(.v (.int .i64 0)),(.v (.int .i64 0))]),(.st 3 [(.v (.int .i64 0)),(.v (.int .i64 0)),(.v (.int .i64 0))]),(.v (.int .i64 0)),(.v (.int .i64 0))]),.st [(0,33),(3,33),(6,33),(9,33),(12,3),(13,3)]⟩
 | 37=>some ⟨21,168,(.st 21 [(.v (.int .i64 0)),(.v (.int .i64 0)),(.v (.int .i64 0)),(.v (.int .i64 0)),(.v (.int .i64 0)),(.v (.int .u64 0)),(.st 14 [(.st 3 [(.v (.int .i64 0)),(.v (.int .i64 0)),(.v (.int .i64 0))]),(.st 3 [(.v (.int .i64 0)),(.v (.int .i64 0)),(.v (.int .i64 0))]),(.st 3 [(.v (.int .i64 0)),(.v (.int .i64 0)),(.v (.int .i64 0))]),(.st 3 [(.v (.int .i64 0)),(.v (.int .i64 0)),(.v (.int .i64 0))]),(.v (.int .i64 0)),(.v (.int .i64 0))]),(.v (.bool false))]),.st [(0,3),(1,3),(2,3),(3,3),(4,3),(5,31),(6,35),(20,4)]⟩
 | 41=>some ⟨1,8,(.v (.pointer none)),.ptr 71⟩
 | 42=>some ⟨1,8,(.v (.int .i64 0)),.int .i64⟩
 | 49=>some ⟨1,24,(.v (.slice none 0 0)),.sl 97⟩
 | 50=>some ⟨1,24,(.v (.slice none 0 0)),.sl 3⟩
 | 52=>some ⟨8,160,(.st 8 [(.v (.int .i64 0)),(.v (.int .i64 0)),(.v (.slice none 0 0)),(.v (.slice none 0 0)),(.v (.slice none 0 0)),(.v (.slice none 0 0)),(.v (.slice none 0 0)),(.v (.slice none 0 0))]),.st [(0,3),(1,3),(2,49),(3,50),(4,50),(5,49),(6,50),(7,50)]⟩
 | 54=>some ⟨3,24,(.st 3 [(.v (.int .i64 0)),(.v (.int .i64 0)),(.v (.int .i64 0))]),.st [(0,3),(1,3),(2,3)]⟩
 | 59=>some ⟨1,24,(.v (.slice none 0 0)),.sl 5⟩
 | 63=>some ⟨2,32,(.st 2 [(.v (.int .i64 0)),(.v (.slice none 0 0))]),.st [(0,3),(1,49)]⟩
 | 64=>some ⟨1,8,(.v (.pointer none)),.ptr 107⟩
 | 67=>some ⟨1,8,(.v .nilFunc),.other⟩
 | 68=>some ⟨1,24,(.v (.slice none 0 0)),.sl 78⟩
 | 69=>some ⟨1,24,(.v (.slice none 0 0)),.sl 89⟩
 | 71=>some ⟨43,560,(.st 43 [(.v (.pointer none)),(.st 9 [(.v (.slice none 0 0)),(.v (.slice none 0 0)),(.v (.slice none 0 0)),(.v (.slice none 0 0)),(.v (.slice none 0 0)),(.v (.slice none 0 0)),(.v (.int .u32 0)),(.v (.int .u32 0)),(.v (.int .u32 0))]),(.st 21 [(.v (.int .i64 0)),(.v (.int .i64 0)),(.v (.int .i64 0)),(.v (.int .i64 0)),(.v (.int .i64 0)),(.v (.int .u64 0)),(.st 14 [(.st 3 [(.v (.int .i64 0)),(.v (.int .i64 0)),(.v (.int .i64 0))]),(.st 3 [(.v (.int .i64 0)),(.v (.int .i64 0)),(.v (.int .i64 0))]),(.st 3 [(.v (.int .i64 0)),(.v (.int .i64 0)),(.v (.int .i64 0))]),(.st 3 [(.v (.int .i64 0)),(.v (.int .i64 0)),(.v (.int .i64 0))]),(.v (.int .i64 0)),(.v (.int .i64 0))]),(.v (.bool false))]),(.v (.int .i64 0)),(.v (.slice none 0 0)),(.v (.int .i64 0)),(.v (.slice none 0 0)),(.st 8 [(.v (.int .i64 0)),(.v (.int .i64 0)),(.v (.slice none 0 0)),(.v (.slice none 0 0)),(.v (.slice none 0 0)),(.v (.slice none 0 0)),(.v (.slice none 0 0)),(.v (.slice none 0 0))])]),.st [(0,64),(1,30),(10,37),(31,3),(32,68),(33,3),(34,69),(35,52)]⟩
 | 73=>some ⟨1,8,(.v .nilFunc),.other⟩
 | 76=>some ⟨4,32,(.st 4 [(.v (.int .i64 0)),(.v (.int .i64 0)),(.v (.int .i64 0)),(.v (.int .i64 0))]),.st [(0,3),(1,3),(2,3),(3,3)]⟩
 | 78=>some ⟨6,48,(.st 6 [(.v (.int .i64 0)),(.v (.int .i64 0)),(.st 4 [(.v (.int .i64 0)),(.v (.int .i64 0)),(.v (.int .i64 0)),(.v (.int .i64 0))])]),.st [(0,3),(1,3),(2,76)]⟩
 | 81=>some ⟨1,24,(.v (.slice none 0 0)),.sl 84⟩
 | 84=>some ⟨4,32,(.arr 4 1 (ak 4 (.v (.int .i64 0)))),.arr 4 3⟩
 | 85=>some ⟨1,8,(.v (.int .i64 0)),.int .i64⟩
 | 87=>some ⟨3,24,(.st 3 [(.v (.int .i64 0)),(.v (.int .i64 0)),(.v (.int .i64 0))]),.st [(0,85),(1,85),(2,85)]⟩
 | 89=>some ⟨9,72,(.st 9 [(.st 3 [(.v (.int .i64 0)),(.v (.int .i64 0)),(.v (.int .i64 0))]),(.v (.int .i64 0)),(.v (.int .i64 0)),(.st 3 [(.v (.int .i64 0)),(.v (.int .i64 0)),(.v (.int .i64 0))]),(.v (.int .i64 0))]),.st [(0,87),(3,3),(4,85),(5,87),(8,3)]⟩
 | 97=>some ⟨3,24,(.arr 3 1 (ak 3 (.v (.int .i64 0)))),.arr 3 3⟩
 | 104=>some ⟨1,16,(.v .nilIface),.other⟩
 | 105=>some ⟨1,24,(.v (.slice none 0 0)),.sl 24⟩
 | 107=>some ⟨38,416,(.st 38 [(.st 9 [(.v (.slice none 0 0)),(.v (.slice none 0 0)),(.v (.slice none 0 0)),(.v (.slice none 0 0)),(.v (.slice none 0 0)),(.v (.slice none 0 0)),(.v (.int .u32 0)),(.v (.int .u32 0)),(.v (.int .u32 0))]),(.st 21 [(.v (.int .i64 0)),(.v (.int .i64 0)),(.v (.int .i64 0)),(.v (.int .i64 0)),(.v (.int .i64 0)),(.v (.int .u64 0)),(.st 14 [(.st 3 [(.v (.int .i64 0)),(.v (.int .i64 0)),(.v (.int .i64 0))]),(.st 3 [(.v (.int .i64 0)),(.v (.int .i64 0)),(.v (.int .i64 0))]),(.st 3 [(.v (.int .i64 0)),(.v (.int .i64 0)),(.v (.int .i64 0))]),(.st 3 [(.v (.int .i64 0)),(.v (.int .i64 0)),(.v (.int .i64 0))]),(.v (.int .i64 0)),(.v (.int .i64 0))]),(.v (.bool false))]),(.v .nilIface),(.v (.slice none 0 0)),(.st 3 [(.v (.int .i64 0)),(.v (.int .i64 0)),(.v (.int .i64 0))]),(.st 3 [(.v (.int .i64 0)),(.v (.int .i64 0)),(.v (.int .i64 0))])]),.st [(0,30),(9,37),(30,104),(31,105),(32,87),(35,54)]⟩
 | 112=>some ⟨1,8,(.v (.pointer none)),.ptr 178⟩
 | 115=>some ⟨1,8,(.v (.pointer none)),.ptr 185⟩
 | 119=>some ⟨9,72,(.arr 9 3 (ak 3 (.st 3 [(.v (.int .i64 0)),(.v (.int .i64 0)),(.v (.int .i64 0))]))),.arr 3 33⟩
 | 120=>some ⟨2,16,(.arr 2 1 (ak 2 (.v (.int .i64 0)))),.arr 2 3⟩
 | 121=>some ⟨6,48,(.arr 6 2 (ak 3 (.arr 2 1 (ak 2 (.v (.int .i64 0)))))),.arr 3 120⟩
 | 123=>some ⟨19,152,(.st 19 [(.arr 9 3 (ak 3 (.st 3 [(.v (.int .i64 0)),(.v (.int .i64 0)),(.v (.int .i64 0))]))),(.arr 6 2 (ak 3 (.arr 2 1 (ak 2 (.v (.int .i64 0)))))),(.v (.int .i64 0)),(.v (.int .i64 0)),(.v (.int .i64 0)),(.v (.int .u8 0))]),.st [(0,119),(9,121),(15,3),(16,3),(17,3),(18,5)]⟩
 | 126=>some ⟨5,40,(.st 5 [(.v (.int .i64 0)),(.arr 3 1 (ak 3 (.v (.int .i64 0)))),(.v (.int .i64 0))]),.st [(0,3),(1,97),(4,3)]⟩
 | 129=>some ⟨13,104,(.st 13 [(.v (.int .i64 0)),(.arr 3 1 (ak 3 (.v (.int .i64 0)))),(.st 3 [(.v (.int .i64 0)),(.v (.int .i64 0)),(.v (.int .i64 0))]),(.st 3 [(.v (.int .i64 0)),(.v (.int .i64 0)),(.v (.int .i64 0))]),(.st 3 [(.v (.int .i64 0)),(.v (.int .i64 0)),(.v (.int .i64 0))])]),.st [(0,3),(1,97),(4,33),(7,33),(10,33)]⟩
 | 136=>some ⟨1,8,(.v (.pointer none)),.ptr 193⟩
 | 139=>some ⟨7,56,(.st 7 [(.st 3 [(.v (.int .i64 0)),(.v (.int .i64 0)),(.v (.int .i64 0))]),(.st 3 [(.v (.int .i64 0)),(.v (.int .i64 0)),(.v (.int .i64 0))]),(.v (.int .i64 0))]),.st [(0,33),(3,33),(6,3)]⟩
 | 141=>some ⟨26,208,(.st 26 [(.st 7 [(.st 3 [(.v (.int .i64 0)),(.v (.int .i64 0)),(.v (.int .i64 0))]),(.st 3 [(.v (.int .i64 0)),(.v (.int .i64 0)),(.v (.int .i64 0))]),(.v (.int .i64 0))]),(.v (.pointer none)),(.v (.pointer none)),(.st 3 [(.v (.int .i64 0)),(.v (.int .i64 0)),(.v (.int .i64 0))]),(.st 3 [(.v (.int .i64 0)),(.v (.int .i64 0)),(.v (.int .i64 0))]),(.v (.int .i64 0)),(.v (.bool false)),(.st 9 [(.st 3 [(.v (.int .i64 0)),(.v (.int .i64 0)),(.v (.int .i64 0))]),(.v (.int .i64 0)),(.v (.int .i64 0)),(.st 3 [(.v (.int .i64 0)),(.v (.int .i64 0)),(.v (.int .i64 0))]),(.v (.int .i64 0))])]),.st [(0,139),(7,64),(8,136),(9,87),(12,87),(15,3),(16,4),(17,89)]⟩
 | 142=>some ⟨4,16,(.arr 4 1 (ak 4 (.v (.int .u32 0)))),.arr 4 28⟩
 | 171=>some ⟨1,24,(.v (.slice none 0 0)),.sl 87⟩
 | 173=>some ⟨1,8,(.v .nilFunc),.other⟩
 | 176=>some ⟨1,8,(.st 1 [(.v (.int .i64 0))]),.st [(0,3)]⟩
 | 178=>some ⟨3,40,(.st 3 [(.st 1 [(.v (.int .i64 0))]),(.v (.bool false)),(.v (.slice none 0 0))]),.st [(0,176),(1,4),(2,22)]⟩
 | 179=>some ⟨1,24,(.v (.slice none 0 0)),.sl 243⟩
 | 181=>some ⟨2,48,(.st 2 [(.v (.slice none 0 0)),(.v (.slice none 0 0))]),.st [(0,179),(1,50)]⟩
 | 185=>some ⟨5,88,(.st 5 [(.st 2 [(.v (.slice none 0 0)),(.v (.slice none 0 0))]),(.v (.bool false)),(.v (.slice none 0 0)),(.v (.int .i64 0))]),.st [(0,181),(2,4),(3,22),(4,3)]⟩
 | 188=>some ⟨3,12,(.st 3 [(.v (.int .u32 0)),(.v (.int .u32 0)),(.v (.int .u32 0))]),.st [(0,28),(1,28),(2,28)]⟩
 | 189=>some ⟨64,64,(.arr 64 1 (ak 64 (.v (.int .u8 0)))),.arr 64 5⟩
 | 191=>some ⟨68,80,(.st 68 [(.st 3 [(.v (.int .u32 0)),(.v (.int .u32 0)),(.v (.int .u32 0))]),(.v (.bool false)),(.arr 64 1 (ak 64 (.v (.int .u8 0))))]),.st [(0,188),(3,4),(4,189)]⟩
 | 193=>some ⟨72,112,(.st 72 [(.st 68 [(.st 3 [(.v (.int .u32 0)),(.v (.int .u32 0)),(.v (.int .u32 0))]),(.v (.bool false)),(.arr 64 1 (ak 64 (.v (.int .u8 0))))]),(.v (.bool false)),(.v (.int .u64 0)),(.v (.int .i64 0)),(.v (.int .i64 0))]),.st [(0,191),(68,4),(69,31),(70,3),(71,3)]⟩
 | 197=>some ⟨2,8,(.arr 2 1 (ak 2 (.v (.int .u32 0)))),.arr 2 28⟩
 | 204=>some ⟨16,128,(.st 16 [(.v (.int .i64 0)),(.st 3 [(.v (.int .i64 0)),(.v (.int .i64 0)),(.v (.int .i64 0))]),(.st 3 [(.v (.int .i64 0)),(.v (.int .i64 0)),(.v (.int .i64 0))]),(.st 3 [(.v (.int .i64 0)),(.v (.int .i64 0)),(.v (.int .i64 0))]),(.st 5 [(.v (.int .i64 0)),(.arr 3 1 (ak 3 (.v (.int .i64 0)))),(.v (.int .i64 0))]),(.v (.bool false))]),.st [(0,3),(1,33),(4,87),(7,87),(10,126),(15,4)]⟩
 | 211=>some ⟨7,56,(.st 7 [(.st 3 [(.v (.int .i64 0)),(.v (.int .i64 0)),(.v (.int .i64 0))]),(.st 3 [(.v (.int .i64 0)),(.v (.int .i64 0)),(.v (.int .i64 0))]),(.v (.bool false))]),.st [(0,33),(3,87),(6,4)]⟩
 | 216=>some ⟨1,24,(.v (.slice none 0 0)),.sl 85⟩
 | 218=>some ⟨2,16,(.st 2 [(.v (.int .i64 0)),(.v (.int .u64 0))]),.st [(0,2),(1,31)]⟩
 | 225=>some ⟨1,24,(.v (.slice none 0 0)),.sl 52⟩
 | 226=>some ⟨1,24,(.v (.slice none 0 0)),.sl 289⟩
 | 241=>some ⟨1,24,(.v (.slice none 0 0)),.sl 33⟩
 | 243=>some ⟨10,80,(.st 10 [(.st 3 [(.v (.int .i64 0)),(.v (.int .i64 0)),(.v (.int .i64 0))]),(.st 3 [(.v (.int .i64 0)),(.v (.int .i64 0)),(.v (.int .i64 0))]),(.v (.int .i64 0)),(.v (.int .i64 0)),(.v (.int .i64 0)),(.v (.int .i64 0))]),.st [(0,33),(3,33),(6,3),(7,3),(8,3),(9,3)]⟩
 | 245=>some ⟨4,32,(.st 4 [(.v (.int .i64 0)),(.v (.int .i64 0)),(.v (.int .i64 0)),(.v (.int .i64 0))]),.st [(0,3),(1,3),(2,3),(3,3)]⟩
 | 246=>some ⟨1,24,(.v (.slice none 0 0)),.sl 245⟩
 | 256=>some ⟨4,32,(.st 4 [(.v (.int .i64 0)),(.v (.int .i64 0)),(.v (.int .i64 0)),(.v (.int .i64 0))]),.st [(0,3),(1,3),(2,3),(3,3)]⟩
 | 264=>some ⟨8,56,(.st 8 [(.st 3 [(.v (.int .i64 0)),(.v (.int .i64 0)),(.v (.int .i64 0))]),(.v (.bool false)),(.v (.bool false)),(.st 3 [(.v (.int .i64 0)),(.v (.int .i64 0)),(.v (.int .i64 0))])]),.st [(0,33),(3,4),(4,4),(5,87)]⟩
 | 281=>some ⟨1,8,(.v (.int .u64 0)),.int .u64⟩
 | 287=>some ⟨6,144,(.arr 6 1 (ak 6 (.v (.slice none 0 0)))),.arr 6 50⟩
 | 289=>some ⟨5,64,(.st 5 [(.v (.int .i64 0)),(.v (.int .i64 0)),(.v (.int .i64 0)),(.v (.string (ByteArray.mk #[]))),(.v (.slice none 0 0))]),.st [(0,3),(1,3),(2,3),(3,9),(4,50)]⟩
 | 290=>some ⟨30,384,(.arr 30 5 (ak 6 (.st 5 [(.v (.int .i64 0)),(.v (.int .i64 0)),(.v (.int .i64 0)),(.v (.string (ByteArray.mk #[]))),(.v (.slice none 0 0))]))),.arr 6 289⟩
 | 304=>some ⟨12,12,(.arr 12 1 (ak 12 (.v (.int .u8 0)))),.arr 12 5⟩
 | 306=>some ⟨32,32,(.arr 32 1 (ak 32 (.v (.int .u8 0)))),.arr 32 5⟩
 | 317=>some ⟨3,24,(.st 3 [(.st 3 [(.v (.int .i64 0)),(.v (.int .i64 0)),(.v (.int .i64 0))])]),.st [(0,33)]⟩
 | 321=>some ⟨3,24,(.st 3 [(.st 3 [(.v (.int .i64 0)),(.v (.int .i64 0)),(.v (.int .i64 0))])]),.st [(0,33)]⟩
 | 330=>some ⟨1,24,(.v (.slice none 0 0)),.sl 218⟩
 | 334=>some ⟨7,56,(.st 7 [(.v (.int .i64 0)),(.st 3 [(.v (.int .i64 0)),(.v (.int .i64 0)),(.v (.int .i64 0))]),(.st 3 [(.v (.int .i64 0)),(.v (.int .i64 0)),(.v (.int .i64 0))])]),.st [(0,3),(1,33),(4,33)]⟩
 | 335=>some ⟨56,448,(.arr 56 7 (ak 8 (.st 7 [(.v (.int .i64 0)),(.st 3 [(.v (.int .i64 0)),(.v (.int .i64 0)),(.v (.int .i64 0))]),(.st 3 [(.v (.int .i64 0)),(.v (.int .i64 0)),(.v (.int .i64 0))])]))),.arr 8 334⟩
 | 337=>some ⟨16,64,(.arr 16 1 (ak 16 (.v (.int .u32 0)))),.arr 16 28⟩
 | 339=>some ⟨32,256,(.arr 32 4 (ak 8 (.arr 4 1 (ak 4 (.v (.int .i64 0)))))),.arr 8 84⟩
 | 345=>some ⟨12,96,(.arr 12 3 (ak 4 (.arr 3 1 (ak 3 (.v (.int .i64 0)))))),.arr 4 97⟩
 | 376=>some ⟨2,16,(.st 2 [(.v (.int .i64 0)),(.v (.int .i64 0))]),.st [(0,3),(1,3)]⟩
 | 380=>some ⟨12,96,(.arr 12 4 (ak 3 (.arr 4 1 (ak 4 (.v (.int .i64 0)))))),.arr 3 84⟩
 | _=>none
theorem hT : TOK Tryz.prog tbl:=by
 intro t i h;unfold tbl at h;split at h
 ·cases h;exact⟨⟨_,_,rfl,rfl,rfl,rfl,rfl,rfl⟩,⟨_,rfl,rfl⟩,rfl⟩
 ·cases h;exact⟨⟨_,_,rfl,rfl,rfl,rfl,rfl,rfl⟩,⟨_,rfl,rfl⟩,rfl⟩
 ·cases h;exact⟨⟨_,_,rfl,rfl,rfl,rfl,rfl,rfl⟩,⟨_,rfl,rfl⟩,rfl⟩
 ·cases h;exact⟨⟨_,_,rfl,rfl,rfl,rfl,rfl,rfl⟩,⟨_,rfl,rfl⟩,rfl⟩
 ·cases h;exact⟨⟨_,_,rfl,rfl,rfl,rfl,rfl,rfl⟩,⟨_,rfl,rfl⟩,rfl⟩
 ·cases h;exact⟨⟨_,_,rfl,rfl,rfl,rfl,rfl,rfl⟩,⟨_,rfl,rfl⟩,rfl⟩
 ·cases h;exact⟨⟨_,_,rfl,rfl,rfl,rfl,rfl,rfl⟩,⟨_,rfl,rfl⟩,rfl⟩
 ·cases h;exact⟨⟨_,_,rfl,rfl,rfl,rfl,rfl,rfl⟩,⟨_,rfl,rfl⟩,rfl⟩
 ·cases h;exact⟨⟨_,_,rfl,rfl,rfl,rfl,rfl,rfl⟩,⟨_,rfl,rfl⟩,rfl⟩
 ·cases h;exact⟨⟨_,_,rfl,rfl,rfl,rfl,rfl,rfl⟩,⟨_,rfl,rfl⟩,rfl⟩
 ·cases h;exact⟨⟨_,_,rfl,rfl,rfl,rfl,rfl,rfl⟩,⟨_,rfl,rfl⟩,rfl⟩
 ·cases h;exact⟨⟨_,_,rfl,rfl,rfl,rfl,rfl,rfl⟩,⟨_,rfl,rfl⟩,rfl⟩
 ·cases h;exact⟨⟨_,_,rfl,rfl,rfl,rfl,rfl,rfl⟩,⟨_,rfl,⟨_,rfl,rfl⟩⟩,rfl⟩
 ·cases h;exact⟨⟨_,_,rfl,rfl,rfl,rfl,rfl,rfl⟩,⟨_,rfl,rfl⟩,rfl⟩
 ·cases h;exact⟨⟨_,_,rfl,rfl,rfl,rfl,rfl,rfl⟩,⟨_,rfl,⟨_,rfl,rfl⟩⟩,rfl⟩
 ·cases h;exact⟨⟨_,_,rfl,rfl,rfl,rfl,rfl,rfl⟩,⟨_,rfl,⟨_,rfl,rfl⟩⟩,rfl⟩
 ·cases h;exact⟨⟨_,_,rfl,rfl,rfl,rfl,rfl,rfl⟩,⟨_,rfl,⟨_,rfl,rfl⟩⟩,rfl⟩
 ·cases h;exact⟨⟨_,_,rfl,rfl,rfl,rfl,rfl,rfl⟩,⟨_,rfl,rfl⟩,rfl⟩
 ·cases h;exact⟨⟨_,_,rfl,rfl,rfl,rfl,rfl,rfl⟩,⟨_,rfl,rfl⟩,rfl⟩
 ·cases h;exact⟨⟨_,_,rfl,rfl,rfl,rfl,rfl,rfl⟩,⟨_,rfl,rfl⟩,rfl⟩
 ·cases h;exact⟨⟨_,_,rfl,rfl,rfl,rfl,rfl,rfl⟩,⟨_,rfl,rfl⟩,rfl⟩
 ·cases h;exact⟨⟨_,_,rfl,rfl,rfl,rfl,rfl,rfl⟩,⟨_,rfl,⟨_,rfl,rfl⟩⟩,rfl⟩
 ·cases h;exact⟨⟨_,_,rfl,rfl,rfl,rfl,rfl,rfl⟩,⟨_,rfl,⟨_,rfl,rfl⟩⟩,rfl⟩
 ·cases h;exact⟨⟨_,_,rfl,rfl,rfl,rfl,rfl,rfl⟩,⟨_,rfl,rfl⟩,rfl⟩
 ·cases h;exact⟨⟨_,_,rfl,rfl,rfl,rfl,rfl,rfl⟩,⟨_,rfl,⟨_,rfl,rfl⟩⟩,rfl⟩
 ·cases h;exact⟨⟨_,_,rfl,rfl,rfl,rfl,rfl,rfl⟩,⟨_,rfl,rfl⟩,rfl⟩
 ·cases h;exact⟨⟨_,_,rfl,rfl,rfl,rfl,rfl,rfl⟩,⟨_,rfl,(by unfold TK.fits;exact⟨(by intro fs h;cases h),(by intro n e h;cases h)⟩)⟩,rfl⟩
 ·cases h;exact⟨⟨_,_,rfl,rfl,rfl,rfl,rfl,rfl⟩,⟨_,rfl,rfl⟩,rfl⟩
 ·cases h;exact⟨⟨_,_,rfl,rfl,rfl,rfl,rfl,rfl⟩,⟨_,rfl,rfl⟩,rfl⟩
 ·cases h;exact⟨⟨_,_,rfl,rfl,rfl,rfl,rfl,rfl⟩,⟨_,rfl,⟨_,rfl,rfl⟩⟩,rfl⟩
 ·cases h;exact⟨⟨_,_,rfl,rfl,rfl,rfl,rfl,rfl⟩,⟨_,rfl,(by unfold TK.fits;exact⟨(by intro fs h;cases h),(by intro n e h;cases h)⟩)⟩,rfl⟩
 ·cases h;exact⟨⟨_,_,rfl,rfl,rfl,rfl,rfl,rfl⟩,⟨_,rfl,⟨_,rfl,rfl⟩⟩,rfl⟩
 ·cases h;exact⟨⟨_,_,rfl,rfl,rfl,rfl,rfl,rfl⟩,⟨_,rfl,⟨_,rfl,rfl⟩⟩,rfl⟩
 ·cases h;exact⟨⟨_,_,rfl,rfl,rfl,rfl,rfl,rfl⟩,⟨_,rfl,rfl⟩,rfl⟩
 ·cases h;exact⟨⟨_,_,rfl,rfl,rfl,rfl,rfl,rfl⟩,⟨_,rfl,rfl⟩,rfl⟩
 ·cases h;exact⟨⟨_,_,rfl,rfl,rfl,rfl,rfl,rfl⟩,⟨_,rfl,rfl⟩,rfl⟩
 ·cases h;exact⟨⟨_,_,rfl,rfl,rfl,rfl,rfl,rfl⟩,⟨_,rfl,⟨_,rfl,rfl⟩⟩,rfl⟩
 ·cases h;exact⟨⟨_,_,rfl,rfl,rfl,rfl,rfl,rfl⟩,⟨_,rfl,⟨_,rfl,rfl⟩⟩,rfl⟩
 ·cases h;exact⟨⟨_,_,rfl,rfl,rfl,rfl,rfl,rfl⟩,⟨_,rfl,rfl⟩,rfl⟩
 ·cases h;exact⟨⟨_,_,rfl,rfl,rfl,rfl,rfl,rfl⟩,⟨_,rfl,(by unfold TK.fits;exact⟨(by intro fs h;cases h),(by intro n e h;cases h)⟩)⟩,rfl⟩
 ·cases h;exact⟨⟨_,_,rfl,rfl,rfl,rfl,rfl,rfl⟩,⟨_,rfl,rfl⟩,rfl⟩
 ·cases h;exact⟨⟨_,_,rfl,rfl,rfl,rfl,rfl,rfl⟩,⟨_,rfl,⟨_,rfl,rfl⟩⟩,rfl⟩
 ·cases h;exact⟨⟨_,_,rfl,rfl,rfl,rfl,rfl,rfl⟩,⟨_,rfl,rfl⟩,rfl⟩
 ·cases h;exact⟨⟨_,_,rfl,rfl,rfl,rfl,rfl,rfl⟩,⟨_,rfl,rfl⟩,rfl⟩
 ·cases h;exact⟨⟨_,_,rfl,rfl,rfl,rfl,rfl,rfl⟩,⟨_,rfl,rfl⟩,rfl⟩
 ·cases h;exact⟨⟨_,_,rfl,rfl,rfl,rfl,rfl,rfl⟩,⟨_,rfl,rfl⟩,rfl⟩
 ·cases h;exact⟨⟨_,_,rfl,rfl,rfl,rfl,rfl,rfl⟩,⟨_,rfl,rfl⟩,rfl⟩
 ·cases h;exact⟨⟨_,_,rfl,rfl,rfl,rfl,rfl,rfl⟩,⟨_,rfl,⟨_,rfl,rfl⟩⟩,rfl⟩
 ·cases h;exact⟨⟨_,_,rfl,rfl,rfl,rfl,rfl,rfl⟩,⟨_,rfl,⟨_,rfl,rfl⟩⟩,rfl⟩
 ·cases h;exact⟨⟨_,_,rfl,rfl,rfl,rfl,rfl,rfl⟩,⟨_,rfl,⟨_,rfl,rfl⟩⟩,rfl⟩
 ·cases h;exact⟨⟨_,_,rfl,rfl,rfl,rfl,rfl,rfl⟩,⟨_,rfl,rfl⟩,rfl⟩
 ·cases h;exact⟨⟨_,_,rfl,rfl,rfl,rfl,rfl,rfl⟩,⟨_,rfl,⟨_,rfl,rfl⟩⟩,rfl⟩
 ·cases h;exact⟨⟨_,_,rfl,rfl,rfl,rfl,rfl,rfl⟩,⟨_,rfl,⟨_,rfl,rfl⟩⟩,rfl⟩
 ·cases h;exact⟨⟨_,_,rfl,rfl,rfl,rfl,rfl,rfl⟩,⟨_,rfl,rfl⟩,rfl⟩
 ·cases h;exact⟨⟨_,_,rfl,rfl,rfl,rfl,rfl,rfl⟩,⟨_,rfl,rfl⟩,rfl⟩
 ·cases h;exact⟨⟨_,_,rfl,rfl,rfl,rfl,rfl,rfl⟩,⟨_,rfl,(by unfold TK.fits;exact⟨(by intro fs h;cases h),(by intro n e h;cases h)⟩)⟩,rfl⟩
 ·cases h;exact⟨⟨_,_,rfl,rfl,rfl,rfl,rfl,rfl⟩,⟨_,rfl,⟨_,rfl,rfl⟩⟩,rfl⟩
 ·cases h;exact⟨⟨_,_,rfl,rfl,rfl,rfl,rfl,rfl⟩,⟨_,rfl,⟨_,rfl,rfl⟩⟩,rfl⟩
 ·cases h;exact⟨⟨_,_,rfl,rfl,rfl,rfl,rfl,rfl⟩,⟨_,rfl,rfl⟩,rfl⟩
 ·cases h;exact⟨⟨_,_,rfl,rfl,rfl,rfl,rfl,rfl⟩,⟨_,rfl,⟨_,rfl,rfl⟩⟩,rfl⟩
 ·cases h;exact⟨⟨_,_,rfl,rfl,rfl,rfl,rfl,rfl⟩,⟨_,rfl,⟨_,rfl,rfl⟩⟩,rfl⟩
 ·cases h;exact⟨⟨_,_,rfl,rfl,rfl,rfl,rfl,rfl⟩,⟨_,rfl,⟨_,rfl,rfl⟩⟩,rfl⟩
 ·cases h;exact⟨⟨_,_,rfl,rfl,rfl,rfl,rfl,rfl⟩,⟨_,rfl,rfl⟩,rfl⟩
 ·cases h;exact⟨⟨_,_,rfl,rfl,rfl,rfl,rfl,rfl⟩,⟨_,rfl,⟨_,rfl,rfl⟩⟩,rfl⟩
 ·cases h;exact⟨⟨_,_,rfl,rfl,rfl,rfl,rfl,rfl⟩,⟨_,rfl,⟨_,rfl,rfl⟩⟩,rfl⟩
 ·cases h;exact⟨⟨_,_,rfl,rfl,rfl,rfl,rfl,rfl⟩,⟨_,rfl,rfl⟩,rfl⟩
 ·cases h;exact⟨⟨_,_,rfl,rfl,rfl,rfl,rfl,rfl⟩,⟨_,rfl,⟨_,rfl,rfl⟩⟩,rfl⟩
 ·cases h;exact⟨⟨_,_,rfl,rfl,rfl,rfl,rfl,rfl⟩,⟨_,rfl,⟨_,rfl,rfl⟩⟩,rfl⟩
 ·cases h;exact⟨⟨_,_,rfl,rfl,rfl,rfl,rfl,rfl⟩,⟨_,rfl,rfl⟩,rfl⟩
 ·cases h;exact⟨⟨_,_,rfl,rfl,rfl,rfl,rfl,rfl⟩,⟨_,rfl,⟨_,rfl,rfl⟩⟩,rfl⟩
 ·cases h;exact⟨⟨_,_,rfl,rfl,rfl,rfl,rfl,rfl⟩,⟨_,rfl,rfl⟩,rfl⟩
 ·cases h;exact⟨⟨_,_,rfl,rfl,rfl,rfl,rfl,rfl⟩,⟨_,rfl,rfl⟩,rfl⟩
 ·cases h;exact⟨⟨_,_,rfl,rfl,rfl,rfl,rfl,rfl⟩,⟨_,rfl,rfl⟩,rfl⟩
 ·cases h;exact⟨⟨_,_,rfl,rfl,rfl,rfl,rfl,rfl⟩,⟨_,rfl,⟨_,rfl,rfl⟩⟩,rfl⟩
 ·cases h;exact⟨⟨_,_,rfl,rfl,rfl,rfl,rfl,rfl⟩,⟨_,rfl,⟨_,rfl,rfl⟩⟩,rfl⟩
 ·cases h;exact⟨⟨_,_,rfl,rfl,rfl,rfl,rfl,rfl⟩,⟨_,rfl,rfl⟩,rfl⟩
 ·cases h;exact⟨⟨_,_,rfl,rfl,rfl,rfl,rfl,rfl⟩,⟨_,rfl,⟨_,rfl,rfl⟩⟩,rfl⟩
 ·cases h;exact⟨⟨_,_,rfl,rfl,rfl,rfl,rfl,rfl⟩,⟨_,rfl,⟨_,rfl,rfl⟩⟩,rfl⟩
 ·cases h;exact⟨⟨_,_,rfl,rfl,rfl,rfl,rfl,rfl⟩,⟨_,rfl,rfl⟩,rfl⟩
 ·cases h;exact⟨⟨_,_,rfl,rfl,rfl,rfl,rfl,rfl⟩,⟨_,rfl,rfl⟩,rfl⟩
 ·cases h;exact⟨⟨_,_,rfl,rfl,rfl,rfl,rfl,rfl⟩,⟨_,rfl,⟨_,rfl,rfl⟩⟩,rfl⟩
 ·cases h;exact⟨⟨_,_,rfl,rfl,rfl,rfl,rfl,rfl⟩,⟨_,rfl,rfl⟩,rfl⟩
 ·cases h;exact⟨⟨_,_,rfl,rfl,rfl,rfl,rfl,rfl⟩,⟨_,rfl,rfl⟩,rfl⟩
 ·cases h;exact⟨⟨_,_,rfl,rfl,rfl,rfl,rfl,rfl⟩,⟨_,rfl,rfl⟩,rfl⟩
 ·cases h;exact⟨⟨_,_,rfl,rfl,rfl,rfl,rfl,rfl⟩,⟨_,rfl,⟨_,rfl,rfl⟩⟩,rfl⟩
 ·cases h;exact⟨⟨_,_,rfl,rfl,rfl,rfl,rfl,rfl⟩,⟨_,rfl,⟨_,rfl,rfl⟩⟩,rfl⟩
 ·cases h;exact⟨⟨_,_,rfl,rfl,rfl,rfl,rfl,rfl⟩,⟨_,rfl,rfl⟩,rfl⟩
 ·cases h;exact⟨⟨_,_,rfl,rfl,rfl,rfl,rfl,rfl⟩,⟨_,rfl,⟨_,rfl,rfl⟩⟩,rfl⟩
 ·cases h;exact⟨⟨_,_,rfl,rfl,rfl,rfl,rfl,rfl⟩,⟨_,rfl,rfl⟩,rfl⟩
 ·cases h;exact⟨⟨_,_,rfl,rfl,rfl,rfl,rfl,rfl⟩,⟨_,rfl,rfl⟩,rfl⟩
 ·cases h;exact⟨⟨_,_,rfl,rfl,rfl,rfl,rfl,rfl⟩,⟨_,rfl,rfl⟩,rfl⟩
 ·cases h;exact⟨⟨_,_,rfl,rfl,rfl,rfl,rfl,rfl⟩,⟨_,rfl,rfl⟩,rfl⟩
 ·cases h;exact⟨⟨_,_,rfl,rfl,rfl,rfl,rfl,rfl⟩,⟨_,rfl,⟨_,rfl,rfl⟩⟩,rfl⟩
 ·cases h;exact⟨⟨_,_,rfl,rfl,rfl,rfl,rfl,rfl⟩,⟨_,rfl,rfl⟩,rfl⟩
 ·cases h
theorem hmo : Tryz.prog.follows .mixedOrders=true:=by rfl
theorem Af(im:Nat->Bool){f:FuncId}{fn:Func}{c:Code}{args:List AV}{ret:AV}{H H':List Box}(hf:Tryz.prog.funcs[f]? = some fn){π:Prop}(e:π)(h:π->At Tryz.prog tbl im (Fr.f fn.ntmps H.length) (aFK tbl H.length fn.results.toList ret H') (.code c [] ⟨aCJ 0 args,H⟩))(hb:fn.body=some c:=by exact rfl)(hk:Nat.ble args.length fn.ntmps=true:=by kernel_rfl):FnM Tryz.prog f H args ret H':=At.f im hT hmo hf hb e h hk
def De{im:Nat->Bool}{n:Fr}{Q:Exit->ASt->Prop}{p:Pt}{m:List Bool}{q:DQ}{τ:Type}{L R:EF->τ} := @DD.e _ Tryz.prog tbl im n Q p m q τ L R hT hmo
theorem tt2 : tbl 2=some ⟨1,8,(.v (.int .i64 0)),.int .i64⟩:=rfl
theorem tt3 : tbl 3=some ⟨1,8,(.v (.int .i64 0)),.int .i64⟩:=rfl
theorem tt28 : tbl 28=some ⟨1,4,(.v (.int .u32 0)),.int .u32⟩:=rfl
theorem tt31 : tbl 31=some ⟨1,8,(.v (.int .u64 0)),.int .u64⟩:=rfl
theorem tt85 : tbl 85=some ⟨1,8,(.v (.int .i64 0)),.int .i64⟩:=rfl
theorem aHi : EqT Tryz.prog 3 (α:=Int) j64 (λa b=>a==b) 1:=
 aGJ Tryz.underlying3
def aB.eq(a b:aB):Bool:=(λa b=>a==b) a.gX b.gX&&((λa b=>a==b) a.gY b.gY&&((λa b=>a==b) a.gZ b.gZ&&true))
theorem aC8 : EqT Tryz.prog 33 (α:=aB) aB.enc aB.eq 2:=
 aBU (N:=3) Tryz.underlying33 (by kernel_rfl) (λ_=>rfl) (λa b=>pP hT a.gX b.gX (by decide) rfl tt3 rfl (λ_=>rfl) (λ_=>rfl) (λ_=>rfl) aHi (by decide) (pP hT a.gY b.gY (by decide) rfl tt3 rfl (λ_=>rfl) (λ_=>rfl) (λ_=>rfl) aHi (by decide) (pP hT a.gZ b.gZ (by decide) rfl tt3 rfl (λ_=>rfl) (λ_=>rfl) (λ_=>rfl) aHi (by decide) (aGh))))
theorem aO1 : EqT Tryz.prog 28 (α:=Int) k32 (λa b=>a==b) 1:=
 aGJ Tryz.underlying28
def bV.eq(a b:bV):Bool:=(λa b=>a==b) a.gE3 b.gE3&&((λa b=>a==b) a.gE4 b.gE4&&((λa b=>a==b) a.gE5 b.gE5&&true))
theorem aUB : EqT Tryz.prog 188 (α:=bV) bV.enc bV.eq 2:=
 aBU (N:=3) Tryz.underlying188 (by kernel_rfl) (λ_=>rfl) (λa b=>pP hT a.gE3 b.gE3 (by decide) rfl tt28 rfl (λ_=>rfl) (λ_=>rfl) (λ_=>rfl) aO1 (by decide) (pP hT a.gE4 b.gE4 (by decide) rfl tt28 rfl (λ_=>rfl) (λ_=>rfl) (λ_=>rfl) aO1 (by decide) (pP hT a.gE5 b.gE5 (by decide) rfl tt28 rfl (λ_=>rfl) (λ_=>rfl) (λ_=>rfl) aO1 (by decide) (aGh))))
theorem eqT_2 : EqT Tryz.prog 2 (α:=Int) j64 (λa b=>a==b) 1:=
 aGJ Tryz.underlying2
theorem aVl : EqT Tryz.prog 31 (α:=Int) k64 (λa b=>a==b) 1:=
 aGJ Tryz.underlying31
def aT.eq(a b:aT):Bool:=(λa b=>a==b) a.gHi b.gHi&&((λa b=>a==b) a.gLo b.gLo&&true)
theorem aUQ : EqT Tryz.prog 218 (α:=aT) aT.enc aT.eq 2:=
 aBU (N:=2) Tryz.underlying218 (by kernel_rfl) (λ_=>rfl) (λa b=>pP hT a.gHi b.gHi (by decide) rfl tt2 rfl (λ_=>rfl) (λ_=>rfl) (λ_=>rfl) eqT_2 (by decide) (pP hT a.gLo b.gLo (by decide) rfl tt31 rfl (λ_=>rfl) (λ_=>rfl) (λ_=>rfl) aVl (by decide) (aGh)))
theorem aOq : EqT Tryz.prog 85 (α:=Int) j64 (λa b=>a==b) 1:=
 aGJ Tryz.underlying85
def aA.eq(a b:aA):Bool:=(λa b=>a==b) a.gX b.gX&&((λa b=>a==b) a.gY b.gY&&((λa b=>a==b) a.gZ b.gZ&&true))
theorem aXA : EqT Tryz.prog 87 (α:=aA) aA.enc aA.eq 2:=
 aBU (N:=3) Tryz.underlying87 (by kernel_rfl) (λ_=>rfl) (λa b=>pP hT a.gX b.gX (by decide) rfl tt85 rfl (λ_=>rfl) (λ_=>rfl) (λ_=>rfl) aOq (by decide) (pP hT a.gY b.gY (by decide) rfl tt85 rfl (λ_=>rfl) (λ_=>rfl) (λ_=>rfl) aOq (by decide) (pP hT a.gZ b.gZ (by decide) rfl tt85 rfl (λ_=>rfl) (λ_=>rfl) (λ_=>rfl) aOq (by decide) (aGh))))
theorem aW8 : EqT Tryz.prog 84 (α:=(Vector Int 4)) (eA 4 1 j64) (eqV (λa b=>a==b)) 2:=
 aKy (M:=4) hT tt3 Tryz.underlying84 (by kernel_rfl) (λ_=>rfl) rfl (λ_=>rfl) (λ_=>rfl) aHi
theorem aV7 : EqT Tryz.prog 97 (α:=(Vector Int 3)) (eA 3 1 j64) (eqV (λa b=>a==b)) 2:=
 aKy (M:=3) hT tt3 Tryz.underlying97 (by kernel_rfl) (λ_=>rfl) rfl (λ_=>rfl) (λ_=>rfl) aHi
def aF.eq(a b:aF):Bool:=(λa b=>a==b) a.gN b.gN&&((λa b=>a==b) a.gO b.gO&&((λa b=>a==b) a.gF b.gF&&true))
theorem aSB : EqT Tryz.prog 54 (α:=aF) aF.enc aF.eq 2:=
 aBU (N:=3) Tryz.underlying54 (by kernel_rfl) (λ_=>rfl) (λa b=>pP hT a.gN b.gN (by decide) rfl tt3 rfl (λ_=>rfl) (λ_=>rfl) (λ_=>rfl) aHi (by decide) (pP hT a.gO b.gO (by decide) rfl tt3 rfl (λ_=>rfl) (λ_=>rfl) (λ_=>rfl) aHi (by decide) (pP hT a.gF b.gF (by decide) rfl tt3 rfl (λ_=>rfl) (λ_=>rfl) (λ_=>rfl) aHi (by decide) (aGh))))
def aQM : ByteArray:=(ByteArray.mk (List.toArray (jt (jt [0,1,2,2,3,3,3,3,4,4,4,4,4,4,4,4,5,5,5,5,5,5,5,5,5,5,5,5,5,5,5,5,6,6,6,6,6,6,6,6,6,6,6,6,6,6,6,6,6,6,6,6,6,6,6,6,6,6,6,6,6,6,6,6] [7,7,7,7,7,7,7,7,7,7,7,7,7,7,7,7,7,7,7,7,7,7,7,7,7,7,7,7,7,7,7,7,7,7,7,7,7,7,7,7,7,7,7,7,7,7,7,7,7,7,7,7,7,7,7,7,7,7,7,7,7,7,7,7]) (jt [8,8,8,8,8,8,8,8,8,8,8,8,8,8,8,8,8,8,8,8,8,8,8,8,8,8,8,8,8,8,8,8,8,8,8,8,8,8,8,8,8,8,8,8,8,8,8,8,8,8,8,8,8,8,8,8,8,8,8,8,8,8,8,8] [8,8,8,8,8,8,8,8,8,8,8,8,8,8,8,8,8,8,8,8,8,8,8,8,8,8,8,8,8,8,8,8,8,8,8,8,8,8,8,8,8,8,8,8,8,8,8,8,8,8,8,8,8,8,8,8,8,8,8,8,8,8,8,8]))))
def str_1 : ByteArray:=(ByteArray.mk #[117,109,98,114,97,32,115,97,109,112,108,101,32,115,116,114,101,97,109,32,118,49])
def aNp : ByteArray:=(ByteArray.mk #[66,69,65,85,84,89])
def aNz : ByteArray:=(ByteArray.mk #[78,79,82,77,65,76])
abbrev cv_1 : AV:=(.arr 32 4 [(.arr 4 1 [(j64 0),(j64 4),(j64 8),(j64 12)]),(.arr 4 1 [(j64 1),(j64 5),(j64 9),(j64 13)]),(.arr 4 1 [(j64 2),(j64 6),(j64 10),(j64 14)]),(.arr 4 1 [(j64 3),(j64 7),(j64 11),(j64 15)]),(.arr 4 1 [(j64 0),(j64 5),(j64 10),(j64 15)]),(.arr 4 1 [(j64 1),(j64 6),(j64 11),(j64 12)]),(.arr 4 1 [(j64 2),(j64 7),(j64 8),(j64 13)]),(.arr 4 1 [(j64 3),(j64 4),(j64 9),(j64 14)])])
abbrev cv_2 : AV:=(.st 9 [(.st 3 [(j64 0),(j64 0),(j64 0)]),(j64 0),(j64 0),(.st 3 [(j64 0),(j64 0),(j64 0)]),(j64 0)])
abbrev cv_3 : AV:=(.st 26 [(.st 7 [(.st 3 [(j64 0),(j64 0),(j64 0)]),(.st 3 [(j64 0),(j64 0),(j64 0)]),(j64 0)]),(.ref 0 [] 0),(.ref 4 [] 0),(.st 3 [(j64 4294967296),(j64 4294967296),(j64 4294967296)]),(.st 3 [(j64 0),(j64 0),(j64 0)]),(j64 0),(eB false),(.st 9 [(.st 3 [(j64 0),(j64 0),(j64 0)]),(j64 0),(j64 0),(.st 3 [(j64 0),(j64 0),(j64 0)]),(j64 (-1))])])
end Go.UK
