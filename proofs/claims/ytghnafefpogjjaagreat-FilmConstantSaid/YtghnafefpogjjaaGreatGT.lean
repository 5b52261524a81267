/- A part of the proof: what the functions of the program compute. -/
import Derived.Test.YtghnafefpogjjaaGreatLib13
import Derived.Test.YtghnafefpogjjaaGreatChecked
open List renaming append→jx,replicate→ap
namespace Go.UK
open Go Go.Proofs
set_option maxRecDepth 20000
set_option maxHeartbeats 40000000
set_option linter.all false
instance : cT:=⟨⟨[],[(178, "Any",364),(178, "Nearest",365),(178, "Steps",366),(181, "Any",376),(181, "Nearest",377),(181, "Steps",378),(406, "umbra/lamp.comes",383),(410, "umbra/lamp.comes",384)]⟩⟩
structure aC where
 gX:Int
 gY:Int
 gZ:Int
def aC.enc(s:aC):AV := .st 3 [(j64 s.gX),(j64 s.gY),(j64 s.gZ)]
structure aH where
 gP:(Vector aC 3)
 gUv:(Vector (Vector Int 2) 3)
 gD0:Int
 gB3:Int
 gA4:Int
 gC0:Int
def aH.enc(s:aH):AV := .st 19 [(eA 9 3 aC.enc s.gP),(eA 6 2 (eA 2 1 j64) s.gUv),(j64 s.gD0),(j64 s.gB3),(j64 s.gA4),(k8 s.gC0)]
structure aP where
 gJ:Int
 gB5:(Vector Int 3)
 gD8:Int
def aP.enc(s:aP):AV := .st 5 [(j64 s.gJ),(eA 3 1 j64 s.gB5),(j64 s.gD8)]
structure aD where
 gI:Int
 gA8:(List (Vector Int 3))
def aD.enc(s:aD):AV := .st 2 [(j64 s.gI),(eL 3 (eA 3 1 j64) s.gA8)]
structure aQ where
 gJ:Int
 gB5:(Vector Int 3)
 gAt:aC
 gU:aC
 gV:aC
def aQ.enc(s:aQ):AV := .st 13 [(j64 s.gJ),(eA 3 1 j64 s.gB5),(aC.enc s.gAt),(aC.enc s.gU),(aC.enc s.gV)]
structure aG where
 gE:(List aH)
 gA6:(List aP)
 gA2:(List aD)
 gF:(List aQ)
 gR:(List Int)
 gB0:(List Int)
 gB8:Int
 gC1:Int
 gTo:Int
def aG.enc(s:aG):AV := .st 9 [(eL 19 aH.enc s.gE),(eL 5 aP.enc s.gA6),(eL 2 aD.enc s.gA2),(eL 13 aQ.enc s.gF),(eL 1 k64 s.gR),(eL 1 k32 s.gB0),(k32 s.gB8),(k32 s.gC1),(k32 s.gTo)]
structure bR where
 gA9:aC
 gB4:aC
 gUp:aC
 gE2:aC
 gD3:Int
 gD5:Int
def bR.enc(s:bR):AV := .st 14 [(aC.enc s.gA9),(aC.enc s.gB4),(aC.enc s.gUp),(aC.enc s.gE2),(j64 s.gD3),(j64 s.gD5)]
structure aI where
 gW:Int
 gH:Int
 gB1:Int
 gK:Int
 gL:Int
 gS:Int
 gC9:bR
 gT:Bool
def aI.enc(s:aI):AV := .st 21 [(j64 s.gW),(j64 s.gH),(j64 s.gB1),(j64 s.gK),(j64 s.gL),(k64 s.gS),(bR.enc s.gC9),(eB s.gT)]
structure aS where
 gHi:Int
 gLo:Int
def aS.enc(s:aS):AV := .st 2 [(j64 s.gHi),(k64 s.gLo)]
structure aA where
 gX:Int
 gY:Int
 gZ:Int
def aA.enc(s:aA):AV := .st 3 [(j64 s.gX),(j64 s.gY),(j64 s.gZ)]
structure bD where
 gLo:aC
 gHi:aC
 gB2:Int
 gB4:Int
 gC5:Int
 gD1:Int
def bD.enc(s:bD):AV := .st 10 [(aC.enc s.gLo),(aC.enc s.gHi),(j64 s.gB2),(j64 s.gB4),(j64 s.gC5),(j64 s.gD1)]
structure bA where
 gA7:Int
 gB:Int
 gA5:Int
 gE0:Int
def bA.enc(s:bA):AV := .st 4 [(j64 s.gA7),(j64 s.gB),(j64 s.gA5),(j64 s.gE0)]
structure bF where
 gn:Int
 glo:aC
 ghi:aC
def bF.enc(s:bF):AV := .st 7 [(j64 s.gn),(aC.enc s.glo),(aC.enc s.ghi)]
structure aX where
 gA0:(List bD)
 gC2:(List Int)
def aX.enc(s:aX):AV := .st 2 [(eL 10 bD.enc s.gA0),(eL 1 j64 s.gC2)]
structure aL where
 gA1:aX
 gA:Bool
 gl:(List aH)
 gD6:Int
def aL.enc(s:aL):AV := .st 5 [(aX.enc s.gA1),(eB s.gA),(eL 19 aH.enc s.gl),(j64 s.gD6)]
structure aE where
 gN:Int
 gQ:Int
 gM:Int
def aE.enc(s:aE):AV := .st 3 [(j64 s.gN),(j64 s.gQ),(j64 s.gM)]
structure kG where
 gn:Int
def kG.enc(s:kG):AV := .st 1 [(j64 s.gn)]
structure aK where
 gD9:kG
 gA:Bool
 gl:(List aH)
def aK.enc(s:aK):AV := .st 3 [(kG.enc s.gD9),(eB s.gA),(eL 19 aH.enc s.gl)]
structure aJ where
 go:aC
 gd:aC
 gD2:Int
def aJ.enc(s:aJ):AV := .st 7 [(aC.enc s.go),(aC.enc s.gd),(j64 s.gD2)]
structure aF where
 gB5:aA
 gB6:Int
 gK:Int
 gC6:aA
 gA4:Int
def aF.enc(s:aF):AV := .st 9 [(aA.enc s.gB5),(j64 s.gB6),(j64 s.gK),(aA.enc s.gC6),(j64 s.gA4)]
structure bL where
 gE3:Int
 gE4:Int
 gE5:Int
def bL.enc(s:bL):AV := .st 3 [(k32 s.gE3),(k32 s.gE4),(k32 s.gE5)]
structure aV where
 gE8:bL
 gis:Bool
 gE9:(Vector Int 64)
def aV.enc(s:aV):AV := .st 68 [(bL.enc s.gE8),(eB s.gis),(eA 64 1 k8 s.gE9)]
structure aB where
 gD4:aV
 gA:Bool
 gC:Int
 gB:Int
 gD:Int
def aB.enc(s:aB):AV := .st 72 [(aV.enc s.gD4),(eB s.gA),(k64 s.gC),(j64 s.gB),(j64 s.gD)]
structure aN where
 gA3:Int
 gO:Int
 gU:Int
 gV:Int
def aN.enc(s:aN):AV := .st 4 [(j64 s.gA3),(j64 s.gO),(j64 s.gU),(j64 s.gV)]
structure aT where
 gi:Int
 gat:aC
 gn:aA
 gc:aA
 gG:aP
 gB7:Bool
def aT.enc(s:aT):AV := .st 16 [(j64 s.gi),(aC.enc s.gat),(aA.enc s.gn),(aA.enc s.gc),(aP.enc s.gG),(eB s.gB7)]
structure vR where
 gE1:aC
def vR.enc(s:vR):AV := .st 3 [(aC.enc s.gE1)]
structure vV where
 gF0:aC
def vV.enc(s:vV):AV := .st 3 [(aC.enc s.gF0)]
structure jH where
 gC7:aC
 gC8:Bool
 gC3:Bool
 gC4:aA
def jH.enc(s:jH):AV := .st 8 [(aC.enc s.gC7),(eB s.gC8),(eB s.gC3),(aA.enc s.gC4)]
structure cX where
 gD7:aC
 gC4:aA
 gB9:Bool
def cX.enc(s:cX):AV := .st 7 [(aC.enc s.gD7),(aA.enc s.gC4),(eB s.gB9)]
structure cK where
 gW:Int
 gH:Int
 gE6:(List (Vector Int 3))
 gB6:(List Int)
 gK:(List Int)
 gC6:(List (Vector Int 3))
 gE7:(List Int)
 gB8:(List Int)
def cK.enc(s:cK):AV := .st 8 [(j64 s.gW),(j64 s.gH),(eL 3 (eA 3 1 j64) s.gE6),(eL 1 j64 s.gB6),(eL 1 j64 s.gK),(eL 3 (eA 3 1 j64) s.gC6),(eL 1 j64 s.gE7),(eL 1 j64 s.gB8)]
structure aY where
 gn:Int
 gd:Int
def aY.enc(s:aY):AV := .st 2 [(j64 s.gn),(j64 s.gd)]
def tbl : TypeId->Option TI
 | 2=>some ⟨1,8,(.v (.int .i64 0)),.int .i64⟩
 | 3=>some ⟨1,8,(.v (.int .i64 0)),.int .i64⟩
 | 4=>some ⟨1,1,(.v (.bool false)),.bool⟩
 | 5=>some ⟨1,1,(.v (.int .u8 0)),.int .u8⟩
 | 9=>some ⟨1,16,(.v (.string (ByteArray.mk #[]))),.str⟩
 | 22=>some ⟨1,24,(.v (.slice none 0 0)),.sl 144⟩
 | 23=>some ⟨1,24,(.v (.slice none 0 0)),.sl 151⟩
 | 24=>some ⟨1,24,(.v (.slice none 0 0)),.sl 85⟩
 | 25=>some ⟨1,24,(.v (.slice none 0 0)),.sl 201⟩
 | 26=>some ⟨1,24,(.v (.slice none 0 0)),.sl 31⟩
 | 27=>some ⟨1,24,(.v (.slice none 0 0)),.sl 28⟩
 | 28=>some ⟨1,4,(.v (.int .u32 0)),.int .u32⟩
 | 30=>some ⟨9,160,(.st 9 [(.v (.slice none 0 0)),(.v (.slice none 0 0)),(.v (.slice none 0 0)),(.v (.slice none 0 0)),(.v (.slice none 0 0)),(.v (.slice none 0 0)),(.v (.int .u32 0)),(.v (.int .u32 0)),(.v (.int .u32 0))]),.st [(0,22),(1,23),(2,24),(3,25),(4,26),(5,27),(6,28),(7,28),(8,28)]⟩
 | 31=>some ⟨1,8,(.v (.int .u64 0)),.int .u64⟩
 | 33=>some ⟨3,24,(.st 3 [(.v (.int .i64 0)),(.v (.int .i64 0)),(.v (.int .i64 0))]),.st [(0,3),(1,3),(2,3)]⟩
 | 35=>some ⟨14,112,(.st 14 [(.st 3 [(.v (.int .i64 0)),(.v (.int .i64 0)),(.v (.int .i64 0))]),(.st 3 [(.v (.int .i64 0)),(.v (.int .i64 0)),(.v (.int .i64 0))]),(.st 3 [(.v (.int .i64 0)),(.v (.int .i64 0)),(.v (.int .i64 0))]),(.st 3 [(.v (.int .i64 0)),(.v (.int .i64 0)),(.v (.int .i64 0))]),(.v (.int .i64 0)),(.v (.int .i64 0))]),.st [(0,33),(3,33),(6,33),(9,33),(12,3),(13,3)]⟩
 | 37=>some ⟨21,168,(.st 21 [(.v (.int .i64 0)),(.v (.int .i64 0)),(.v (.int .i64 0)),(.v (.int .i64 0)),(.v (.int .i64 0)),(.v (.int .u64 0)),(.st 14 [(.st 3 [(.v (.int .i64 0)),(.v (.int .i64 0)),(.v (.int .i64 0))]),(.st 3 [(.v (.int .i64 0)),(.v (.int .i64 0)),(.v (.int .i64 0))]),(.st 3 [(.v (.int .i64 0)),(.v (.int .i64 0)),(.v (.int .i64 0))]),(.st 3 [(.v (.int .i64 0)),(.v (.int .i64 0)),(.v (.int .i64 0))]),(.v (.int .i64 0)),(.v (.int .i64 0))]),(.v (.bool false))]),.st [(0,3),(1,3),(2,3),(3,3),(4,3),(5,31),(6,35),(20,4)]⟩
 | 40=>some ⟨1,24,(.v (.slice none 0 0)),.sl 54⟩
 | 41=>some ⟨1,24,(.v (.slice none 0 0)),.sl 3⟩
 | 43=>some ⟨8,160,(.st 8 [(.v (.int .i64 0)),(.v (.int .i64 0)),(.v (.slice none 0 0)),(.v (.slice none 0 0)),(.v (.slice none 0 0)),(.v (.slice none 0 0)),(.v (.slice none 0 0)),(.v (.slice none 0 0))]),.st [(0,3),(1,3),(2,40),(3,41),(4,41),(5,40),(6,41),(7,41)]⟩
 | 45=>some ⟨3,24,(.st 3 [(.v (.int .i64 0)),(.v (.int .i64 0)),(.v (.int .i64 0))]),.st [(0,3),(1,3),(2,3)]⟩
 | 46=>some ⟨1,8,(.v (.int .i64 0)),.int .i64⟩
 | 54=>some ⟨3,24,(.arr 3 1 (ap 3 (.v (.int .i64 0)))),.arr 3 3⟩
 | 62=>some ⟨1,8,(.v (.pointer none)),.ptr 175⟩
 | 64=>some ⟨1,24,(.v (.slice none 0 0)),.sl 91⟩
 | 75=>some ⟨4,32,(.arr 4 1 (ap 4 (.v (.int .i64 0)))),.arr 4 3⟩
 | 82=>some ⟨1,24,(.v (.slice none 0 0)),.sl 5⟩
 | 85=>some ⟨2,32,(.st 2 [(.v (.int .i64 0)),(.v (.slice none 0 0))]),.st [(0,3),(1,40)]⟩
 | 87=>some ⟨1,8,(.v (.int .i64 0)),.int .i64⟩
 | 89=>some ⟨3,24,(.st 3 [(.v (.int .i64 0)),(.v (.int .i64 0)),(.v (.int .i64 0))]),.st [(0,87),(1,87),(2,87)]⟩
 | 91=>some ⟨9,72,(.st 9 [(.st 3 [(.v (.int .i64 0)),(.v (.int .i64 0)),(.v (.int .i64 0))]),(.v (.int .i64 0)),(.v (.int .i64 0)),(.st 3 [(.v (.int .i64 0)),(.v (.int .i64 0)),(.v (.int .i64 0))]),(.v (.int .i64 0))]),.st [(0,89),(3,3),(4,87),(5,89),(8,3)]⟩
 | 107=>some ⟨1,8,(.v .nilFunc),.other⟩
 | 130=>some ⟨4,16,(.arr 4 1 (ap 4 (.v (.int .u32 0)))),.arr 4 28⟩
 | 135=>some ⟨4,32,(.st 4 [(.v (.int .i64 0)),(.v (.int .i64 0)),(.v (.int .i64 0)),(.v (.int .i64 0))]),.st [(0,3),(1,3),(2,3),(3,3)]⟩
 | 140=>some ⟨9,72,(.arr 9 3 (ap 3 (.st 3 [(.v (.int .i64 0)),(.v (.int .i64 0)),(.v (.int .i64 0))]))),.arr 3 33⟩
 | 141=>some ⟨2,16,(.arr 2 1 (ap 2 (.v (.int .i64 0)))),.arr 2 3⟩
 | 142=>some ⟨6,48,(.arr 6 2 (ap 3 (.arr 2 1 (ap 2 (.v (.int .i64 0)))))),.arr 3 141⟩
 | 144=>some ⟨19,152,(.st 19 [(.arr 9 3 (ap 3 (.st 3 [(.v (.int .i64 0)),(.v (.int .i64 0)),(.v (.int .i64 0))]))),(.arr 6 2 (ap 3 (.arr 2 1 (ap 2 (.v (.int .i64 0)))))),(.v (.int .i64 0)),(.v (.int .i64 0)),(.v (.int .i64 0)),(.v (.int .u8 0))]),.st [(0,140),(9,142),(15,3),(16,3),(17,3),(18,5)]⟩
 | 151=>some ⟨5,40,(.st 5 [(.v (.int .i64 0)),(.arr 3 1 (ap 3 (.v (.int .i64 0)))),(.v (.int .i64 0))]),.st [(0,3),(1,54),(4,3)]⟩
 | 156=>some ⟨2,8,(.arr 2 1 (ap 2 (.v (.int .u32 0)))),.arr 2 28⟩
 | 158=>some ⟨7,56,(.st 7 [(.st 3 [(.v (.int .i64 0)),(.v (.int .i64 0)),(.v (.int .i64 0))]),(.st 3 [(.v (.int .i64 0)),(.v (.int .i64 0)),(.v (.int .i64 0))]),(.v (.bool false))]),.st [(0,33),(3,89),(6,4)]⟩
 | 172=>some ⟨1,16,(.v .nilIface),.other⟩
 | 173=>some ⟨1,24,(.v (.slice none 0 0)),.sl 24⟩
 | 175=>some ⟨38,416,(.st 38 [(.st 9 [(.v (.slice none 0 0)),(.v (.slice none 0 0)),(.v (.slice none 0 0)),(.v (.slice none 0 0)),(.v (.slice none 0 0)),(.v (.slice none 0 0)),(.v (.int .u32 0)),(.v (.int .u32 0)),(.v (.int .u32 0))]),(.st 21 [(.v (.int .i64 0)),(.v (.int .i64 0)),(.v (.int .i64 0)),(.v (.int .i64 0)),(.v (.int .i64 0)),(.v (.int .u64 0)),(.st 14 [(.st 3 [(.v (.int .i64 0)),(.v (.int .i64 0)),(.v (.int .i64 0))]),(.st 3 [(.v (.int .i64 0)),(.v (.int .i64 0)),(.v (.int .i64 0))]),(.st 3 [(.v (.int .i64 0)),(.v (.int .i64 0)),(.v (.int .i64 0))]),(.st 3 [(.v (.int .i64 0)),(.v (.int .i64 0)),(.v (.int .i64 0))]),(.v (.int .i64 0)),(.v (.int .i64 0))]),(.v (.bool false))]),(.v .nilIface),(.v (.slice none 0 0)),(.st 3 [(.v (.int .i64 0)),(.v (.int .i64 0)),(.v (.int .i64 0))]),(.st 3 [(.v (.int .i64 0)),(.v (.int .i64 0)),(.v (.int .i64 0))])]),.st [(0,30),(9,37),(30,172),(31,173),(32,89),(35,45)]⟩
 | 178=>some ⟨1,8,(.v (.pointer none)),.ptr 283⟩
 | 181=>some ⟨1,8,(.v (.pointer none)),.ptr 290⟩
 | 185=>some ⟨1,8,(.v (.pointer none)),.ptr 296⟩
 | 188=>some ⟨7,56,(.st 7 [(.st 3 [(.v (.int .i64 0)),(.v (.int .i64 0)),(.v (.int .i64 0))]),(.st 3 [(.v (.int .i64 0)),(.v (.int .i64 0)),(.v (.int .i64 0))]),(.v (.int .i64 0))]),.st [(0,33),(3,33),(6,3)]⟩
 | 190=>some ⟨26,208,(.st 26 [(.st 7 [(.st 3 [(.v (.int .i64 0)),(.v (.int .i64 0)),(.v (.int .i64 0))]),(.st 3 [(.v (.int .i64 0)),(.v (.int .i64 0)),(.v (.int .i64 0))]),(.v (.int .i64 0))]),(.v (.pointer none)),(.v (.pointer none)),(.st 3 [(.v (.int .i64 0)),(.v (.int .i64 0)),(.v (.int .i64 0))]),(.st 3 [(.v (.int .i64 0)),(.v (.int .i64 0)),(.v (.int .i64 0))]),(.v (.int .i64 0)),(.v (.bool false)),(.st 9 [(.st 3 [(.v (.int .i64 0)),(.v (.int .i64 0)),(.v (.int .i64 0))]),(.v (.int .i64 0)),(.v (.int .i64 0)),(.st 3 [(.v (.int .i64 0)),(.v (.int .i64 0)),(.v (.int .i64 0))]),(.v (.int .i64 0))])]),.st [(0,188),(7,62),(8,185),(9,89),(12,89),(15,3),(16,4),(17,91)]⟩
 | 201=>some ⟨13,104,(.st 13 [(.v (.int .i64 0)),(.arr 3 1 (ap 3 (.v (.int .i64 0)))),(.st 3 [(.v (.int .i64 0)),(.v (.int .i64 0)),(.v (.int .i64 0))]),(.st 3 [(.v (.int .i64 0)),(.v (.int .i64 0)),(.v (.int .i64 0))]),(.st 3 [(.v (.int .i64 0)),(.v (.int .i64 0)),(.v (.int .i64 0))])]),.st [(0,3),(1,54),(4,33),(7,33),(10,33)]⟩
 | 221=>some ⟨12,12,(.arr 12 1 (ap 12 (.v (.int .u8 0)))),.arr 12 5⟩
 | 222=>some ⟨64,64,(.arr 64 1 (ap 64 (.v (.int .u8 0)))),.arr 64 5⟩
 | 224=>some ⟨32,32,(.arr 32 1 (ap 32 (.v (.int .u8 0)))),.arr 32 5⟩
 | 238=>some ⟨1,24,(.v (.slice none 0 0)),.sl 87⟩
 | 252=>some ⟨8,56,(.st 8 [(.st 3 [(.v (.int .i64 0)),(.v (.int .i64 0)),(.v (.int .i64 0))]),(.v (.bool false)),(.v (.bool false)),(.st 3 [(.v (.int .i64 0)),(.v (.int .i64 0)),(.v (.int .i64 0))])]),.st [(0,33),(3,4),(4,4),(5,89)]⟩
 | 258=>some ⟨1,8,(.v (.int .u64 0)),.int .u64⟩
 | 261=>some ⟨2,16,(.st 2 [(.v (.int .i64 0)),(.v (.int .u64 0))]),.st [(0,2),(1,31)]⟩
 | 277=>some ⟨1,24,(.v (.slice none 0 0)),.sl 89⟩
 | 278=>some ⟨1,8,(.v .nilFunc),.other⟩
 | 281=>some ⟨1,8,(.st 1 [(.v (.int .i64 0))]),.st [(0,3)]⟩
 | 283=>some ⟨3,40,(.st 3 [(.st 1 [(.v (.int .i64 0))]),(.v (.bool false)),(.v (.slice none 0 0))]),.st [(0,281),(1,4),(2,22)]⟩
 | 284=>some ⟨1,24,(.v (.slice none 0 0)),.sl 356⟩
 | 286=>some ⟨2,48,(.st 2 [(.v (.slice none 0 0)),(.v (.slice none 0 0))]),.st [(0,284),(1,41)]⟩
 | 290=>some ⟨5,88,(.st 5 [(.st 2 [(.v (.slice none 0 0)),(.v (.slice none 0 0))]),(.v (.bool false)),(.v (.slice none 0 0)),(.v (.int .i64 0))]),.st [(0,286),(2,4),(3,22),(4,3)]⟩
 | 292=>some ⟨3,12,(.st 3 [(.v (.int .u32 0)),(.v (.int .u32 0)),(.v (.int .u32 0))]),.st [(0,28),(1,28),(2,28)]⟩
 | 294=>some ⟨68,80,(.st 68 [(.st 3 [(.v (.int .u32 0)),(.v (.int .u32 0)),(.v (.int .u32 0))]),(.v (.bool false)),(.arr 64 1 (ap 64 (.v (.int .u8 0))))]),.st [(0,292),(3,4),(4,222)]⟩
 | 296=>some ⟨72,112,(.st 72 [(.st 68 [(.st 3 [(.v (.int .u32 0)),(.v (.int .u32 0)),(.v (.int .u32 0))]),(.v (.bool false)),(.arr 64 1 (ap 64 (.v (.int .u8 0))))]),(.v (.bool false)),(.v (.int .u64 0)),(.v (.int .i64 0)),(.v (.int .i64 0))]),.st [(0,294),(68,4),(69,31),(70,3),(71,3)]⟩
 | 304=>some ⟨16,128,(.st 16 [(.v (.int .i64 0)),(.st 3 [(.v (.int .i64 0)),(.v (.int .i64 0)),(.v (.int .i64 0))]),(.st 3 [(.v (.int .i64 0)),(.v (.int .i64 0)),(.v (.int .i64 0))]),(.st 3 [(.v (.int .i64 0)),(.v (.int .i64 0)),(.v (.int .i64 0))]),(.st 5 [(.v (.int .i64 0)),(.arr 3 1 (ap 3 (.v (.int .i64 0)))),(.v (.int .i64 0))]),(.v (.bool false))]),.st [(0,3),(1,33),(4,89),(7,89),(10,151),(15,4)]⟩
 | 320=>some ⟨16,64,(.arr 16 1 (ap 16 (.v (.int .u32 0)))),.arr 16 28⟩
 | 354=>some ⟨1,24,(.v (.slice none 0 0)),.sl 33⟩
 | 356=>some ⟨10,80,(.st 10 [(.st 3 [(.v (.int .i64 0)),(.v (.int .i64 0)),(.v (.int .i64 0))]),(.st 3 [(.v (.int .i64 0)),(.v (.int .i64 0)),(.v (.int .i64 0))]),(.v (.int .i64 0)),(.v (.int .i64 0)),(.v (.int .i64 0)),(.v (.int .i64 0))]),.st [(0,33),(3,33),(6,3),(7,3),(8,3),(9,3)]⟩
 | 358=>some ⟨4,32,(.st 4 [(.v (.int .i64 0)),(.v (.int .i64 0)),(.v (.int .i64 0)),(.v (.int .i64 0))]),.st [(0,3),(1,3),(2,3),(3,3)]⟩
 | 359=>some ⟨1,24,(.v (.slice none 0 0)),.sl 358⟩
 | 406=>some ⟨3,24,(.st 3 [(.st 3 [(.v (.int .i64 0)),(.v (.int .i64 0)),(.v (.int .i64 0))])]),.st [(0,33)]⟩
 | 410=>some ⟨3,24,(.st 3 [(.st 3 [(.v (.int .i64 0)),(.v (.int .i64 0)),(.v (.int .i64 0))])]),.st [(0,33)]⟩
 | 415=>some ⟨1,24,(.v (.slice none 0 0)),.sl 261⟩
 | 420=>some ⟨7,56,(.st 7 [(.v (.int .i64 0)),(.st 3 [(.v (.int .i64 0)),(.v (.int .i64 0)),(.v (.int .i64 0))]),(.st 3 [(.v (.int .i64 0)),(.v (.int .i64 0)),(.v (.int .i64 0))])]),.st [(0,3),(1,33),(4,33)]⟩
 | 421=>some ⟨56,448,(.arr 56 7 (ap 8 (.st 7 [(.v (.int .i64 0)),(.st 3 [(.v (.int .i64 0)),(.v (.int .i64 0)),(.v (.int .i64 0))]),(.st 3 [(.v (.int .i64 0)),(.v (.int .i64 0)),(.v (.int .i64 0))])]))),.arr 8 420⟩
 | 423=>some ⟨32,256,(.arr 32 4 (ap 8 (.arr 4 1 (ap 4 (.v (.int .i64 0)))))),.arr 8 75⟩
 | 428=>some ⟨12,96,(.arr 12 3 (ap 4 (.arr 3 1 (ap 3 (.v (.int .i64 0)))))),.arr 4 54⟩
 | 453=>some ⟨2,16,(.st 2 [(.v (.int .i64 0)),(.v (.int .i64 0))]),.st [(0,3),(1,3)]⟩
 | 457=>some ⟨12,96,(.arr 12 4 (ap 3 (.arr 4 1 (ap 4 (.v (.int .i64 0)))))),.arr 3 75⟩
 | _=>none
theorem hT : TOK Tryz.prog tbl:=by
 intro t i h;unfold tbl at h;split at h
 ·cases h;exact⟨⟨_,_,rfl,rfl,rfl,rfl,rfl,rfl⟩,⟨_,rfl,rfl⟩,rfl⟩
 ·cases h;exact⟨⟨_,_,rfl,rfl,rfl,rfl,rfl,rfl⟩,⟨_,rfl,rfl⟩,rfl⟩
 ·cases h;exact⟨⟨_,_,rfl,rfl,rfl,rfl,rfl,rfl⟩,⟨_,rfl,rfl⟩,rfl⟩
 ·cases h;exact⟨⟨_,_,rfl,rfl,rfl,rfl,rfl,rfl⟩,⟨_,rfl,rfl⟩,rfl⟩
 ·cases h;exact⟨⟨_,_,rfl,rfl,rfl,rfl,rfl,rfl⟩,⟨_,rfl,rfl⟩,rfl⟩
 ·cases h;exact⟨⟨_,_,rfl,rfl,rfl,rfl,rfl,rfl⟩,⟨_,rfl,rfl⟩,rfl⟩
 ·cases h;exact⟨⟨_,_,rfl,rfl,rfl,rfl,rfl,rfl⟩,⟨_,rfl,rfl⟩,rfl⟩
 ·cases h;exact⟨⟨_,_,rfl,rfl,rfl,rfl,rfl,rfl⟩,⟨_,rfl,rfl⟩,rfl⟩
 ·cases h;exact⟨⟨_,_,rfl,rfl,rfl,rfl,rfl,rfl⟩,⟨_,rfl,rfl⟩,rfl⟩
 ·cases h;exact⟨⟨_,_,rfl,rfl,rfl,rfl,rfl,rfl⟩,⟨_,rfl,rfl⟩,rfl⟩
 ·cases h;exact⟨⟨_,_,rfl,rfl,rfl,rfl,rfl,rfl⟩,⟨_,rfl,rfl⟩,rfl⟩
 ·cases h;exact⟨⟨_,_,rfl,rfl,rfl,rfl,rfl,rfl⟩,⟨_,rfl,rfl⟩,rfl⟩
 ·cases h;exact⟨⟨_,_,rfl,rfl,rfl,rfl,rfl,rfl⟩,⟨_,rfl,⟨_,rfl,rfl⟩⟩,rfl⟩
 ·cases h;exact⟨⟨_,_,rfl,rfl,rfl,rfl,rfl,rfl⟩,⟨_,rfl,rfl⟩,rfl⟩
 ·cases h;exact⟨⟨_,_,rfl,rfl,rfl,rfl,rfl,rfl⟩,⟨_,rfl,⟨_,rfl,rfl⟩⟩,rfl⟩
 ·cases h;exact⟨⟨_,_,rfl,rfl,rfl,rfl,rfl,rfl⟩,⟨_,rfl,⟨_,rfl,rfl⟩⟩,rfl⟩
 ·cases h;exact⟨⟨_,_,rfl,rfl,rfl,rfl,rfl,rfl⟩,⟨_,rfl,⟨_,rfl,rfl⟩⟩,rfl⟩
 ·cases h;exact⟨⟨_,_,rfl,rfl,rfl,rfl,rfl,rfl⟩,⟨_,rfl,rfl⟩,rfl⟩
 ·cases h;exact⟨⟨_,_,rfl,rfl,rfl,rfl,rfl,rfl⟩,⟨_,rfl,rfl⟩,rfl⟩
 ·cases h;exact⟨⟨_,_,rfl,rfl,rfl,rfl,rfl,rfl⟩,⟨_,rfl,⟨_,rfl,rfl⟩⟩,rfl⟩
 ·cases h;exact⟨⟨_,_,rfl,rfl,rfl,rfl,rfl,rfl⟩,⟨_,rfl,⟨_,rfl,rfl⟩⟩,rfl⟩
 ·cases h;exact⟨⟨_,_,rfl,rfl,rfl,rfl,rfl,rfl⟩,⟨_,rfl,rfl⟩,rfl⟩
 ·cases h;exact⟨⟨_,_,rfl,rfl,rfl,rfl,rfl,rfl⟩,⟨_,rfl,rfl⟩,rfl⟩
 ·cases h;exact⟨⟨_,_,rfl,rfl,rfl,rfl,rfl,rfl⟩,⟨_,rfl,rfl⟩,rfl⟩
 ·cases h;exact⟨⟨_,_,rfl,rfl,rfl,rfl,rfl,rfl⟩,⟨_,rfl,rfl⟩,rfl⟩
 ·cases h;exact⟨⟨_,_,rfl,rfl,rfl,rfl,rfl,rfl⟩,⟨_,rfl,rfl⟩,rfl⟩
 ·cases h;exact⟨⟨_,_,rfl,rfl,rfl,rfl,rfl,rfl⟩,⟨_,rfl,rfl⟩,rfl⟩
 ·cases h;exact⟨⟨_,_,rfl,rfl,rfl,rfl,rfl,rfl⟩,⟨_,rfl,⟨_,rfl,rfl⟩⟩,rfl⟩
 ·cases h;exact⟨⟨_,_,rfl,rfl,rfl,rfl,rfl,rfl⟩,⟨_,rfl,rfl⟩,rfl⟩
 ·cases h;exact⟨⟨_,_,rfl,rfl,rfl,rfl,rfl,rfl⟩,⟨_,rfl,⟨_,rfl,rfl⟩⟩,rfl⟩
 ·cases h;exact⟨⟨_,_,rfl,rfl,rfl,rfl,rfl,rfl⟩,⟨_,rfl,⟨_,rfl,rfl⟩⟩,rfl⟩
 ·cases h;exact⟨⟨_,_,rfl,rfl,rfl,rfl,rfl,rfl⟩,⟨_,rfl,(by unfold TK.fits;exact⟨(by intro fs h;cases h),(by intro n e h;cases h)⟩)⟩,rfl⟩
 ·cases h;exact⟨⟨_,_,rfl,rfl,rfl,rfl,rfl,rfl⟩,⟨_,rfl,rfl⟩,rfl⟩
 ·cases h;exact⟨⟨_,_,rfl,rfl,rfl,rfl,rfl,rfl⟩,⟨_,rfl,⟨_,rfl,rfl⟩⟩,rfl⟩
 ·cases h;exact⟨⟨_,_,rfl,rfl,rfl,rfl,rfl,rfl⟩,⟨_,rfl,rfl⟩,rfl⟩
 ·cases h;exact⟨⟨_,_,rfl,rfl,rfl,rfl,rfl,rfl⟩,⟨_,rfl,rfl⟩,rfl⟩
 ·cases h;exact⟨⟨_,_,rfl,rfl,rfl,rfl,rfl,rfl⟩,⟨_,rfl,rfl⟩,rfl⟩
 ·cases h;exact⟨⟨_,_,rfl,rfl,rfl,rfl,rfl,rfl⟩,⟨_,rfl,⟨_,rfl,rfl⟩⟩,rfl⟩
 ·cases h;exact⟨⟨_,_,rfl,rfl,rfl,rfl,rfl,rfl⟩,⟨_,rfl,⟨_,rfl,rfl⟩⟩,rfl⟩
 ·cases h;exact⟨⟨_,_,rfl,rfl,rfl,rfl,rfl,rfl⟩,⟨_,rfl,rfl⟩,rfl⟩
 ·cases h;exact⟨⟨_,_,rfl,rfl,rfl,rfl,rfl,rfl⟩,⟨_,rfl,⟨_,rfl,rfl⟩⟩,rfl⟩
 ·cases h;exact⟨⟨_,_,rfl,rfl,rfl,rfl,rfl,rfl⟩,⟨_,rfl,(by unfold TK.fits;exact⟨(by intro fs h;cases h),(by intro n e h;cases h)⟩)⟩,rfl⟩
 ·cases h;exact⟨⟨_,_,rfl,rfl,rfl,rfl,rfl,rfl⟩,⟨_,rfl,rfl⟩,rfl⟩
 ·cases h;exact⟨⟨_,_,rfl,rfl,rfl,rfl,rfl,rfl⟩,⟨_,rfl,⟨_,rfl,rfl⟩⟩,rfl⟩
 ·cases h;exact⟨⟨_,_,rfl,rfl,rfl,rfl,rfl,rfl⟩,⟨_,rfl,rfl⟩,rfl⟩
 ·cases h;exact⟨⟨_,_,rfl,rfl,rfl,rfl,rfl,rfl⟩,⟨_,rfl,rfl⟩,rfl⟩
 ·cases h;exact⟨⟨_,_,rfl,rfl,rfl,rfl,rfl,rfl⟩,⟨_,rfl,rfl⟩,rfl⟩
 ·cases h;exact⟨⟨_,_,rfl,rfl,rfl,rfl,rfl,rfl⟩,⟨_,rfl,⟨_,rfl,rfl⟩⟩,rfl⟩
 ·cases h;exact⟨⟨_,_,rfl,rfl,rfl,rfl,rfl,rfl⟩,⟨_,rfl,⟨_,rfl,rfl⟩⟩,rfl⟩
 ·cases h;exact⟨⟨_,_,rfl,rfl,rfl,rfl,rfl,rfl⟩,⟨_,rfl,⟨_,rfl,rfl⟩⟩,rfl⟩
 ·cases h;exact⟨⟨_,_,rfl,rfl,rfl,rfl,rfl,rfl⟩,⟨_,rfl,rfl⟩,rfl⟩
 ·cases h;exact⟨⟨_,_,rfl,rfl,rfl,rfl,rfl,rfl⟩,⟨_,rfl,rfl⟩,rfl⟩
 ·cases h;exact⟨⟨_,_,rfl,rfl,rfl,rfl,rfl,rfl⟩,⟨_,rfl,rfl⟩,rfl⟩
 ·cases h;exact⟨⟨_,_,rfl,rfl,rfl,rfl,rfl,rfl⟩,⟨_,rfl,rfl⟩,rfl⟩
 ·cases h;exact⟨⟨_,_,rfl,rfl,rfl,rfl,rfl,rfl⟩,⟨_,rfl,⟨_,rfl,rfl⟩⟩,rfl⟩
 ·cases h;exact⟨⟨_,_,rfl,rfl,rfl,rfl,rfl,rfl⟩,⟨_,rfl,rfl⟩,rfl⟩
 ·cases h;exact⟨⟨_,_,rfl,rfl,rfl,rfl,rfl,rfl⟩,⟨_,rfl,⟨_,rfl,rfl⟩⟩,rfl⟩
 ·cases h;exact⟨⟨_,_,rfl,rfl,rfl,rfl,rfl,rfl⟩,⟨_,rfl,rfl⟩,rfl⟩
 ·cases h;exact⟨⟨_,_,rfl,rfl,rfl,rfl,rfl,rfl⟩,⟨_,rfl,(by unfold TK.fits;exact⟨(by intro fs h;cases h),(by intro n e h;cases h)⟩)⟩,rfl⟩
 ·cases h;exact⟨⟨_,_,rfl,rfl,rfl,rfl,rfl,rfl⟩,⟨_,rfl,⟨_,rfl,rfl⟩⟩,rfl⟩
 ·cases h;exact⟨⟨_,_,rfl,rfl,rfl,rfl,rfl,rfl⟩,⟨_,rfl,⟨_,rfl,rfl⟩⟩,rfl⟩
 ·cases h;exact⟨⟨_,_,rfl,rfl,rfl,rfl,rfl,rfl⟩,⟨_,rfl,rfl⟩,rfl⟩
 ·cases h;exact⟨⟨_,_,rfl,rfl,rfl,rfl,rfl,rfl⟩,⟨_,rfl,⟨_,rfl,rfl⟩⟩,rfl⟩
 ·cases h;exact⟨⟨_,_,rfl,rfl,rfl,rfl,rfl,rfl⟩,⟨_,rfl,⟨_,rfl,rfl⟩⟩,rfl⟩
 ·cases h;exact⟨⟨_,_,rfl,rfl,rfl,rfl,rfl,rfl⟩,⟨_,rfl,⟨_,rfl,rfl⟩⟩,rfl⟩
 ·cases h;exact⟨⟨_,_,rfl,rfl,rfl,rfl,rfl,rfl⟩,⟨_,rfl,⟨_,rfl,rfl⟩⟩,rfl⟩
 ·cases h;exact⟨⟨_,_,rfl,rfl,rfl,rfl,rfl,rfl⟩,⟨_,rfl,⟨_,rfl,rfl⟩⟩,rfl⟩
 ·cases h;exact⟨⟨_,_,rfl,rfl,rfl,rfl,rfl,rfl⟩,⟨_,rfl,⟨_,rfl,rfl⟩⟩,rfl⟩
 ·cases h;exact⟨⟨_,_,rfl,rfl,rfl,rfl,rfl,rfl⟩,⟨_,rfl,rfl⟩,rfl⟩
 ·cases h;exact⟨⟨_,_,rfl,rfl,rfl,rfl,rfl,rfl⟩,⟨_,rfl,rfl⟩,rfl⟩
 ·cases h;exact⟨⟨_,_,rfl,rfl,rfl,rfl,rfl,rfl⟩,⟨_,rfl,⟨_,rfl,rfl⟩⟩,rfl⟩
 ·cases h;exact⟨⟨_,_,rfl,rfl,rfl,rfl,rfl,rfl⟩,⟨_,rfl,⟨_,rfl,rfl⟩⟩,rfl⟩
 ·cases h;exact⟨⟨_,_,rfl,rfl,rfl,rfl,rfl,rfl⟩,⟨_,rfl,rfl⟩,rfl⟩
 ·cases h;exact⟨⟨_,_,rfl,rfl,rfl,rfl,rfl,rfl⟩,⟨_,rfl,⟨_,rfl,rfl⟩⟩,rfl⟩
 ·cases h;exact⟨⟨_,_,rfl,rfl,rfl,rfl,rfl,rfl⟩,⟨_,rfl,⟨_,rfl,rfl⟩⟩,rfl⟩
 ·cases h;exact⟨⟨_,_,rfl,rfl,rfl,rfl,rfl,rfl⟩,⟨_,rfl,rfl⟩,rfl⟩
 ·cases h;exact⟨⟨_,_,rfl,rfl,rfl,rfl,rfl,rfl⟩,⟨_,rfl,⟨_,rfl,rfl⟩⟩,rfl⟩
 ·cases h;exact⟨⟨_,_,rfl,rfl,rfl,rfl,rfl,rfl⟩,⟨_,rfl,rfl⟩,rfl⟩
 ·cases h;exact⟨⟨_,_,rfl,rfl,rfl,rfl,rfl,rfl⟩,⟨_,rfl,rfl⟩,rfl⟩
 ·cases h;exact⟨⟨_,_,rfl,rfl,rfl,rfl,rfl,rfl⟩,⟨_,rfl,rfl⟩,rfl⟩
 ·cases h;exact⟨⟨_,_,rfl,rfl,rfl,rfl,rfl,rfl⟩,⟨_,rfl,⟨_,rfl,rfl⟩⟩,rfl⟩
 ·cases h;exact⟨⟨_,_,rfl,rfl,rfl,rfl,rfl,rfl⟩,⟨_,rfl,rfl⟩,rfl⟩
 ·cases h
theorem hmo : Tryz.prog.follows .mixedOrders=true:=by rfl
theorem tt2 : tbl 2=some ⟨1,8,(.v (.int .i64 0)),.int .i64⟩:=rfl
theorem tt3 : tbl 3=some ⟨1,8,(.v (.int .i64 0)),.int .i64⟩:=rfl
theorem tt28 : tbl 28=some ⟨1,4,(.v (.int .u32 0)),.int .u32⟩:=rfl
theorem tt31 : tbl 31=some ⟨1,8,(.v (.int .u64 0)),.int .u64⟩:=rfl
theorem tt87 : tbl 87=some ⟨1,8,(.v (.int .i64 0)),.int .i64⟩:=rfl
theorem aHj : EqT Tryz.prog 3 (α:=Int) j64 (λa b=>a==b) 1:=
 aEw Tryz.underlying3
def aC.eq(a b:aC):Bool:=(λa b=>a==b) a.gX b.gX&&((λa b=>a==b) a.gY b.gY&&((λa b=>a==b) a.gZ b.gZ&&true))
theorem aB8 : EqT Tryz.prog 33 (α:=aC) aC.enc aC.eq 2:=
 aAS (N:=3) Tryz.underlying33 (by kernel_rfl) (λ_=>rfl) (λa b=>pL hT a.gX b.gX (by decide) rfl tt3 rfl (λ_=>rfl) (λ_=>rfl) (λ_=>rfl) aHj (by decide) (pL hT a.gY b.gY (by decide) rfl tt3 rfl (λ_=>rfl) (λ_=>rfl) (λ_=>rfl) aHj (by decide) (pL hT a.gZ b.gZ (by decide) rfl tt3 rfl (λ_=>rfl) (λ_=>rfl) (λ_=>rfl) aHj (by decide) (aEC))))
theorem aMY : EqT Tryz.prog 28 (α:=Int) k32 (λa b=>a==b) 1:=
 aEw Tryz.underlying28
def bL.eq(a b:bL):Bool:=(λa b=>a==b) a.gE3 b.gE3&&((λa b=>a==b) a.gE4 b.gE4&&((λa b=>a==b) a.gE5 b.gE5&&true))
theorem aR5 : EqT Tryz.prog 292 (α:=bL) bL.enc bL.eq 2:=
 aAS (N:=3) Tryz.underlying292 (by kernel_rfl) (λ_=>rfl) (λa b=>pL hT a.gE3 b.gE3 (by decide) rfl tt28 rfl (λ_=>rfl) (λ_=>rfl) (λ_=>rfl) aMY (by decide) (pL hT a.gE4 b.gE4 (by decide) rfl tt28 rfl (λ_=>rfl) (λ_=>rfl) (λ_=>rfl) aMY (by decide) (pL hT a.gE5 b.gE5 (by decide) rfl tt28 rfl (λ_=>rfl) (λ_=>rfl) (λ_=>rfl) aMY (by decide) (aEC))))
theorem eqT_2 : EqT Tryz.prog 2 (α:=Int) j64 (λa b=>a==b) 1:=
 aEw Tryz.underlying2
theorem aTV : EqT Tryz.prog 31 (α:=Int) k64 (λa b=>a==b) 1:=
 aEw Tryz.underlying31
def aS.eq(a b:aS):Bool:=(λa b=>a==b) a.gHi b.gHi&&((λa b=>a==b) a.gLo b.gLo&&true)
theorem aRn : EqT Tryz.prog 261 (α:=aS) aS.enc aS.eq 2:=
 aAS (N:=2) Tryz.underlying261 (by kernel_rfl) (λ_=>rfl) (λa b=>pL hT a.gHi b.gHi (by decide) rfl tt2 rfl (λ_=>rfl) (λ_=>rfl) (λ_=>rfl) eqT_2 (by decide) (pL hT a.gLo b.gLo (by decide) rfl tt31 rfl (λ_=>rfl) (λ_=>rfl) (λ_=>rfl) aTV (by decide) (aEC)))
theorem aMj : EqT Tryz.prog 87 (α:=Int) j64 (λa b=>a==b) 1:=
 aEw Tryz.underlying87
def aA.eq(a b:aA):Bool:=(λa b=>a==b) a.gX b.gX&&((λa b=>a==b) a.gY b.gY&&((λa b=>a==b) a.gZ b.gZ&&true))
theorem aT9 : EqT Tryz.prog 89 (α:=aA) aA.enc aA.eq 2:=
 aAS (N:=3) Tryz.underlying89 (by kernel_rfl) (λ_=>rfl) (λa b=>pL hT a.gX b.gX (by decide) rfl tt87 rfl (λ_=>rfl) (λ_=>rfl) (λ_=>rfl) aMj (by decide) (pL hT a.gY b.gY (by decide) rfl tt87 rfl (λ_=>rfl) (λ_=>rfl) (λ_=>rfl) aMj (by decide) (pL hT a.gZ b.gZ (by decide) rfl tt87 rfl (λ_=>rfl) (λ_=>rfl) (λ_=>rfl) aMj (by decide) (aEC))))
theorem aUA : EqT Tryz.prog 54 (α:=(Vector Int 3)) (eA 3 1 j64) (eqV (λa b=>a==b)) 2:=
 aOw (M:=3) hT tt3 Tryz.underlying54 (by kernel_rfl) (λ_=>rfl) rfl (λ_=>rfl) (λ_=>rfl) aHj
def aE.eq(a b:aE):Bool:=(λa b=>a==b) a.gN b.gN&&((λa b=>a==b) a.gQ b.gQ&&((λa b=>a==b) a.gM b.gM&&true))
theorem aFN : EqT Tryz.prog 45 (α:=aE) aE.enc aE.eq 2:=
 aAS (N:=3) Tryz.underlying45 (by kernel_rfl) (λ_=>rfl) (λa b=>pL hT a.gN b.gN (by decide) rfl tt3 rfl (λ_=>rfl) (λ_=>rfl) (λ_=>rfl) aHj (by decide) (pL hT a.gQ b.gQ (by decide) rfl tt3 rfl (λ_=>rfl) (λ_=>rfl) (λ_=>rfl) aHj (by decide) (pL hT a.gM b.gM (by decide) rfl tt3 rfl (λ_=>rfl) (λ_=>rfl) (λ_=>rfl) aHj (by decide) (aEC))))
def aNB : ByteArray:=(ByteArray.mk (List.toArray (jx (jx [0,1,2,2,3,3,3,3,4,4,4,4,4,4,4,4,5,5,5,5,5,5,5,5,5,5,5,5,5,5,5,5,6,6,6,6,6,6,6,6,6,6,6,6,6,6,6,6,6,6,6,6,6,6,6,6,6,6,6,6,6,6,6,6] [7,7,7,7,7,7,7,7,7,7,7,7,7,7,7,7,7,7,7,7,7,7,7,7,7,7,7,7,7,7,7,7,7,7,7,7,7,7,7,7,7,7,7,7,7,7,7,7,7,7,7,7,7,7,7,7,7,7,7,7,7,7,7,7]) (jx [8,8,8,8,8,8,8,8,8,8,8,8,8,8,8,8,8,8,8,8,8,8,8,8,8,8,8,8,8,8,8,8,8,8,8,8,8,8,8,8,8,8,8,8,8,8,8,8,8,8,8,8,8,8,8,8,8,8,8,8,8,8,8,8] [8,8,8,8,8,8,8,8,8,8,8,8,8,8,8,8,8,8,8,8,8,8,8,8,8,8,8,8,8,8,8,8,8,8,8,8,8,8,8,8,8,8,8,8,8,8,8,8,8,8,8,8,8,8,8,8,8,8,8,8,8,8,8,8]))))
def str_1 : ByteArray:=(ByteArray.mk #[117,109,98,114,97,32,115,97,109,112,108,101,32,115,116,114,101,97,109,32,118,49])
abbrev oO : AV:=(.st 8 [(j64 0),(j64 0),(.v (.slice none 0 0)),(.v (.slice none 0 0)),(.v (.slice none 0 0)),(.v (.slice none 0 0)),(.v (.slice none 0 0)),(.v (.slice none 0 0))])
abbrev aLJ : AV:=(.st 16 [(j64 0),(.st 3 [(j64 0),(j64 0),(j64 0)]),(.st 3 [(j64 0),(j64 0),(j64 0)]),(.st 3 [(j64 0),(j64 0),(j64 0)]),(.st 5 [(j64 0),(.arr 3 1 [(j64 0),(j64 0),(j64 0)]),(j64 0)]),(eB false)])
abbrev aLC : AV:=(.arr 32 4 [(.arr 4 1 [(j64 0),(j64 4),(j64 8),(j64 12)]),(.arr 4 1 [(j64 1),(j64 5),(j64 9),(j64 13)]),(.arr 4 1 [(j64 2),(j64 6),(j64 10),(j64 14)]),(.arr 4 1 [(j64 3),(j64 7),(j64 11),(j64 15)]),(.arr 4 1 [(j64 0),(j64 5),(j64 10),(j64 15)]),(.arr 4 1 [(j64 1),(j64 6),(j64 11),(j64 12)]),(.arr 4 1 [(j64 2),(j64 7),(j64 8),(j64 13)]),(.arr 4 1 [(j64 3),(j64 4),(j64 9),(j64 14)])])
abbrev aO6 : AV:=(.st 8 [(.st 3 [(j64 0),(j64 0),(j64 0)]),(eB false),(eB false),(.st 3 [(j64 0),(j64 0),(j64 0)])])
abbrev aOo : AV:=(.st 7 [(.st 3 [(j64 0),(j64 0),(j64 0)]),(.st 3 [(j64 0),(j64 0),(j64 0)]),(eB false)])
abbrev cv_6 : AV:=(.st 68 [(.st 3 [(k32 0),(k32 0),(k32 0)]),(eB false),(eA 64 1 k8 (Vector.replicate 64 0))])
abbrev cv_7 : AV:=(.st 9 [(.st 3 [(j64 0),(j64 0),(j64 0)]),(j64 0),(j64 0),(.st 3 [(j64 0),(j64 0),(j64 0)]),(j64 0)])
abbrev cv_8 : AV:=(.st 26 [(.st 7 [(.st 3 [(j64 0),(j64 0),(j64 0)]),(.st 3 [(j64 0),(j64 0),(j64 0)]),(j64 0)]),(.ref 0 [] 0),(.ref 4 [] 0),(.st 3 [(j64 4294967296),(j64 4294967296),(j64 4294967296)]),(.st 3 [(j64 0),(j64 0),(j64 0)]),(j64 0),(eB false),(.st 9 [(.st 3 [(j64 0),(j64 0),(j64 0)]),(j64 0),(j64 0),(.st 3 [(j64 0),(j64 0),(j64 0)]),(j64 (-1))])])
abbrev cv_9 : AV:=(.st 10 [(.st 3 [(j64 0),(j64 0),(j64 0)]),(.st 3 [(j64 0),(j64 0),(j64 0)]),(j64 0),(j64 0),(j64 0),(j64 0)])
end Go.UK
