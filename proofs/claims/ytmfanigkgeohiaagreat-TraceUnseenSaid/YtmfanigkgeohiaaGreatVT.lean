/- A part of the proof: what the functions of the program compute. -/
import Derived.Test.YtmfanigkgeohiaaGreatLib13
import Derived.Test.YtmfanigkgeohiaaGreatChecked
namespace Go.UK
open Go Go.Proofs
set_option maxRecDepth 20000
set_option maxHeartbeats 40000000
set_option linter.all false
instance : cN:=⟨⟨[],[(88, "Any",289),(88, "Nearest",290),(91, "Any",301),(91, "Nearest",302),(309, "umbra/lamp.comes",308),(313, "umbra/lamp.comes",309)]⟩⟩
structure aC where
 gX:Int
 gY:Int
 gZ:Int
def aC.enc (s:aC):AV := .st 3 [(j64 s.gX),(j64 s.gY),(j64 s.gZ)]
structure aE where
 gP:(Vector aC 3)
 gUv:(Vector (Vector Int 2) 3)
 gC1:Int
 gA6:Int
 gB9:Int
 gB1:Int
def aE.enc (s:aE):AV := .st 19 [(eA 9 3 aC.enc s.gP),(eA 6 2 (eA 2 1 j64) s.gUv),(j64 s.gC1),(j64 s.gA6),(j64 s.gB9),(k8 s.gB1)]
structure aQ where
 gJ:Int
 gB6:(Vector Int 3)
 gD6:Int
def aQ.enc (s:aQ):AV := .st 5 [(j64 s.gJ),(eA 3 1 j64 s.gB6),(j64 s.gD6)]
structure aD where
 gG:Int
 gA7:(List (Vector Int 3))
def aD.enc (s:aD):AV := .st 2 [(j64 s.gG),(eL 3 (eA 3 1 j64) s.gA7)]
structure aT where
 gJ:Int
 gB6:(Vector Int 3)
 gAt:aC
 gU:aC
 gV:aC
def aT.enc (s:aT):AV := .st 13 [(j64 s.gJ),(eA 3 1 j64 s.gB6),(aC.enc s.gAt),(aC.enc s.gU),(aC.enc s.gV)]
structure aF where
 gE:(List aE)
 gA5:(List aQ)
 gR:(List aD)
 gF:(List aT)
 gA1:(List Int)
 gA2:(List Int)
 gA8:Int
 gA9:Int
 gTo:Int
def aF.enc (s:aF):AV := .st 9 [(eL 19 aE.enc s.gE),(eL 5 aQ.enc s.gA5),(eL 2 aD.enc s.gR),(eL 13 aT.enc s.gF),(eL 1 k64 s.gA1),(eL 1 k32 s.gA2),(k32 s.gA8),(k32 s.gA9),(k32 s.gTo)]
structure bP where
 gB0:aC
 gB4:aC
 gUp:aC
 gE2:aC
 gC9:Int
 gD5:Int
def bP.enc (s:bP):AV := .st 14 [(aC.enc s.gB0),(aC.enc s.gB4),(aC.enc s.gUp),(aC.enc s.gE2),(j64 s.gC9),(j64 s.gD5)]
structure aI where
 gW:Int
 gH:Int
 gD0:Int
 gN:Int
 gA3:Int
 gS:Int
 gD8:bP
 gB2:Bool
def aI.enc (s:aI):AV := .st 21 [(j64 s.gW),(j64 s.gH),(j64 s.gD0),(j64 s.gN),(j64 s.gA3),(k64 s.gS),(bP.enc s.gD8),(eB s.gB2)]
structure aP where
 gHi:Int
 gLo:Int
def aP.enc (s:aP):AV := .st 2 [(j64 s.gHi),(k64 s.gLo)]
structure aB where
 gX:Int
 gY:Int
 gZ:Int
def aB.enc (s:aB):AV := .st 3 [(j64 s.gX),(j64 s.gY),(j64 s.gZ)]
structure bC where
 gLo:aC
 gHi:aC
 gB3:Int
 gB4:Int
 gC4:Int
 gC8:Int
def bC.enc (s:bC):AV := .st 10 [(aC.enc s.gLo),(aC.enc s.gHi),(j64 s.gB3),(j64 s.gB4),(j64 s.gC4),(j64 s.gC8)]
structure bA where
 gA4:Int
 gB:Int
 gA0:Int
 gD9:Int
def bA.enc (s:bA):AV := .st 4 [(j64 s.gA4),(j64 s.gB),(j64 s.gA0),(j64 s.gD9)]
structure bE where
 gn:Int
 glo:aC
 ghi:aC
def bE.enc (s:bE):AV := .st 7 [(j64 s.gn),(aC.enc s.glo),(aC.enc s.ghi)]
structure aY where
 gO:(List bC)
 gC0:(List Int)
def aY.enc (s:aY):AV := .st 2 [(eL 10 bC.enc s.gO),(eL 1 j64 s.gC0)]
structure aM where
 gQ:aY
 gA:Bool
 gl:(List aE)
 gD7:Int
def aM.enc (s:aM):AV := .st 5 [(aY.enc s.gQ),(eB s.gA),(eL 19 aE.enc s.gl),(j64 s.gD7)]
structure aJ where
 gK:Int
 gB7:Int
 gL:Int
def aJ.enc (s:aJ):AV := .st 3 [(j64 s.gK),(j64 s.gB7),(j64 s.gL)]
structure aH where
 go:aC
 gd:aC
 gC5:Int
def aH.enc (s:aH):AV := .st 7 [(aC.enc s.go),(aC.enc s.gd),(j64 s.gC5)]
structure aG where
 gB6:aB
 gD2:Int
 gN:Int
 gD3:aB
 gB9:Int
def aG.enc (s:aG):AV := .st 9 [(aB.enc s.gB6),(j64 s.gD2),(j64 s.gN),(aB.enc s.gD3),(j64 s.gB9)]
structure bK where
 gE3:Int
 gE4:Int
 gE5:Int
def bK.enc (s:bK):AV := .st 3 [(k32 s.gE3),(k32 s.gE4),(k32 s.gE5)]
structure aU where
 gE6:bK
 gis:Bool
 gE7:(Vector Int 64)
def aU.enc (s:aU):AV := .st 68 [(bK.enc s.gE6),(eB s.gis),(eA 64 1 k8 s.gE7)]
structure aA where
 gD1:aU
 gA:Bool
 gC:Int
 gB:Int
 gD:Int
def aA.enc (s:aA):AV := .st 72 [(aU.enc s.gD1),(eB s.gA),(k64 s.gC),(j64 s.gB),(j64 s.gD)]
structure aW where
 gn:Int
 gd:Int
def aW.enc (s:aW):AV := .st 2 [(j64 s.gn),(j64 s.gd)]
structure aL where
 gT:Int
 gM:Int
 gU:Int
 gV:Int
def aL.enc (s:aL):AV := .st 4 [(j64 s.gT),(j64 s.gM),(j64 s.gU),(j64 s.gV)]
structure aR where
 gi:Int
 gat:aC
 gn:aB
 gc:aB
 gI:aQ
 gB5:Bool
def aR.enc (s:aR):AV := .st 16 [(j64 s.gi),(aC.enc s.gat),(aB.enc s.gn),(aB.enc s.gc),(aQ.enc s.gI),(eB s.gB5)]
structure uG where
 gE0:aC
def uG.enc (s:uG):AV := .st 3 [(aC.enc s.gE0)]
structure uS where
 gE8:aC
def uS.enc (s:uS):AV := .st 3 [(aC.enc s.gE8)]
structure jF where
 gC6:aC
 gC7:Bool
 gC2:Bool
 gC3:aB
def jF.enc (s:jF):AV := .st 8 [(aC.enc s.gC6),(eB s.gC7),(eB s.gC2),(aB.enc s.gC3)]
structure cR where
 gD4:aC
 gC3:aB
 gB8:Bool
def cR.enc (s:cR):AV := .st 7 [(aC.enc s.gD4),(aB.enc s.gC3),(eB s.gB8)]
structure jN where
 gn:Int
def jN.enc (s:jN):AV := .st 1 [(j64 s.gn)]
structure aK where
 gE1:jN
 gA:Bool
 gl:(List aE)
def aK.enc (s:aK):AV := .st 3 [(jN.enc s.gE1),(eB s.gA),(eL 19 aE.enc s.gl)]
def tbl : TypeId→Option TI
 | 2=>some ⟨1,8,(.v (.int .i64 0)),.int .i64⟩
 | 3=>some ⟨1,8,(.v (.int .i64 0)),.int .i64⟩
 | 4=>some ⟨1,1,(.v (.bool false)),.bool⟩
 | 5=>some ⟨1,1,(.v (.int .u8 0)),.int .u8⟩
 | 9=>some ⟨1,16,(.v (.string (ByteArray.mk #[]))),.str⟩
 | 22=>some ⟨1,24,(.v (.slice none 0 0)),.sl 61⟩
 | 23=>some ⟨1,24,(.v (.slice none 0 0)),.sl 56⟩
 | 24=>some ⟨1,24,(.v (.slice none 0 0)),.sl 64⟩
 | 25=>some ⟨1,24,(.v (.slice none 0 0)),.sl 115⟩
 | 26=>some ⟨1,24,(.v (.slice none 0 0)),.sl 31⟩
 | 27=>some ⟨1,24,(.v (.slice none 0 0)),.sl 28⟩
 | 28=>some ⟨1,4,(.v (.int .u32 0)),.int .u32⟩
 | 30=>some ⟨9,160,(.st 9 [(.v (.slice none 0 0)),(.v (.slice none 0 0)),(.v (.slice none 0 0)),(.v (.slice none 0 0)),(.v (.slice none 0 0)),(.v (.slice none 0 0)),(.v (.int .u32 0)),(.v (.int .u32 0)),(.v (.int .u32 0))]),.st [(0,22),(1,23),(2,24),(3,25),(4,26),(5,27),(6,28),(7,28),(8,28)]⟩
 | 31=>some ⟨1,8,(.v (.int .u64 0)),.int .u64⟩
 | 33=>some ⟨3,24,(.st 3 [(.v (.int .i64 0)),(.v (.int .i64 0)),(.v (.int .i64 0))]),.st [(0,3),(1,3),(2,3)]⟩
 | 35=>some ⟨14,112,(.st 14 [(.st 3 [(.v (.int .i64 0)),(.v (.int .i64 0)),(.v (.int .i64 0))]),(.st 3 [(.v (.int .i64 0)),(.v (.int .i64 0)),(.v (.int .i64 0))]),(.st 3 [(.v (.int .i64 0)),(.v (.int .i64 0)),(.v (.int .i64 0))]),(.st 3 [(.v (.int .i64 0)),(.v (.int .i64 0)),(.v (.int .i64 0))]),(.v (.int .i64 0)),(.v (.int .i64 0))]),.st [(0,33),(3,33),(6,33),(9,33),(12,3),(13,3)]⟩
 | 37=>some ⟨21,168,(.st 21 [(.v (.int .i64 0)),(.v (.int .i64 0)),(.v (.int .i64 0)),(.v (.int .i64 0)),(.v (.int .i64 0)),(.v (.int .u64 0)),(.st 14 [(.st 3 [(.v (.int .i64 0)),(.v (.int .i64 0)),(.v (.int .i64 0))]),(.st 3 [(.v (.int .i64 0)),(.v (.int .i64 0)),(.v (.int .i64 0))]),(.st 3 [(.v (.int .i64 0)),(.v (.int .i64 0)),(.v (.int .i64 0))]),(.st 3 [(.v (.int .i64 0)),(.v (.int .i64 0)),(.v (.int .i64 0))]),(.v (.int .i64 0)),(.v (.int .i64 0))]),(.v (.bool false))]),.st [(0,3),(1,3),(2,3),(3,3),(4,3),(5,31),(6,35),(20,4)]⟩
 | 38=>some ⟨3,24,(.arr 3 1 (List.replicate 3 (.v (.int .i64 0)))),.arr 3 3⟩
 | 40=>some ⟨1,8,(.v (.pointer none)),.ptr 78⟩
 | 41=>some ⟨1,8,(.v (.int .i64 0)),.int .i64⟩
 | 45=>some ⟨1,8,(.v (.int .i64 0)),.int .i64⟩
 | 47=>some ⟨3,24,(.st 3 [(.v (.int .i64 0)),(.v (.int .i64 0)),(.v (.int .i64 0))]),.st [(0,45),(1,45),(2,45)]⟩
 | 49=>some ⟨9,72,(.st 9 [(.st 3 [(.v (.int .i64 0)),(.v (.int .i64 0)),(.v (.int .i64 0))]),(.v (.int .i64 0)),(.v (.int .i64 0)),(.st 3 [(.v (.int .i64 0)),(.v (.int .i64 0)),(.v (.int .i64 0))]),(.v (.int .i64 0))]),.st [(0,47),(3,3),(4,45),(5,47),(8,3)]⟩
 | 56=>some ⟨5,40,(.st 5 [(.v (.int .i64 0)),(.arr 3 1 (List.replicate 3 (.v (.int .i64 0)))),(.v (.int .i64 0))]),.st [(0,3),(1,38),(4,3)]⟩
 | 57=>some ⟨9,72,(.arr 9 3 (List.replicate 3 (.st 3 [(.v (.int .i64 0)),(.v (.int .i64 0)),(.v (.int .i64 0))]))),.arr 3 33⟩
 | 58=>some ⟨2,16,(.arr 2 1 (List.replicate 2 (.v (.int .i64 0)))),.arr 2 3⟩
 | 59=>some ⟨6,48,(.arr 6 2 (List.replicate 3 (.arr 2 1 (List.replicate 2 (.v (.int .i64 0)))))),.arr 3 58⟩
 | 61=>some ⟨19,152,(.st 19 [(.arr 9 3 (List.replicate 3 (.st 3 [(.v (.int .i64 0)),(.v (.int .i64 0)),(.v (.int .i64 0))]))),(.arr 6 2 (List.replicate 3 (.arr 2 1 (List.replicate 2 (.v (.int .i64 0)))))),(.v (.int .i64 0)),(.v (.int .i64 0)),(.v (.int .i64 0)),(.v (.int .u8 0))]),.st [(0,57),(9,59),(15,3),(16,3),(17,3),(18,5)]⟩
 | 62=>some ⟨1,24,(.v (.slice none 0 0)),.sl 38⟩
 | 64=>some ⟨2,32,(.st 2 [(.v (.int .i64 0)),(.v (.slice none 0 0))]),.st [(0,3),(1,62)]⟩
 | 71=>some ⟨3,24,(.st 3 [(.v (.int .i64 0)),(.v (.int .i64 0)),(.v (.int .i64 0))]),.st [(0,3),(1,3),(2,3)]⟩
 | 75=>some ⟨1,16,(.v .nilIface),.other⟩
 | 76=>some ⟨1,24,(.v (.slice none 0 0)),.sl 24⟩
 | 78=>some ⟨38,416,(.st 38 [(.st 9 [(.v (.slice none 0 0)),(.v (.slice none 0 0)),(.v (.slice none 0 0)),(.v (.slice none 0 0)),(.v (.slice none 0 0)),(.v (.slice none 0 0)),(.v (.int .u32 0)),(.v (.int .u32 0)),(.v (.int .u32 0))]),(.st 21 [(.v (.int .i64 0)),(.v (.int .i64 0)),(.v (.int .i64 0)),(.v (.int .i64 0)),(.v (.int .i64 0)),(.v (.int .u64 0)),(.st 14 [(.st 3 [(.v (.int .i64 0)),(.v (.int .i64 0)),(.v (.int .i64 0))]),(.st 3 [(.v (.int .i64 0)),(.v (.int .i64 0)),(.v (.int .i64 0))]),(.st 3 [(.v (.int .i64 0)),(.v (.int .i64 0)),(.v (.int .i64 0))]),(.st 3 [(.v (.int .i64 0)),(.v (.int .i64 0)),(.v (.int .i64 0))]),(.v (.int .i64 0)),(.v (.int .i64 0))]),(.v (.bool false))]),(.v .nilIface),(.v (.slice none 0 0)),(.st 3 [(.v (.int .i64 0)),(.v (.int .i64 0)),(.v (.int .i64 0))]),(.st 3 [(.v (.int .i64 0)),(.v (.int .i64 0)),(.v (.int .i64 0))])]),.st [(0,30),(9,37),(30,75),(31,76),(32,47),(35,71)]⟩
 | 88=>some ⟨1,8,(.v (.pointer none)),.ptr 157⟩
 | 91=>some ⟨1,8,(.v (.pointer none)),.ptr 166⟩
 | 96=>some ⟨1,8,(.v (.pointer none)),.ptr 173⟩
 | 99=>some ⟨7,56,(.st 7 [(.st 3 [(.v (.int .i64 0)),(.v (.int .i64 0)),(.v (.int .i64 0))]),(.st 3 [(.v (.int .i64 0)),(.v (.int .i64 0)),(.v (.int .i64 0))]),(.v (.int .i64 0))]),.st [(0,33),(3,33),(6,3)]⟩
 | 101=>some ⟨26,208,(.st 26 [(.st 7 [(.st 3 [(.v (.int .i64 0)),(.v (.int .i64 0)),(.v (.int .i64 0))]),(.st 3 [(.v (.int .i64 0)),(.v (.int .i64 0)),(.v (.int .i64 0))]),(.v (.int .i64 0))]),(.v (.pointer none)),(.v (.pointer none)),(.st 3 [(.v (.int .i64 0)),(.v (.int .i64 0)),(.v (.int .i64 0))]),(.st 3 [(.v (.int .i64 0)),(.v (.int .i64 0)),(.v (.int .i64 0))]),(.v (.int .i64 0)),(.v (.bool false)),(.st 9 [(.st 3 [(.v (.int .i64 0)),(.v (.int .i64 0)),(.v (.int .i64 0))]),(.v (.int .i64 0)),(.v (.int .i64 0)),(.st 3 [(.v (.int .i64 0)),(.v (.int .i64 0)),(.v (.int .i64 0))]),(.v (.int .i64 0))])]),.st [(0,99),(7,40),(8,96),(9,47),(12,47),(15,3),(16,4),(17,49)]⟩
 | 102=>some ⟨4,16,(.arr 4 1 (List.replicate 4 (.v (.int .u32 0)))),.arr 4 28⟩
 | 115=>some ⟨13,104,(.st 13 [(.v (.int .i64 0)),(.arr 3 1 (List.replicate 3 (.v (.int .i64 0)))),(.st 3 [(.v (.int .i64 0)),(.v (.int .i64 0)),(.v (.int .i64 0))]),(.st 3 [(.v (.int .i64 0)),(.v (.int .i64 0)),(.v (.int .i64 0))]),(.st 3 [(.v (.int .i64 0)),(.v (.int .i64 0)),(.v (.int .i64 0))])]),.st [(0,3),(1,38),(4,33),(7,33),(10,33)]⟩
 | 129=>some ⟨4,32,(.st 4 [(.v (.int .i64 0)),(.v (.int .i64 0)),(.v (.int .i64 0)),(.v (.int .i64 0))]),.st [(0,3),(1,3),(2,3),(3,3)]⟩
 | 142=>some ⟨2,8,(.arr 2 1 (List.replicate 2 (.v (.int .u32 0)))),.arr 2 28⟩
 | 144=>some ⟨7,56,(.st 7 [(.st 3 [(.v (.int .i64 0)),(.v (.int .i64 0)),(.v (.int .i64 0))]),(.st 3 [(.v (.int .i64 0)),(.v (.int .i64 0)),(.v (.int .i64 0))]),(.v (.bool false))]),.st [(0,33),(3,47),(6,4)]⟩
 | 148=>some ⟨1,24,(.v (.slice none 0 0)),.sl 47⟩
 | 151=>some ⟨1,8,(.v .nilFunc),.other⟩
 | 155=>some ⟨1,8,(.st 1 [(.v (.int .i64 0))]),.st [(0,3)]⟩
 | 157=>some ⟨3,40,(.st 3 [(.st 1 [(.v (.int .i64 0))]),(.v (.bool false)),(.v (.slice none 0 0))]),.st [(0,155),(1,4),(2,22)]⟩
 | 158=>some ⟨1,24,(.v (.slice none 0 0)),.sl 243⟩
 | 159=>some ⟨1,24,(.v (.slice none 0 0)),.sl 3⟩
 | 161=>some ⟨2,48,(.st 2 [(.v (.slice none 0 0)),(.v (.slice none 0 0))]),.st [(0,158),(1,159)]⟩
 | 166=>some ⟨5,88,(.st 5 [(.st 2 [(.v (.slice none 0 0)),(.v (.slice none 0 0))]),(.v (.bool false)),(.v (.slice none 0 0)),(.v (.int .i64 0))]),.st [(0,161),(2,4),(3,22),(4,3)]⟩
 | 168=>some ⟨3,12,(.st 3 [(.v (.int .u32 0)),(.v (.int .u32 0)),(.v (.int .u32 0))]),.st [(0,28),(1,28),(2,28)]⟩
 | 169=>some ⟨64,64,(.arr 64 1 (List.replicate 64 (.v (.int .u8 0)))),.arr 64 5⟩
 | 171=>some ⟨68,80,(.st 68 [(.st 3 [(.v (.int .u32 0)),(.v (.int .u32 0)),(.v (.int .u32 0))]),(.v (.bool false)),(.arr 64 1 (List.replicate 64 (.v (.int .u8 0))))]),.st [(0,168),(3,4),(4,169)]⟩
 | 173=>some ⟨72,112,(.st 72 [(.st 68 [(.st 3 [(.v (.int .u32 0)),(.v (.int .u32 0)),(.v (.int .u32 0))]),(.v (.bool false)),(.arr 64 1 (List.replicate 64 (.v (.int .u8 0))))]),(.v (.bool false)),(.v (.int .u64 0)),(.v (.int .i64 0)),(.v (.int .i64 0))]),.st [(0,171),(68,4),(69,31),(70,3),(71,3)]⟩
 | 184=>some ⟨16,128,(.st 16 [(.v (.int .i64 0)),(.st 3 [(.v (.int .i64 0)),(.v (.int .i64 0)),(.v (.int .i64 0))]),(.st 3 [(.v (.int .i64 0)),(.v (.int .i64 0)),(.v (.int .i64 0))]),(.st 3 [(.v (.int .i64 0)),(.v (.int .i64 0)),(.v (.int .i64 0))]),(.st 5 [(.v (.int .i64 0)),(.arr 3 1 (List.replicate 3 (.v (.int .i64 0)))),(.v (.int .i64 0))]),(.v (.bool false))]),.st [(0,3),(1,33),(4,47),(7,47),(10,56),(15,4)]⟩
 | 196=>some ⟨12,12,(.arr 12 1 (List.replicate 12 (.v (.int .u8 0)))),.arr 12 5⟩
 | 198=>some ⟨32,32,(.arr 32 1 (List.replicate 32 (.v (.int .u8 0)))),.arr 32 5⟩
 | 201=>some ⟨1,24,(.v (.slice none 0 0)),.sl 5⟩
 | 214=>some ⟨1,24,(.v (.slice none 0 0)),.sl 45⟩
 | 228=>some ⟨8,56,(.st 8 [(.st 3 [(.v (.int .i64 0)),(.v (.int .i64 0)),(.v (.int .i64 0))]),(.v (.bool false)),(.v (.bool false)),(.st 3 [(.v (.int .i64 0)),(.v (.int .i64 0)),(.v (.int .i64 0))])]),.st [(0,33),(3,4),(4,4),(5,47)]⟩
 | 241=>some ⟨1,24,(.v (.slice none 0 0)),.sl 33⟩
 | 243=>some ⟨10,80,(.st 10 [(.st 3 [(.v (.int .i64 0)),(.v (.int .i64 0)),(.v (.int .i64 0))]),(.st 3 [(.v (.int .i64 0)),(.v (.int .i64 0)),(.v (.int .i64 0))]),(.v (.int .i64 0)),(.v (.int .i64 0)),(.v (.int .i64 0)),(.v (.int .i64 0))]),.st [(0,33),(3,33),(6,3),(7,3),(8,3),(9,3)]⟩
 | 245=>some ⟨4,32,(.st 4 [(.v (.int .i64 0)),(.v (.int .i64 0)),(.v (.int .i64 0)),(.v (.int .i64 0))]),.st [(0,3),(1,3),(2,3),(3,3)]⟩
 | 246=>some ⟨1,24,(.v (.slice none 0 0)),.sl 245⟩
 | 253=>some ⟨2,16,(.st 2 [(.v (.int .i64 0)),(.v (.int .u64 0))]),.st [(0,2),(1,31)]⟩
 | 264=>some ⟨1,8,(.v .nilFunc),.other⟩
 | 266=>some ⟨16,64,(.arr 16 1 (List.replicate 16 (.v (.int .u32 0)))),.arr 16 28⟩
 | 269=>some ⟨1,8,(.v (.int .u64 0)),.int .u64⟩
 | 309=>some ⟨3,24,(.st 3 [(.st 3 [(.v (.int .i64 0)),(.v (.int .i64 0)),(.v (.int .i64 0))])]),.st [(0,33)]⟩
 | 313=>some ⟨3,24,(.st 3 [(.st 3 [(.v (.int .i64 0)),(.v (.int .i64 0)),(.v (.int .i64 0))])]),.st [(0,33)]⟩
 | 329=>some ⟨7,56,(.st 7 [(.v (.int .i64 0)),(.st 3 [(.v (.int .i64 0)),(.v (.int .i64 0)),(.v (.int .i64 0))]),(.st 3 [(.v (.int .i64 0)),(.v (.int .i64 0)),(.v (.int .i64 0))])]),.st [(0,3),(1,33),(4,33)]⟩
 | 330=>some ⟨56,448,(.arr 56 7 (List.replicate 8 (.st 7 [(.v (.int .i64 0)),(.st 3 [(.v (.int .i64 0)),(.v (.int .i64 0)),(.v (.int .i64 0))]),(.st 3 [(.v (.int .i64 0)),(.v (.int .i64 0)),(.v (.int .i64 0))])]))),.arr 8 329⟩
 | 332=>some ⟨4,32,(.arr 4 1 (List.replicate 4 (.v (.int .i64 0)))),.arr 4 3⟩
 | 333=>some ⟨32,256,(.arr 32 4 (List.replicate 8 (.arr 4 1 (List.replicate 4 (.v (.int .i64 0)))))),.arr 8 332⟩
 | 339=>some ⟨12,96,(.arr 12 3 (List.replicate 4 (.arr 3 1 (List.replicate 3 (.v (.int .i64 0)))))),.arr 4 38⟩
 | 340=>some ⟨1,24,(.v (.slice none 0 0)),.sl 253⟩
 | 365=>some ⟨2,16,(.st 2 [(.v (.int .i64 0)),(.v (.int .i64 0))]),.st [(0,3),(1,3)]⟩
 | 369=>some ⟨12,96,(.arr 12 4 (List.replicate 3 (.arr 4 1 (List.replicate 4 (.v (.int .i64 0)))))),.arr 3 332⟩
 | _=>none
theorem hT : TOK Tryz.prog tbl:=by
 intro t i h
 unfold tbl at h
 split at h
 ·cases h;exact ⟨⟨_,_,rfl,rfl,rfl,rfl,rfl,rfl⟩,⟨_,rfl,rfl⟩,rfl⟩
 ·cases h;exact ⟨⟨_,_,rfl,rfl,rfl,rfl,rfl,rfl⟩,⟨_,rfl,rfl⟩,rfl⟩
 ·cases h;exact ⟨⟨_,_,rfl,rfl,rfl,rfl,rfl,rfl⟩,⟨_,rfl,rfl⟩,rfl⟩
 ·cases h;exact ⟨⟨_,_,rfl,rfl,rfl,rfl,rfl,rfl⟩,⟨_,rfl,rfl⟩,rfl⟩
 ·cases h;exact ⟨⟨_,_,rfl,rfl,rfl,rfl,rfl,rfl⟩,⟨_,rfl,rfl⟩,rfl⟩
 ·cases h;exact ⟨⟨_,_,rfl,rfl,rfl,rfl,rfl,rfl⟩,⟨_,rfl,rfl⟩,rfl⟩
 ·cases h;exact ⟨⟨_,_,rfl,rfl,rfl,rfl,rfl,rfl⟩,⟨_,rfl,rfl⟩,rfl⟩
 ·cases h;exact ⟨⟨_,_,rfl,rfl,rfl,rfl,rfl,rfl⟩,⟨_,rfl,rfl⟩,rfl⟩
 ·cases h;exact ⟨⟨_,_,rfl,rfl,rfl,rfl,rfl,rfl⟩,⟨_,rfl,rfl⟩,rfl⟩
 ·cases h;exact ⟨⟨_,_,rfl,rfl,rfl,rfl,rfl,rfl⟩,⟨_,rfl,rfl⟩,rfl⟩
 ·cases h;exact ⟨⟨_,_,rfl,rfl,rfl,rfl,rfl,rfl⟩,⟨_,rfl,rfl⟩,rfl⟩
 ·cases h;exact ⟨⟨_,_,rfl,rfl,rfl,rfl,rfl,rfl⟩,⟨_,rfl,rfl⟩,rfl⟩
 ·cases h;exact ⟨⟨_,_,rfl,rfl,rfl,rfl,rfl,rfl⟩,⟨_,rfl,⟨_,rfl,rfl⟩⟩,rfl⟩
 ·cases h;exact ⟨⟨_,_,rfl,rfl,rfl,rfl,rfl,rfl⟩,⟨_,rfl,rfl⟩,rfl⟩
 ·cases h;exact ⟨⟨_,_,rfl,rfl,rfl,rfl,rfl,rfl⟩,⟨_,rfl,⟨_,rfl,rfl⟩⟩,rfl⟩
 ·cases h;exact ⟨⟨_,_,rfl,rfl,rfl,rfl,rfl,rfl⟩,⟨_,rfl,⟨_,rfl,rfl⟩⟩,rfl⟩
 ·cases h;exact ⟨⟨_,_,rfl,rfl,rfl,rfl,rfl,rfl⟩,⟨_,rfl,⟨_,rfl,rfl⟩⟩,rfl⟩
 ·cases h;exact ⟨⟨_,_,rfl,rfl,rfl,rfl,rfl,rfl⟩,⟨_,rfl,rfl⟩,rfl⟩
 ·cases h;exact ⟨⟨_,_,rfl,rfl,rfl,rfl,rfl,rfl⟩,⟨_,rfl,rfl⟩,rfl⟩
 ·cases h;exact ⟨⟨_,_,rfl,rfl,rfl,rfl,rfl,rfl⟩,⟨_,rfl,rfl⟩,rfl⟩
 ·cases h;exact ⟨⟨_,_,rfl,rfl,rfl,rfl,rfl,rfl⟩,⟨_,rfl,rfl⟩,rfl⟩
 ·cases h;exact ⟨⟨_,_,rfl,rfl,rfl,rfl,rfl,rfl⟩,⟨_,rfl,⟨_,rfl,rfl⟩⟩,rfl⟩
 ·cases h;exact ⟨⟨_,_,rfl,rfl,rfl,rfl,rfl,rfl⟩,⟨_,rfl,⟨_,rfl,rfl⟩⟩,rfl⟩
 ·cases h;exact ⟨⟨_,_,rfl,rfl,rfl,rfl,rfl,rfl⟩,⟨_,rfl,⟨_,rfl,rfl⟩⟩,rfl⟩
 ·cases h;exact ⟨⟨_,_,rfl,rfl,rfl,rfl,rfl,rfl⟩,⟨_,rfl,rfl⟩,rfl⟩
 ·cases h;exact ⟨⟨_,_,rfl,rfl,rfl,rfl,rfl,rfl⟩,⟨_,rfl,rfl⟩,rfl⟩
 ·cases h;exact ⟨⟨_,_,rfl,rfl,rfl,rfl,rfl,rfl⟩,⟨_,rfl,rfl⟩,rfl⟩
 ·cases h;exact ⟨⟨_,_,rfl,rfl,rfl,rfl,rfl,rfl⟩,⟨_,rfl,⟨_,rfl,rfl⟩⟩,rfl⟩
 ·cases h;exact ⟨⟨_,_,rfl,rfl,rfl,rfl,rfl,rfl⟩,⟨_,rfl,rfl⟩,rfl⟩
 ·cases h;exact ⟨⟨_,_,rfl,rfl,rfl,rfl,rfl,rfl⟩,⟨_,rfl,⟨_,rfl,rfl⟩⟩,rfl⟩
 ·cases h;exact ⟨⟨_,_,rfl,rfl,rfl,rfl,rfl,rfl⟩,⟨_,rfl,⟨_,rfl,rfl⟩⟩,rfl⟩
 ·cases h;exact ⟨⟨_,_,rfl,rfl,rfl,rfl,rfl,rfl⟩,⟨_,rfl,(by unfold TK.fits;exact ⟨(by intro fs h;cases h),(by intro n e h;cases h)⟩)⟩,rfl⟩
 ·cases h;exact ⟨⟨_,_,rfl,rfl,rfl,rfl,rfl,rfl⟩,⟨_,rfl,rfl⟩,rfl⟩
 ·cases h;exact ⟨⟨_,_,rfl,rfl,rfl,rfl,rfl,rfl⟩,⟨_,rfl,⟨_,rfl,rfl⟩⟩,rfl⟩
 ·cases h;exact ⟨⟨_,_,rfl,rfl,rfl,rfl,rfl,rfl⟩,⟨_,rfl,rfl⟩,rfl⟩
 ·cases h;exact ⟨⟨_,_,rfl,rfl,rfl,rfl,rfl,rfl⟩,⟨_,rfl,rfl⟩,rfl⟩
 ·cases h;exact ⟨⟨_,_,rfl,rfl,rfl,rfl,rfl,rfl⟩,⟨_,rfl,rfl⟩,rfl⟩
 ·cases h;exact ⟨⟨_,_,rfl,rfl,rfl,rfl,rfl,rfl⟩,⟨_,rfl,⟨_,rfl,rfl⟩⟩,rfl⟩
 ·cases h;exact ⟨⟨_,_,rfl,rfl,rfl,rfl,rfl,rfl⟩,⟨_,rfl,⟨_,rfl,rfl⟩⟩,rfl⟩
 ·cases h;exact ⟨⟨_,_,rfl,rfl,rfl,rfl,rfl,rfl⟩,⟨_,rfl,rfl⟩,rfl⟩
 ·cases h;exact ⟨⟨_,_,rfl,rfl,rfl,rfl,rfl,rfl⟩,⟨_,rfl,⟨_,rfl,rfl⟩⟩,rfl⟩
 ·cases h;exact ⟨⟨_,_,rfl,rfl,rfl,rfl,rfl,rfl⟩,⟨_,rfl,⟨_,rfl,rfl⟩⟩,rfl⟩
 ·cases h;exact ⟨⟨_,_,rfl,rfl,rfl,rfl,rfl,rfl⟩,⟨_,rfl,rfl⟩,rfl⟩
 ·cases h;exact ⟨⟨_,_,rfl,rfl,rfl,rfl,rfl,rfl⟩,⟨_,rfl,⟨_,rfl,rfl⟩⟩,rfl⟩
 ·cases h;exact ⟨⟨_,_,rfl,rfl,rfl,rfl,rfl,rfl⟩,⟨_,rfl,rfl⟩,rfl⟩
 ·cases h;exact ⟨⟨_,_,rfl,rfl,rfl,rfl,rfl,rfl⟩,⟨_,rfl,(by unfold TK.fits;exact ⟨(by intro fs h;cases h),(by intro n e h;cases h)⟩)⟩,rfl⟩
 ·cases h;exact ⟨⟨_,_,rfl,rfl,rfl,rfl,rfl,rfl⟩,⟨_,rfl,⟨_,rfl,rfl⟩⟩,rfl⟩
 ·cases h;exact ⟨⟨_,_,rfl,rfl,rfl,rfl,rfl,rfl⟩,⟨_,rfl,⟨_,rfl,rfl⟩⟩,rfl⟩
 ·cases h;exact ⟨⟨_,_,rfl,rfl,rfl,rfl,rfl,rfl⟩,⟨_,rfl,rfl⟩,rfl⟩
 ·cases h;exact ⟨⟨_,_,rfl,rfl,rfl,rfl,rfl,rfl⟩,⟨_,rfl,rfl⟩,rfl⟩
 ·cases h;exact ⟨⟨_,_,rfl,rfl,rfl,rfl,rfl,rfl⟩,⟨_,rfl,⟨_,rfl,rfl⟩⟩,rfl⟩
 ·cases h;exact ⟨⟨_,_,rfl,rfl,rfl,rfl,rfl,rfl⟩,⟨_,rfl,⟨_,rfl,rfl⟩⟩,rfl⟩
 ·cases h;exact ⟨⟨_,_,rfl,rfl,rfl,rfl,rfl,rfl⟩,⟨_,rfl,⟨_,rfl,rfl⟩⟩,rfl⟩
 ·cases h;exact ⟨⟨_,_,rfl,rfl,rfl,rfl,rfl,rfl⟩,⟨_,rfl,rfl⟩,rfl⟩
 ·cases h;exact ⟨⟨_,_,rfl,rfl,rfl,rfl,rfl,rfl⟩,⟨_,rfl,⟨_,rfl,rfl⟩⟩,rfl⟩
 ·cases h;exact ⟨⟨_,_,rfl,rfl,rfl,rfl,rfl,rfl⟩,⟨_,rfl,⟨_,rfl,rfl⟩⟩,rfl⟩
 ·cases h;exact ⟨⟨_,_,rfl,rfl,rfl,rfl,rfl,rfl⟩,⟨_,rfl,⟨_,rfl,rfl⟩⟩,rfl⟩
 ·cases h;exact ⟨⟨_,_,rfl,rfl,rfl,rfl,rfl,rfl⟩,⟨_,rfl,rfl⟩,rfl⟩
 ·cases h;exact ⟨⟨_,_,rfl,rfl,rfl,rfl,rfl,rfl⟩,⟨_,rfl,rfl⟩,rfl⟩
 ·cases h;exact ⟨⟨_,_,rfl,rfl,rfl,rfl,rfl,rfl⟩,⟨_,rfl,rfl⟩,rfl⟩
 ·cases h;exact ⟨⟨_,_,rfl,rfl,rfl,rfl,rfl,rfl⟩,⟨_,rfl,rfl⟩,rfl⟩
 ·cases h;exact ⟨⟨_,_,rfl,rfl,rfl,rfl,rfl,rfl⟩,⟨_,rfl,⟨_,rfl,rfl⟩⟩,rfl⟩
 ·cases h;exact ⟨⟨_,_,rfl,rfl,rfl,rfl,rfl,rfl⟩,⟨_,rfl,rfl⟩,rfl⟩
 ·cases h;exact ⟨⟨_,_,rfl,rfl,rfl,rfl,rfl,rfl⟩,⟨_,rfl,⟨_,rfl,rfl⟩⟩,rfl⟩
 ·cases h;exact ⟨⟨_,_,rfl,rfl,rfl,rfl,rfl,rfl⟩,⟨_,rfl,⟨_,rfl,rfl⟩⟩,rfl⟩
 ·cases h;exact ⟨⟨_,_,rfl,rfl,rfl,rfl,rfl,rfl⟩,⟨_,rfl,rfl⟩,rfl⟩
 ·cases h;exact ⟨⟨_,_,rfl,rfl,rfl,rfl,rfl,rfl⟩,⟨_,rfl,⟨_,rfl,rfl⟩⟩,rfl⟩
 ·cases h;exact ⟨⟨_,_,rfl,rfl,rfl,rfl,rfl,rfl⟩,⟨_,rfl,(by unfold TK.fits;exact ⟨(by intro fs h;cases h),(by intro n e h;cases h)⟩)⟩,rfl⟩
 ·cases h;exact ⟨⟨_,_,rfl,rfl,rfl,rfl,rfl,rfl⟩,⟨_,rfl,rfl⟩,rfl⟩
 ·cases h;exact ⟨⟨_,_,rfl,rfl,rfl,rfl,rfl,rfl⟩,⟨_,rfl,rfl⟩,rfl⟩
 ·cases h;exact ⟨⟨_,_,rfl,rfl,rfl,rfl,rfl,rfl⟩,⟨_,rfl,⟨_,rfl,rfl⟩⟩,rfl⟩
 ·cases h;exact ⟨⟨_,_,rfl,rfl,rfl,rfl,rfl,rfl⟩,⟨_,rfl,⟨_,rfl,rfl⟩⟩,rfl⟩
 ·cases h;exact ⟨⟨_,_,rfl,rfl,rfl,rfl,rfl,rfl⟩,⟨_,rfl,⟨_,rfl,rfl⟩⟩,rfl⟩
 ·cases h;exact ⟨⟨_,_,rfl,rfl,rfl,rfl,rfl,rfl⟩,⟨_,rfl,rfl⟩,rfl⟩
 ·cases h;exact ⟨⟨_,_,rfl,rfl,rfl,rfl,rfl,rfl⟩,⟨_,rfl,rfl⟩,rfl⟩
 ·cases h;exact ⟨⟨_,_,rfl,rfl,rfl,rfl,rfl,rfl⟩,⟨_,rfl,rfl⟩,rfl⟩
 ·cases h;exact ⟨⟨_,_,rfl,rfl,rfl,rfl,rfl,rfl⟩,⟨_,rfl,rfl⟩,rfl⟩
 ·cases h;exact ⟨⟨_,_,rfl,rfl,rfl,rfl,rfl,rfl⟩,⟨_,rfl,rfl⟩,rfl⟩
 ·cases h;exact ⟨⟨_,_,rfl,rfl,rfl,rfl,rfl,rfl⟩,⟨_,rfl,⟨_,rfl,rfl⟩⟩,rfl⟩
 ·cases h;exact ⟨⟨_,_,rfl,rfl,rfl,rfl,rfl,rfl⟩,⟨_,rfl,rfl⟩,rfl⟩
 ·cases h
theorem hmo : Tryz.prog.follows .mixedOrders=true:=by rfl
theorem tt2 : tbl 2=some ⟨1,8,(.v (.int .i64 0)),.int .i64⟩:=rfl
theorem tt3 : tbl 3=some ⟨1,8,(.v (.int .i64 0)),.int .i64⟩:=rfl
theorem tt28 : tbl 28=some ⟨1,4,(.v (.int .u32 0)),.int .u32⟩:=rfl
theorem tt31 : tbl 31=some ⟨1,8,(.v (.int .u64 0)),.int .u64⟩:=rfl
theorem tt45 : tbl 45=some ⟨1,8,(.v (.int .i64 0)),.int .i64⟩:=rfl
theorem tt47 : tbl 47=some ⟨3,24,(.st 3 [(.v (.int .i64 0)),(.v (.int .i64 0)),(.v (.int .i64 0))]),.st [(0,45),(1,45),(2,45)]⟩:=rfl
theorem aJJ : EqT Tryz.prog 3 (α:=Int) j64 (fun a b=>a==b) 1:=
 aDq Tryz.underlying3
def aC.eq (a b:aC):Bool:=(fun a b=>a==b) a.gX b.gX&&((fun a b=>a==b) a.gY b.gY&&((fun a b=>a==b) a.gZ b.gZ&&true))
theorem aAr : EqT Tryz.prog 33 (α:=aC) aC.enc aC.eq 2:=
 yM (N:=3) Tryz.underlying33 (by kernel_rfl) (fun _=>rfl) (fun a b=>mN hT a.gX b.gX (by decide) rfl tt3 rfl (fun _=>rfl) (fun _=>rfl) (fun _=>rfl) aJJ (by decide) (mN hT a.gY b.gY (by decide) rfl tt3 rfl (fun _=>rfl) (fun _=>rfl) (fun _=>rfl) aJJ (by decide) (mN hT a.gZ b.gZ (by decide) rfl tt3 rfl (fun _=>rfl) (fun _=>rfl) (fun _=>rfl) aJJ (by decide) (aDb))))
theorem aKz : EqT Tryz.prog 28 (α:=Int) k32 (fun a b=>a==b) 1:=
 aDq Tryz.underlying28
def bK.eq (a b:bK):Bool:=(fun a b=>a==b) a.gE3 b.gE3&&((fun a b=>a==b) a.gE4 b.gE4&&((fun a b=>a==b) a.gE5 b.gE5&&true))
theorem aQa : EqT Tryz.prog 168 (α:=bK) bK.enc bK.eq 2:=
 yM (N:=3) Tryz.underlying168 (by kernel_rfl) (fun _=>rfl) (fun a b=>mN hT a.gE3 b.gE3 (by decide) rfl tt28 rfl (fun _=>rfl) (fun _=>rfl) (fun _=>rfl) aKz (by decide) (mN hT a.gE4 b.gE4 (by decide) rfl tt28 rfl (fun _=>rfl) (fun _=>rfl) (fun _=>rfl) aKz (by decide) (mN hT a.gE5 b.gE5 (by decide) rfl tt28 rfl (fun _=>rfl) (fun _=>rfl) (fun _=>rfl) aKz (by decide) (aDb))))
theorem eqT_2 : EqT Tryz.prog 2 (α:=Int) j64 (fun a b=>a==b) 1:=
 aDq Tryz.underlying2
theorem aRZ : EqT Tryz.prog 31 (α:=Int) k64 (fun a b=>a==b) 1:=
 aDq Tryz.underlying31
def aP.eq (a b:aP):Bool:=(fun a b=>a==b) a.gHi b.gHi&&((fun a b=>a==b) a.gLo b.gLo&&true)
theorem aQr : EqT Tryz.prog 253 (α:=aP) aP.enc aP.eq 2:=
 yM (N:=2) Tryz.underlying253 (by kernel_rfl) (fun _=>rfl) (fun a b=>mN hT a.gHi b.gHi (by decide) rfl tt2 rfl (fun _=>rfl) (fun _=>rfl) (fun _=>rfl) eqT_2 (by decide) (mN hT a.gLo b.gLo (by decide) rfl tt31 rfl (fun _=>rfl) (fun _=>rfl) (fun _=>rfl) aRZ (by decide) (aDb)))
theorem aIv : EqT Tryz.prog 45 (α:=Int) j64 (fun a b=>a==b) 1:=
 aDq Tryz.underlying45
def aB.eq (a b:aB):Bool:=(fun a b=>a==b) a.gX b.gX&&((fun a b=>a==b) a.gY b.gY&&((fun a b=>a==b) a.gZ b.gZ&&true))
theorem aPA : EqT Tryz.prog 47 (α:=aB) aB.enc aB.eq 2:=
 yM (N:=3) Tryz.underlying47 (by kernel_rfl) (fun _=>rfl) (fun a b=>mN hT a.gX b.gX (by decide) rfl tt45 rfl (fun _=>rfl) (fun _=>rfl) (fun _=>rfl) aIv (by decide) (mN hT a.gY b.gY (by decide) rfl tt45 rfl (fun _=>rfl) (fun _=>rfl) (fun _=>rfl) aIv (by decide) (mN hT a.gZ b.gZ (by decide) rfl tt45 rfl (fun _=>rfl) (fun _=>rfl) (fun _=>rfl) aIv (by decide) (aDb))))
def aG.eq (a b:aG):Bool:=aB.eq a.gB6 b.gB6&&((fun a b=>a==b) a.gD2 b.gD2&&((fun a b=>a==b) a.gN b.gN&&(aB.eq a.gD3 b.gD3&&((fun a b=>a==b) a.gB9 b.gB9&&true))))
theorem aLJ : EqT Tryz.prog 49 (α:=aG) aG.enc aG.eq 3:=
 yM (N:=9) Tryz.underlying49 (by kernel_rfl) (fun _=>rfl) (fun a b=>mN hT a.gB6 b.gB6 (by decide) rfl tt47 rfl (fun _=>rfl) (fun _=>rfl) (fun _=>rfl) aPA (by decide) (mN hT a.gD2 b.gD2 (by decide) rfl tt3 rfl (fun _=>rfl) (fun _=>rfl) (fun _=>rfl) aJJ (by decide) (mN hT a.gN b.gN (by decide) rfl tt45 rfl (fun _=>rfl) (fun _=>rfl) (fun _=>rfl) aIv (by decide) (mN hT a.gD3 b.gD3 (by decide) rfl tt47 rfl (fun _=>rfl) (fun _=>rfl) (fun _=>rfl) aPA (by decide) (mN hT a.gB9 b.gB9 (by decide) rfl tt3 rfl (fun _=>rfl) (fun _=>rfl) (fun _=>rfl) aJJ (by decide) (aDb))))))
def aLz : ByteArray:=(ByteArray.mk (List.toArray (List.append (List.append [0,1,2,2,3,3,3,3,4,4,4,4,4,4,4,4,5,5,5,5,5,5,5,5,5,5,5,5,5,5,5,5,6,6,6,6,6,6,6,6,6,6,6,6,6,6,6,6,6,6,6,6,6,6,6,6,6,6,6,6,6,6,6,6] [7,7,7,7,7,7,7,7,7,7,7,7,7,7,7,7,7,7,7,7,7,7,7,7,7,7,7,7,7,7,7,7,7,7,7,7,7,7,7,7,7,7,7,7,7,7,7,7,7,7,7,7,7,7,7,7,7,7,7,7,7,7,7,7]) (List.append [8,8,8,8,8,8,8,8,8,8,8,8,8,8,8,8,8,8,8,8,8,8,8,8,8,8,8,8,8,8,8,8,8,8,8,8,8,8,8,8,8,8,8,8,8,8,8,8,8,8,8,8,8,8,8,8,8,8,8,8,8,8,8,8] [8,8,8,8,8,8,8,8,8,8,8,8,8,8,8,8,8,8,8,8,8,8,8,8,8,8,8,8,8,8,8,8,8,8,8,8,8,8,8,8,8,8,8,8,8,8,8,8,8,8,8,8,8,8,8,8,8,8,8,8,8,8,8,8]))))
def str_1 : ByteArray:=(ByteArray.mk #[117,109,98,114,97,32,115,97,109,112,108,101,32,115,116,114,101,97,109,32,118,49])
abbrev aJz : AV:=(.st 16 [(j64 0),(.st 3 [(j64 0),(j64 0),(j64 0)]),(.st 3 [(j64 0),(j64 0),(j64 0)]),(.st 3 [(j64 0),(j64 0),(j64 0)]),(.st 5 [(j64 0),(.arr 3 1 [(j64 0),(j64 0),(j64 0)]),(j64 0)]),(eB false)])
abbrev aJt : AV:=(.arr 32 4 [(.arr 4 1 [(j64 0),(j64 4),(j64 8),(j64 12)]),(.arr 4 1 [(j64 1),(j64 5),(j64 9),(j64 13)]),(.arr 4 1 [(j64 2),(j64 6),(j64 10),(j64 14)]),(.arr 4 1 [(j64 3),(j64 7),(j64 11),(j64 15)]),(.arr 4 1 [(j64 0),(j64 5),(j64 10),(j64 15)]),(.arr 4 1 [(j64 1),(j64 6),(j64 11),(j64 12)]),(.arr 4 1 [(j64 2),(j64 7),(j64 8),(j64 13)]),(.arr 4 1 [(j64 3),(j64 4),(j64 9),(j64 14)])])
abbrev aMZ : AV:=(.st 7 [(.st 3 [(j64 0),(j64 0),(j64 0)]),(.st 3 [(j64 0),(j64 0),(j64 0)]),(eB false)])
abbrev aNE : AV:=(.st 8 [(.st 3 [(j64 0),(j64 0),(j64 0)]),(eB false),(eB false),(.st 3 [(j64 0),(j64 0),(j64 0)])])
abbrev cv_5 : AV:=(.st 68 [(.st 3 [(k32 0),(k32 0),(k32 0)]),(eB false),(eA 64 1 k8 (Vector.replicate 64 0))])
abbrev cv_6 : AV:=(.st 9 [(.st 3 [(j64 0),(j64 0),(j64 0)]),(j64 0),(j64 0),(.st 3 [(j64 0),(j64 0),(j64 0)]),(j64 0)])
abbrev cv_7 : AV:=(.st 26 [(.st 7 [(.st 3 [(j64 0),(j64 0),(j64 0)]),(.st 3 [(j64 0),(j64 0),(j64 0)]),(j64 0)]),(.ref 0 [] 0),(.ref 4 [] 0),(.st 3 [(j64 4294967296),(j64 4294967296),(j64 4294967296)]),(.st 3 [(j64 0),(j64 0),(j64 0)]),(j64 0),(eB false),(.st 9 [(.st 3 [(j64 0),(j64 0),(j64 0)]),(j64 0),(j64 0),(.st 3 [(j64 0),(j64 0),(j64 0)]),(j64 (-1))])])
abbrev cv_8 : AV:=(.st 10 [(.st 3 [(j64 0),(j64 0),(j64 0)]),(.st 3 [(j64 0),(j64 0),(j64 0)]),(j64 0),(j64 0),(j64 0),(j64 0)])
end Go.UK
