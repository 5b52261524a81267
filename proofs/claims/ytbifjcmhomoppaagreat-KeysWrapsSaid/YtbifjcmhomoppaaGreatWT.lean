/- A part of the proof: what the functions of the program compute. -/
import Derived.Test.YtbifjcmhomoppaaGreatLib14
import Derived.Test.YtbifjcmhomoppaaGreatChecked
open List renaming replicate→ak
namespace Go.UK
open Go Go.Proofs
set_option maxRecDepth 20000
set_option maxHeartbeats 40000000
set_option linter.all false
instance : cB:=⟨⟨[],[]⟩⟩
structure aE where
 gId:Int
 gD:Int
 gA6:Int
 gA3:(Vector Int 8)
 gA4:Int
 gTo:Int
 gA0:Int
 gA7:Int
def aE.enc(s:aE):AV := .st 15 [(k64 s.gId),(j64 s.gD),(k32 s.gA6),(eA 8 1 k8 s.gA3),(k32 s.gA4),(k32 s.gTo),(j64 s.gA0),(j64 s.gA7)]
structure bU where
 gA8:(Vector Int 32)
 gId:Int
 gA9:Int
 gM:aE
def bU.enc(s:bU):AV := .st 49 [(eA 32 1 k8 s.gA8),(j64 s.gId),(j64 s.gA9),(aE.enc s.gM)]
structure aB where
 gX:Int
 gY:Int
 gZ:Int
def aB.enc(s:aB):AV := .st 3 [(j64 s.gX),(j64 s.gY),(j64 s.gZ)]
structure aL where
 gG:(List aB)
 gO:(List (Vector Int 2))
 gK:(List (Vector Int 3))
def aL.enc(s:aL):AV := .st 3 [(eL 3 aB.enc s.gG),(eL 2 (eA 2 1 j64) s.gO),(eL 3 (eA 3 1 j64) s.gK)]
structure aI where
 gQ:Int
 gL:(List (Vector Int 3))
def aI.enc(s:aI):AV := .st 2 [(j64 s.gQ),(eL 3 (eA 3 1 j64) s.gL)]
structure aG where
 gD:Int
 gF:(Vector Int 3)
 gA5:Int
def aG.enc(s:aG):AV := .st 5 [(j64 s.gD),(eA 3 1 j64 s.gF),(j64 s.gA5)]
structure aK where
 gD:Int
 gF:(Vector Int 3)
 gAt:aB
 gU:aB
 gV:aB
def aK.enc(s:aK):AV := .st 13 [(j64 s.gD),(eA 3 1 j64 s.gF),(aB.enc s.gAt),(aB.enc s.gU),(aB.enc s.gV)]
structure aF where
 gD:Int
 gW:aL
 gA1:aI
 gJ:aG
 gE:aK
def aF.enc(s:aF):AV := .st 24 [(j64 s.gD),(aL.enc s.gW),(aI.enc s.gA1),(aG.enc s.gJ),(aK.enc s.gE)]
structure zT where
 gX:Int
 gY:Int
 gZ:Int
def zT.enc(s:zT):AV := .st 3 [(j64 s.gX),(j64 s.gY),(j64 s.gZ)]
structure uU where
 gM:(Vector Int 9)
 gT:zT
def uU.enc(s:uU):AV := .st 12 [(eA 9 1 j64 s.gM),(zT.enc s.gT)]
structure xJ where
 gW:Int
 gJ:Int
 gA1:Int
 gN:Int
 gT:uU
def xJ.enc(s:xJ):AV := .st 16 [(j64 s.gW),(j64 s.gJ),(j64 s.gA1),(j64 s.gN),(uU.enc s.gT)]
structure fW where
 gD:Int
 gB2:Int
 gM:aE
 gA:aF
 gI:xJ
def fW.enc(s:fW):AV := .st 57 [(j64 s.gD),(j64 s.gB2),(aE.enc s.gM),(aF.enc s.gA),(xJ.enc s.gI)]
structure cW where
 gh:(Vector Int 8)
 gB1:(Vector Int 64)
 gn:Int
def cW.enc(s:cW):AV := .st 73 [(eA 8 1 k32 s.gh),(eA 64 1 k8 s.gB1),(j64 s.gn)]
structure aJ where
 gh:(Vector Int 3)
def aJ.enc(s:aJ):AV := .st 3 [(eA 3 1 k64 s.gh)]
structure aO where
 gA2:aJ
 gC:Bool
 gr0:Int
 gr1:Int
 gs0:Int
 gs1:Int
 gP:(List Int)
 gR:Int
def aO.enc(s:aO):AV := .st 10 [(aJ.enc s.gA2),(eB s.gC),(k64 s.gr0),(k64 s.gr1),(k64 s.gs0),(k64 s.gs1),(eL 1 k8 s.gP),(j64 s.gR)]
structure aT where
 gB0:Int
 gto:Int
def aT.enc(s:aT):AV := .st 2 [(j64 s.gB0),(j64 s.gto)]
structure aA where
 gb:(List Int)
 ge:Int
 gC:Bool
def aA.enc(s:aA):AV := .st 3 [(eL 1 k8 s.gb),(j64 s.ge),(eB s.gC)]
def tbl : TypeId->Option TI
 | 2=>some ⟨1,8,(.v (.int .i64 0)),.int .i64⟩
 | 3=>some ⟨1,8,(.v (.int .i64 0)),.int .i64⟩
 | 4=>some ⟨1,1,(.v (.bool false)),.bool⟩
 | 5=>some ⟨1,1,(.v (.int .u8 0)),.int .u8⟩
 | 9=>some ⟨1,16,(.v (.string (ByteArray.mk #[]))),.str⟩
 | 22=>some ⟨32,32,(.arr 32 1 (ak 32 (.v (.int .u8 0)))),.arr 32 5⟩
 | 23=>some ⟨1,8,(.v (.int .u64 0)),.int .u64⟩
 | 24=>some ⟨1,4,(.v (.int .u32 0)),.int .u32⟩
 | 25=>some ⟨8,8,(.arr 8 1 (ak 8 (.v (.int .u8 0)))),.arr 8 5⟩
 | 27=>some ⟨15,56,(.st 15 [(.v (.int .u64 0)),(.v (.int .i64 0)),(.v (.int .u32 0)),(.arr 8 1 (ak 8 (.v (.int .u8 0)))),(.v (.int .u32 0)),(.v (.int .u32 0)),(.v (.int .i64 0)),(.v (.int .i64 0))]),.st [(0,23),(1,3),(2,24),(3,25),(11,24),(12,24),(13,3),(14,3)]⟩
 | 29=>some ⟨49,104,(.st 49 [(.arr 32 1 (ak 32 (.v (.int .u8 0)))),(.v (.int .i64 0)),(.v (.int .i64 0)),(.st 15 [(.v (.int .u64 0)),(.v (.int .i64 0)),(.v (.int .u32 0)),(.arr 8 1 (ak 8 (.v (.int .u8 0)))),(.v (.int .u32 0)),(.v (.int .u32 0)),(.v (.int .i64 0)),(.v (.int .i64 0))])]),.st [(0,22),(32,3),(33,3),(34,27)]⟩
 | 30=>some ⟨1,24,(.v (.slice none 0 0)),.sl 41⟩
 | 31=>some ⟨1,24,(.v (.slice none 0 0)),.sl 128⟩
 | 32=>some ⟨1,24,(.v (.slice none 0 0)),.sl 37⟩
 | 34=>some ⟨3,72,(.st 3 [(.v (.slice none 0 0)),(.v (.slice none 0 0)),(.v (.slice none 0 0))]),.st [(0,30),(1,31),(2,32)]⟩
 | 36=>some ⟨2,32,(.st 2 [(.v (.int .i64 0)),(.v (.slice none 0 0))]),.st [(0,3),(1,32)]⟩
 | 37=>some ⟨3,24,(.arr 3 1 (ak 3 (.v (.int .i64 0)))),.arr 3 3⟩
 | 39=>some ⟨5,40,(.st 5 [(.v (.int .i64 0)),(.arr 3 1 (ak 3 (.v (.int .i64 0)))),(.v (.int .i64 0))]),.st [(0,3),(1,37),(4,3)]⟩
 | 41=>some ⟨3,24,(.st 3 [(.v (.int .i64 0)),(.v (.int .i64 0)),(.v (.int .i64 0))]),.st [(0,3),(1,3),(2,3)]⟩
 | 43=>some ⟨13,104,(.st 13 [(.v (.int .i64 0)),(.arr 3 1 (ak 3 (.v (.int .i64 0)))),(.st 3 [(.v (.int .i64 0)),(.v (.int .i64 0)),(.v (.int .i64 0))]),(.st 3 [(.v (.int .i64 0)),(.v (.int .i64 0)),(.v (.int .i64 0))]),(.st 3 [(.v (.int .i64 0)),(.v (.int .i64 0)),(.v (.int .i64 0))])]),.st [(0,3),(1,37),(4,41),(7,41),(10,41)]⟩
 | 45=>some ⟨24,256,(.st 24 [(.v (.int .i64 0)),(.st 3 [(.v (.slice none 0 0)),(.v (.slice none 0 0)),(.v (.slice none 0 0))]),(.st 2 [(.v (.int .i64 0)),(.v (.slice none 0 0))]),(.st 5 [(.v (.int .i64 0)),(.arr 3 1 (ak 3 (.v (.int .i64 0)))),(.v (.int .i64 0))]),(.st 13 [(.v (.int .i64 0)),(.arr 3 1 (ak 3 (.v (.int .i64 0)))),(.st 3 [(.v (.int .i64 0)),(.v (.int .i64 0)),(.v (.int .i64 0))]),(.st 3 [(.v (.int .i64 0)),(.v (.int .i64 0)),(.v (.int .i64 0))]),(.st 3 [(.v (.int .i64 0)),(.v (.int .i64 0)),(.v (.int .i64 0))])])]),.st [(0,3),(1,34),(4,36),(6,39),(11,43)]⟩
 | 46=>some ⟨1,8,(.v (.int .i64 0)),.int .i64⟩
 | 47=>some ⟨9,72,(.arr 9 1 (ak 9 (.v (.int .i64 0)))),.arr 9 46⟩
 | 49=>some ⟨3,24,(.st 3 [(.v (.int .i64 0)),(.v (.int .i64 0)),(.v (.int .i64 0))]),.st [(0,46),(1,46),(2,46)]⟩
 | 51=>some ⟨12,96,(.st 12 [(.arr 9 1 (ak 9 (.v (.int .i64 0)))),(.st 3 [(.v (.int .i64 0)),(.v (.int .i64 0)),(.v (.int .i64 0))])]),.st [(0,47),(9,49)]⟩
 | 53=>some ⟨16,128,(.st 16 [(.v (.int .i64 0)),(.v (.int .i64 0)),(.v (.int .i64 0)),(.v (.int .i64 0)),(.st 12 [(.arr 9 1 (ak 9 (.v (.int .i64 0)))),(.st 3 [(.v (.int .i64 0)),(.v (.int .i64 0)),(.v (.int .i64 0))])])]),.st [(0,3),(1,3),(2,3),(3,3),(4,51)]⟩
 | 55=>some ⟨57,456,(.st 57 [(.v (.int .i64 0)),(.v (.int .i64 0)),(.st 15 [(.v (.int .u64 0)),(.v (.int .i64 0)),(.v (.int .u32 0)),(.arr 8 1 (ak 8 (.v (.int .u8 0)))),(.v (.int .u32 0)),(.v (.int .u32 0)),(.v (.int .i64 0)),(.v (.int .i64 0))]),(.st 24 [(.v (.int .i64 0)),(.st 3 [(.v (.slice none 0 0)),(.v (.slice none 0 0)),(.v (.slice none 0 0))]),(.st 2 [(.v (.int .i64 0)),(.v (.slice none 0 0))]),(.st 5 [(.v (.int .i64 0)),(.arr 3 1 (ak 3 (.v (.int .i64 0)))),(.v (.int .i64 0))]),(.st 13 [(.v (.int .i64 0)),(.arr 3 1 (ak 3 (.v (.int .i64 0)))),(.st 3 [(.v (.int .i64 0)),(.v (.int .i64 0)),(.v (.int .i64 0))]),(.st 3 [(.v (.int .i64 0)),(.v (.int .i64 0)),(.v (.int .i64 0))]),(.st 3 [(.v (.int .i64 0)),(.v (.int .i64 0)),(.v (.int .i64 0))])])]),(.st 16 [(.v (.int .i64 0)),(.v (.int .i64 0)),(.v (.int .i64 0)),(.v (.int .i64 0)),(.st 12 [(.arr 9 1 (ak 9 (.v (.int .i64 0)))),(.st 3 [(.v (.int .i64 0)),(.v (.int .i64 0)),(.v (.int .i64 0))])])])]),.st [(0,3),(1,3),(2,27),(17,45),(41,53)]⟩
 | 57=>some ⟨1,24,(.v (.slice none 0 0)),.sl 5⟩
 | 58=>some ⟨1,8,(.v (.int .i64 0)),.int .i64⟩
 | 68=>some ⟨1,8,(.v (.pointer none)),.ptr 95⟩
 | 93=>some ⟨1,8,(.v (.map none)),.other⟩
 | 95=>some ⟨33,40,(.st 33 [(.arr 32 1 (ak 32 (.v (.int .u8 0)))),(.v (.map none))]),.st [(0,22),(32,93)]⟩
 | 97=>some ⟨1,24,(.v (.slice none 0 0)),.sl 3⟩
 | 108=>some ⟨1,8,(.v (.int .u64 0)),.int .u64⟩
 | 110=>some ⟨1,24,(.v (.slice none 0 0)),.sl 57⟩
 | 113=>some ⟨2,16,(.st 2 [(.v (.int .i64 0)),(.v (.int .i64 0))]),.st [(0,3),(1,3)]⟩
 | 117=>some ⟨1,8,(.v (.pointer none)),.ptr 154⟩
 | 128=>some ⟨2,16,(.arr 2 1 (ak 2 (.v (.int .i64 0)))),.arr 2 3⟩
 | 139=>some ⟨12,12,(.arr 12 1 (ak 12 (.v (.int .u8 0)))),.arr 12 5⟩
 | 142=>some ⟨1,8,(.v .nilFunc),.other⟩
 | 144=>some ⟨1,24,(.v (.slice none 0 0)),.sl 23⟩
 | 154=>some ⟨3,40,(.st 3 [(.v (.slice none 0 0)),(.v (.int .i64 0)),(.v (.bool false))]),.st [(0,57),(1,58),(2,4)]⟩
 | 176=>some ⟨16,16,(.arr 16 1 (ak 16 (.v (.int .u8 0)))),.arr 16 5⟩
 | 182=>some ⟨64,64,(.arr 64 1 (ak 64 (.v (.int .u8 0)))),.arr 64 5⟩
 | 185=>some ⟨1,8,(.v (.pointer none)),.ptr 233⟩
 | 194=>some ⟨1,8,(.st 1 [(.v (.pointer none))]),.st [(0,117)]⟩
 | 231=>some ⟨8,32,(.arr 8 1 (ak 8 (.v (.int .u32 0)))),.arr 8 24⟩
 | 233=>some ⟨73,104,(.st 73 [(.arr 8 1 (ak 8 (.v (.int .u32 0)))),(.arr 64 1 (ak 64 (.v (.int .u8 0)))),(.v (.int .i64 0))]),.st [(0,231),(8,182),(72,3)]⟩
 | 236=>some ⟨1,8,(.st 1 [(.v (.pointer none))]),.st [(0,117)]⟩
 | 237=>some ⟨1,8,(.st 1 [(.v (.pointer none))]),.st [(0,117)]⟩
 | 254=>some ⟨5,40,(.arr 5 1 (ak 5 (.v (.int .i64 0)))),.arr 5 3⟩
 | 256=>some ⟨1,8,(.v (.pointer none)),.ptr 296⟩
 | 261=>some ⟨64,256,(.arr 64 1 (ak 64 (.v (.int .u32 0)))),.arr 64 24⟩
 | 272=>some ⟨17,17,(.arr 17 1 (ak 17 (.v (.int .u8 0)))),.arr 17 5⟩
 | 274=>some ⟨1,24,(.v (.slice none 0 0)),.sl 272⟩
 | 285=>some ⟨16,64,(.arr 16 1 (ak 16 (.v (.int .u32 0)))),.arr 16 24⟩
 | 287=>some ⟨4,32,(.arr 4 1 (ak 4 (.v (.int .i64 0)))),.arr 4 3⟩
 | 288=>some ⟨32,256,(.arr 32 4 (ak 8 (.arr 4 1 (ak 4 (.v (.int .i64 0)))))),.arr 8 287⟩
 | 289=>some ⟨4,16,(.arr 4 1 (ak 4 (.v (.int .u32 0)))),.arr 4 24⟩
 | 292=>some ⟨3,24,(.arr 3 1 (ak 3 (.v (.int .u64 0)))),.arr 3 23⟩
 | 294=>some ⟨3,24,(.st 3 [(.arr 3 1 (ak 3 (.v (.int .u64 0))))]),.st [(0,292)]⟩
 | 296=>some ⟨10,96,(.st 10 [(.st 3 [(.arr 3 1 (ak 3 (.v (.int .u64 0))))]),(.v (.bool false)),(.v (.int .u64 0)),(.v (.int .u64 0)),(.v (.int .u64 0)),(.v (.int .u64 0)),(.v (.slice none 0 0)),(.v (.int .i64 0))]),.st [(0,294),(3,4),(4,23),(5,23),(6,23),(7,23),(8,57),(9,3)]⟩
 | 299=>some ⟨1,24,(.v (.slice none 0 0)),.sl 24⟩
 | _=>none
theorem hT : TOK Tryz.prog tbl:=by
 intro t i h;unfold tbl at h;split at h
 ·cases h;exact⟨⟨_,_,rfl,rfl,rfl,rfl,rfl,rfl⟩,⟨_,rfl,rfl⟩,rfl⟩
 ·cases h;exact⟨⟨_,_,rfl,rfl,rfl,rfl,rfl,rfl⟩,⟨_,rfl,rfl⟩,rfl⟩
 ·cases h;exact⟨⟨_,_,rfl,rfl,rfl,rfl,rfl,rfl⟩,⟨_,rfl,rfl⟩,rfl⟩
 ·cases h;exact⟨⟨_,_,rfl,rfl,rfl,rfl,rfl,rfl⟩,⟨_,rfl,rfl⟩,rfl⟩
 ·cases h;exact⟨⟨_,_,rfl,rfl,rfl,rfl,rfl,rfl⟩,⟨_,rfl,rfl⟩,rfl⟩
 ·cases h;exact⟨⟨_,_,rfl,rfl,rfl,rfl,rfl,rfl⟩,⟨_,rfl,rfl⟩,rfl⟩
 ·cases h;exact⟨⟨_,_,rfl,rfl,rfl,rfl,rfl,rfl⟩,⟨_,rfl,rfl⟩,rfl⟩
 ·cases h;exact⟨⟨_,_,rfl,rfl,rfl,rfl,rfl,rfl⟩,⟨_,rfl,rfl⟩,rfl⟩
 ·cases h;exact⟨⟨_,_,rfl,rfl,rfl,rfl,rfl,rfl⟩,⟨_,rfl,rfl⟩,rfl⟩
 ·cases h;exact⟨⟨_,_,rfl,rfl,rfl,rfl,rfl,rfl⟩,⟨_,rfl,⟨_,rfl,rfl⟩⟩,rfl⟩
 ·cases h;exact⟨⟨_,_,rfl,rfl,rfl,rfl,rfl,rfl⟩,⟨_,rfl,⟨_,rfl,rfl⟩⟩,rfl⟩
 ·cases h;exact⟨⟨_,_,rfl,rfl,rfl,rfl,rfl,rfl⟩,⟨_,rfl,rfl⟩,rfl⟩
 ·cases h;exact⟨⟨_,_,rfl,rfl,rfl,rfl,rfl,rfl⟩,⟨_,rfl,rfl⟩,rfl⟩
 ·cases h;exact⟨⟨_,_,rfl,rfl,rfl,rfl,rfl,rfl⟩,⟨_,rfl,rfl⟩,rfl⟩
 ·cases h;exact⟨⟨_,_,rfl,rfl,rfl,rfl,rfl,rfl⟩,⟨_,rfl,⟨_,rfl,rfl⟩⟩,rfl⟩
 ·cases h;exact⟨⟨_,_,rfl,rfl,rfl,rfl,rfl,rfl⟩,⟨_,rfl,⟨_,rfl,rfl⟩⟩,rfl⟩
 ·cases h;exact⟨⟨_,_,rfl,rfl,rfl,rfl,rfl,rfl⟩,⟨_,rfl,rfl⟩,rfl⟩
 ·cases h;exact⟨⟨_,_,rfl,rfl,rfl,rfl,rfl,rfl⟩,⟨_,rfl,⟨_,rfl,rfl⟩⟩,rfl⟩
 ·cases h;exact⟨⟨_,_,rfl,rfl,rfl,rfl,rfl,rfl⟩,⟨_,rfl,⟨_,rfl,rfl⟩⟩,rfl⟩
 ·cases h;exact⟨⟨_,_,rfl,rfl,rfl,rfl,rfl,rfl⟩,⟨_,rfl,⟨_,rfl,rfl⟩⟩,rfl⟩
 ·cases h;exact⟨⟨_,_,rfl,rfl,rfl,rfl,rfl,rfl⟩,⟨_,rfl,⟨_,rfl,rfl⟩⟩,rfl⟩
 ·cases h;exact⟨⟨_,_,rfl,rfl,rfl,rfl,rfl,rfl⟩,⟨_,rfl,rfl⟩,rfl⟩
 ·cases h;exact⟨⟨_,_,rfl,rfl,rfl,rfl,rfl,rfl⟩,⟨_,rfl,rfl⟩,rfl⟩
 ·cases h;exact⟨⟨_,_,rfl,rfl,rfl,rfl,rfl,rfl⟩,⟨_,rfl,⟨_,rfl,rfl⟩⟩,rfl⟩
 ·cases h;exact⟨⟨_,_,rfl,rfl,rfl,rfl,rfl,rfl⟩,⟨_,rfl,⟨_,rfl,rfl⟩⟩,rfl⟩
 ·cases h;exact⟨⟨_,_,rfl,rfl,rfl,rfl,rfl,rfl⟩,⟨_,rfl,⟨_,rfl,rfl⟩⟩,rfl⟩
 ·cases h;exact⟨⟨_,_,rfl,rfl,rfl,rfl,rfl,rfl⟩,⟨_,rfl,⟨_,rfl,rfl⟩⟩,rfl⟩
 ·cases h;exact⟨⟨_,_,rfl,rfl,rfl,rfl,rfl,rfl⟩,⟨_,rfl,rfl⟩,rfl⟩
 ·cases h;exact⟨⟨_,_,rfl,rfl,rfl,rfl,rfl,rfl⟩,⟨_,rfl,rfl⟩,rfl⟩
 ·cases h;exact⟨⟨_,_,rfl,rfl,rfl,rfl,rfl,rfl⟩,⟨_,rfl,rfl⟩,rfl⟩
 ·cases h;exact⟨⟨_,_,rfl,rfl,rfl,rfl,rfl,rfl⟩,⟨_,rfl,(by unfold TK.fits;exact⟨(by intro fs h;cases h),(by intro n e h;cases h)⟩)⟩,rfl⟩
 ·cases h;exact⟨⟨_,_,rfl,rfl,rfl,rfl,rfl,rfl⟩,⟨_,rfl,⟨_,rfl,rfl⟩⟩,rfl⟩
 ·cases h;exact⟨⟨_,_,rfl,rfl,rfl,rfl,rfl,rfl⟩,⟨_,rfl,rfl⟩,rfl⟩
 ·cases h;exact⟨⟨_,_,rfl,rfl,rfl,rfl,rfl,rfl⟩,⟨_,rfl,rfl⟩,rfl⟩
 ·cases h;exact⟨⟨_,_,rfl,rfl,rfl,rfl,rfl,rfl⟩,⟨_,rfl,rfl⟩,rfl⟩
 ·cases h;exact⟨⟨_,_,rfl,rfl,rfl,rfl,rfl,rfl⟩,⟨_,rfl,⟨_,rfl,rfl⟩⟩,rfl⟩
 ·cases h;exact⟨⟨_,_,rfl,rfl,rfl,rfl,rfl,rfl⟩,⟨_,rfl,rfl⟩,rfl⟩
 ·cases h;exact⟨⟨_,_,rfl,rfl,rfl,rfl,rfl,rfl⟩,⟨_,rfl,rfl⟩,rfl⟩
 ·cases h;exact⟨⟨_,_,rfl,rfl,rfl,rfl,rfl,rfl⟩,⟨_,rfl,rfl⟩,rfl⟩
 ·cases h;exact⟨⟨_,_,rfl,rfl,rfl,rfl,rfl,rfl⟩,⟨_,rfl,(by unfold TK.fits;exact⟨(by intro fs h;cases h),(by intro n e h;cases h)⟩)⟩,rfl⟩
 ·cases h;exact⟨⟨_,_,rfl,rfl,rfl,rfl,rfl,rfl⟩,⟨_,rfl,rfl⟩,rfl⟩
 ·cases h;exact⟨⟨_,_,rfl,rfl,rfl,rfl,rfl,rfl⟩,⟨_,rfl,⟨_,rfl,rfl⟩⟩,rfl⟩
 ·cases h;exact⟨⟨_,_,rfl,rfl,rfl,rfl,rfl,rfl⟩,⟨_,rfl,rfl⟩,rfl⟩
 ·cases h;exact⟨⟨_,_,rfl,rfl,rfl,rfl,rfl,rfl⟩,⟨_,rfl,rfl⟩,rfl⟩
 ·cases h;exact⟨⟨_,_,rfl,rfl,rfl,rfl,rfl,rfl⟩,⟨_,rfl,rfl⟩,rfl⟩
 ·cases h;exact⟨⟨_,_,rfl,rfl,rfl,rfl,rfl,rfl⟩,⟨_,rfl,⟨_,rfl,rfl⟩⟩,rfl⟩
 ·cases h;exact⟨⟨_,_,rfl,rfl,rfl,rfl,rfl,rfl⟩,⟨_,rfl,rfl⟩,rfl⟩
 ·cases h;exact⟨⟨_,_,rfl,rfl,rfl,rfl,rfl,rfl⟩,⟨_,rfl,⟨_,rfl,rfl⟩⟩,rfl⟩
 ·cases h;exact⟨⟨_,_,rfl,rfl,rfl,rfl,rfl,rfl⟩,⟨_,rfl,⟨_,rfl,rfl⟩⟩,rfl⟩
 ·cases h;exact⟨⟨_,_,rfl,rfl,rfl,rfl,rfl,rfl⟩,⟨_,rfl,⟨_,rfl,rfl⟩⟩,rfl⟩
 ·cases h;exact⟨⟨_,_,rfl,rfl,rfl,rfl,rfl,rfl⟩,⟨_,rfl,rfl⟩,rfl⟩
 ·cases h;exact⟨⟨_,_,rfl,rfl,rfl,rfl,rfl,rfl⟩,⟨_,rfl,rfl⟩,rfl⟩
 ·cases h;exact⟨⟨_,_,rfl,rfl,rfl,rfl,rfl,rfl⟩,⟨_,rfl,rfl⟩,rfl⟩
 ·cases h;exact⟨⟨_,_,rfl,rfl,rfl,rfl,rfl,rfl⟩,⟨_,rfl,rfl⟩,rfl⟩
 ·cases h;exact⟨⟨_,_,rfl,rfl,rfl,rfl,rfl,rfl⟩,⟨_,rfl,rfl⟩,rfl⟩
 ·cases h;exact⟨⟨_,_,rfl,rfl,rfl,rfl,rfl,rfl⟩,⟨_,rfl,rfl⟩,rfl⟩
 ·cases h;exact⟨⟨_,_,rfl,rfl,rfl,rfl,rfl,rfl⟩,⟨_,rfl,rfl⟩,rfl⟩
 ·cases h;exact⟨⟨_,_,rfl,rfl,rfl,rfl,rfl,rfl⟩,⟨_,rfl,rfl⟩,rfl⟩
 ·cases h;exact⟨⟨_,_,rfl,rfl,rfl,rfl,rfl,rfl⟩,⟨_,rfl,rfl⟩,rfl⟩
 ·cases h;exact⟨⟨_,_,rfl,rfl,rfl,rfl,rfl,rfl⟩,⟨_,rfl,rfl⟩,rfl⟩
 ·cases h;exact⟨⟨_,_,rfl,rfl,rfl,rfl,rfl,rfl⟩,⟨_,rfl,⟨_,rfl,rfl⟩⟩,rfl⟩
 ·cases h;exact⟨⟨_,_,rfl,rfl,rfl,rfl,rfl,rfl⟩,⟨_,rfl,⟨_,rfl,rfl⟩⟩,rfl⟩
 ·cases h;exact⟨⟨_,_,rfl,rfl,rfl,rfl,rfl,rfl⟩,⟨_,rfl,rfl⟩,rfl⟩
 ·cases h
theorem hmo : Tryz.prog.follows .mixedOrders=true:=by rfl
theorem tt3 : tbl 3=some ⟨1,8,(.v (.int .i64 0)),.int .i64⟩:=rfl
theorem tt5 : tbl 5=some ⟨1,1,(.v (.int .u8 0)),.int .u8⟩:=rfl
theorem tt24 : tbl 24=some ⟨1,4,(.v (.int .u32 0)),.int .u32⟩:=rfl
theorem tt37 : tbl 37=some ⟨3,24,(.arr 3 1 (ak 3 (.v (.int .i64 0)))),.arr 3 3⟩:=rfl
theorem tt41 : tbl 41=some ⟨3,24,(.st 3 [(.v (.int .i64 0)),(.v (.int .i64 0)),(.v (.int .i64 0))]),.st [(0,3),(1,3),(2,3)]⟩:=rfl
theorem aUi : EqT Tryz.prog 24 (α:=Int) k32 (λa b=>a==b) 1:=
 aJu Tryz.underlying24
theorem aRR : EqT Tryz.prog 231 (α:=(Vector Int 8)) (eA 8 1 k32) (eqV (λa b=>a==b)) 2:=
 aCe (M:=8) hT tt24 Tryz.underlying231 (by kernel_rfl) (λ_=>rfl) rfl (λ_=>rfl) (λ_=>rfl) aUi
theorem aGD : EqT Tryz.prog 3 (α:=Int) j64 (λa b=>a==b) 1:=
 aJu Tryz.underlying3
def aB.eq(a b:aB):Bool:=(λa b=>a==b) a.gX b.gX&&((λa b=>a==b) a.gY b.gY&&((λa b=>a==b) a.gZ b.gZ&&true))
theorem wS : EqT Tryz.prog 41 (α:=aB) aB.enc aB.eq 2:=
 aDi (N:=3) Tryz.underlying41 (by kernel_rfl) (λ_=>rfl) (λa b=>uD hT a.gX b.gX (by decide) rfl tt3 rfl (λ_=>rfl) (λ_=>rfl) (λ_=>rfl) aGD (by decide) (uD hT a.gY b.gY (by decide) rfl tt3 rfl (λ_=>rfl) (λ_=>rfl) (λ_=>rfl) aGD (by decide) (uD hT a.gZ b.gZ (by decide) rfl tt3 rfl (λ_=>rfl) (λ_=>rfl) (λ_=>rfl) aGD (by decide) (aJk))))
theorem aL4 : EqT Tryz.prog 37 (α:=(Vector Int 3)) (eA 3 1 j64) (eqV (λa b=>a==b)) 2:=
 aCe (M:=3) hT tt3 Tryz.underlying37 (by kernel_rfl) (λ_=>rfl) rfl (λ_=>rfl) (λ_=>rfl) aGD
def aG.eq(a b:aG):Bool:=(λa b=>a==b) a.gD b.gD&&((eqV (λa b=>a==b)) a.gF b.gF&&((λa b=>a==b) a.gA5 b.gA5&&true))
theorem aJf : EqT Tryz.prog 39 (α:=aG) aG.enc aG.eq 3:=
 aDi (N:=5) Tryz.underlying39 (by kernel_rfl) (λ_=>rfl) (λa b=>uD hT a.gD b.gD (by decide) rfl tt3 rfl (λ_=>rfl) (λ_=>rfl) (λ_=>rfl) aGD (by decide) (uD hT a.gF b.gF (by decide) rfl tt37 rfl (λ_=>rfl) (λ_=>rfl) (λ_=>rfl) aL4 (by decide) (uD hT a.gA5 b.gA5 (by decide) rfl tt3 rfl (λ_=>rfl) (λ_=>rfl) (λ_=>rfl) aGD (by decide) (aJk))))
def aK.eq(a b:aK):Bool:=(λa b=>a==b) a.gD b.gD&&((eqV (λa b=>a==b)) a.gF b.gF&&(aB.eq a.gAt b.gAt&&(aB.eq a.gU b.gU&&(aB.eq a.gV b.gV&&true))))
theorem aJo : EqT Tryz.prog 43 (α:=aK) aK.enc aK.eq 3:=
 aDi (N:=13) Tryz.underlying43 (by kernel_rfl) (λ_=>rfl) (λa b=>uD hT a.gD b.gD (by decide) rfl tt3 rfl (λ_=>rfl) (λ_=>rfl) (λ_=>rfl) aGD (by decide) (uD hT a.gF b.gF (by decide) rfl tt37 rfl (λ_=>rfl) (λ_=>rfl) (λ_=>rfl) aL4 (by decide) (uD hT a.gAt b.gAt (by decide) rfl tt41 rfl (λ_=>rfl) (λ_=>rfl) (λ_=>rfl) wS (by decide) (uD hT a.gU b.gU (by decide) rfl tt41 rfl (λ_=>rfl) (λ_=>rfl) (λ_=>rfl) wS (by decide) (uD hT a.gV b.gV (by decide) rfl tt41 rfl (λ_=>rfl) (λ_=>rfl) (λ_=>rfl) wS (by decide) (aJk))))))
theorem aRo : EqT Tryz.prog 128 (α:=(Vector Int 2)) (eA 2 1 j64) (eqV (λa b=>a==b)) 2:=
 aCe (M:=2) hT tt3 Tryz.underlying128 (by kernel_rfl) (λ_=>rfl) rfl (λ_=>rfl) (λ_=>rfl) aGD
theorem eqT_5 : EqT Tryz.prog 5 (α:=Int) k8 (λa b=>a==b) 1:=
 aJu Tryz.underlying5
theorem aPe : EqT Tryz.prog 22 (α:=(Vector Int 32)) (eA 32 1 k8) (eqV (λa b=>a==b)) 2:=
 aCe (M:=32) hT tt5 Tryz.underlying22 (by kernel_rfl) (λ_=>rfl) rfl (λ_=>rfl) (λ_=>rfl) eqT_5
def aLW : ByteArray:=(ByteArray.mk #[117,109,98,114,97,32,98,117,110,100,108,101,32,107,101,121])
def aNG : ByteArray:=(ByteArray.mk #[101,120,112,97,110,100,32,51,50,45,98,121,116,101,32,107])
abbrev aBV : AV:=(.st 15 [(k64 0),(j64 0),(k32 0),(eA 8 1 k8 (Vector.replicate 8 0)),(k32 0),(k32 0),(j64 0),(j64 0)])
abbrev aKq : AV:=(.arr 32 4 [(.arr 4 1 [(j64 0),(j64 4),(j64 8),(j64 12)]),(.arr 4 1 [(j64 1),(j64 5),(j64 9),(j64 13)]),(.arr 4 1 [(j64 2),(j64 6),(j64 10),(j64 14)]),(.arr 4 1 [(j64 3),(j64 7),(j64 11),(j64 15)]),(.arr 4 1 [(j64 0),(j64 5),(j64 10),(j64 15)]),(.arr 4 1 [(j64 1),(j64 6),(j64 11),(j64 12)]),(.arr 4 1 [(j64 2),(j64 7),(j64 8),(j64 13)]),(.arr 4 1 [(j64 3),(j64 4),(j64 9),(j64 14)])])
end Go.UK
