/- A part of the proof: what the functions of the program compute. -/
import Derived.Test.YtfndgielkmppbaaDoorLib14
import Derived.Test.YtfndgielkmppbaaDoorChecked
open List renaming replicate→be
namespace Go.UK
open Go Go.Proofs Go.Sort Go.RowKit
set_option maxRecDepth 20000
set_option maxHeartbeats 40000000
set_option linter.all false
instance : aV:=⟨⟨[(1,rW .u64 Lib.pow10Tab)],[]⟩⟩
theorem aEl : (1,rW .u64 Lib.pow10Tab)∈aV.l:=List.mem_cons_self
structure cG where
 gX:Int
 gY:Int
 gZ:Int
def cG.enc(s:cG):AV := .st 3 [(j64 s.gX),(j64 s.gY),(j64 s.gZ)]
structure aZ where
 gM:(Vector Int 9)
 gT:cG
def aZ.enc(s:aZ):AV := .st 12 [(eA 9 1 j64 s.gM),(cG.enc s.gT)]
structure bW where
 gG:Int
 gI:Int
 gJ:Int
 gN:Int
 gT:aZ
def bW.enc(s:bW):AV := .st 16 [(j64 s.gG),(j64 s.gI),(j64 s.gJ),(j64 s.gN),(aZ.enc s.gT)]
structure aC where
 gX:Int
 gY:Int
 gZ:Int
def aC.enc(s:aC):AV := .st 3 [(j64 s.gX),(j64 s.gY),(j64 s.gZ)]
structure bJ where
 gR:aC
 gS:aC
 gUp:aC
 gU:aC
 gA4:Int
 gA8:Int
def bJ.enc(s:bJ):AV := .st 14 [(aC.enc s.gR),(aC.enc s.gS),(aC.enc s.gUp),(aC.enc s.gU),(j64 s.gA4),(j64 s.gA8)]
structure aY where
 gW:Int
 gH:Int
 gV:Int
 gA0:Int
 gA1:Int
 gO:Int
 gE:bJ
 gA5:Bool
def aY.enc(s:aY):AV := .st 21 [(j64 s.gW),(j64 s.gH),(j64 s.gV),(j64 s.gA0),(j64 s.gA1),(k64 s.gO),(bJ.enc s.gE),(eB s.gA5)]
structure aF where
 gC:Int
 gK:Int
 gL:(List Int)
 gA:bW
 gF:Int
 gD:aY
 gA3:Int
 gP:Int
 gA2:Int
 gA6:Int
 gA7:Int
def aF.enc(s:aF):AV := .st 46 [(j64 s.gC),(j64 s.gK),(eL 1 k8 s.gL),(bW.enc s.gA),(j64 s.gF),(aY.enc s.gD),(j64 s.gA3),(j64 s.gP),(k32 s.gA2),(j64 s.gA6),(j64 s.gA7)]
structure bL where
 gA9:Int
 gB0:(List Int)
 gQ:(List Int)
def bL.enc(s:bL):AV := .st 3 [(j64 s.gA9),(eL 1 j64 s.gB0),(eL 1 k8 s.gQ)]
structure aO where
 gl:(List ByteArray)
 gB1:Bool
def aO.enc(s:aO):AV := .st 2 [(eL 1 eS s.gl),(eB s.gB1)]
def tbl : TypeId->Option TI
 | 2=>some ⟨1,8,(.v (.int .i64 0)),.int .i64⟩
 | 3=>some ⟨1,8,(.v (.int .i64 0)),.int .i64⟩
 | 4=>some ⟨1,1,(.v (.bool false)),.bool⟩
 | 5=>some ⟨1,1,(.v (.int .u8 0)),.int .u8⟩
 | 9=>some ⟨1,16,(.v (.string (ByteArray.mk #[]))),.str⟩
 | 21=>some ⟨1,4,(.v (.int .i32 0)),.int .i32⟩
 | 22=>some ⟨1,24,(.v (.slice none 0 0)),.sl 5⟩
 | 23=>some ⟨1,8,(.v (.int .i64 0)),.int .i64⟩
 | 24=>some ⟨9,72,(.arr 9 1 (be 9 (.v (.int .i64 0)))),.arr 9 23⟩
 | 26=>some ⟨3,24,(.st 3 [(.v (.int .i64 0)),(.v (.int .i64 0)),(.v (.int .i64 0))]),.st [(0,23),(1,23),(2,23)]⟩
 | 28=>some ⟨12,96,(.st 12 [(.arr 9 1 (be 9 (.v (.int .i64 0)))),(.st 3 [(.v (.int .i64 0)),(.v (.int .i64 0)),(.v (.int .i64 0))])]),.st [(0,24),(9,26)]⟩
 | 30=>some ⟨16,128,(.st 16 [(.v (.int .i64 0)),(.v (.int .i64 0)),(.v (.int .i64 0)),(.v (.int .i64 0)),(.st 12 [(.arr 9 1 (be 9 (.v (.int .i64 0)))),(.st 3 [(.v (.int .i64 0)),(.v (.int .i64 0)),(.v (.int .i64 0))])])]),.st [(0,3),(1,3),(2,3),(3,3),(4,28)]⟩
 | 31=>some ⟨1,8,(.v (.int .u64 0)),.int .u64⟩
 | 33=>some ⟨3,24,(.st 3 [(.v (.int .i64 0)),(.v (.int .i64 0)),(.v (.int .i64 0))]),.st [(0,3),(1,3),(2,3)]⟩
 | 35=>some ⟨14,112,(.st 14 [(.st 3 [(.v (.int .i64 0)),(.v (.int .i64 0)),(.v (.int .i64 0))]),(.st 3 [(.v (.int .i64 0)),(.v (.int .i64 0)),(.v (.int .i64 0))]),(.st 3 [(.v (.int .i64 0)),(.v (.int .i64 0)),(.v (.int .i64 0))]),(.st 3 [(.v (.int .i64 0)),(.v (.int .i64 0)),(.v (.int .i64 0))]),(.v (.int .i64 0)),(.v (.int .i64 0))]),.st [(0,33),(3,33),(6,33),(9,33),(12,3),(13,3)]⟩
 | 37=>some ⟨21,168,(.st 21 [(.v (.int .i64 0)),(.v (.int .i64 0)),(.v (.int .i64 0)),(.v (.int .i64 0)),(.v (.int .i64 0)),(.v (.int .u64 0)),(.st 14 [(.st 3 [(.v (.int .i64 0)),(.v (.int .i64 0)),(.v (.int .i64 0))]),(.st 3 [(.v (.int .i64 0)),(.v (.int .i64 0)),(.v (.int .i64 0))]),(.st 3 [(.v (.int .i64 0)),(.v (.int .i64 0)),(.v (.int .i64 0))]),(.st 3 [(.v (.int .i64 0)),(.v (.int .i64 0)),(.v (.int .i64 0))]),(.v (.int .i64 0)),(.v (.int .i64 0))]),(.v (.bool false))]),.st [(0,3),(1,3),(2,3),(3,3),(4,3),(5,31),(6,35),(20,4)]⟩
 | 38=>some ⟨1,4,(.v (.int .u32 0)),.int .u32⟩
 | 40=>some ⟨46,384,(.st 46 [(.v (.int .i64 0)),(.v (.int .i64 0)),(.v (.slice none 0 0)),(.st 16 [(.v (.int .i64 0)),(.v (.int .i64 0)),(.v (.int .i64 0)),(.v (.int .i64 0)),(.st 12 [(.arr 9 1 (be 9 (.v (.int .i64 0)))),(.st 3 [(.v (.int .i64 0)),(.v (.int .i64 0)),(.v (.int .i64 0))])])]),(.v (.int .i64 0)),(.st 21 [(.v (.int .i64 0)),(.v (.int .i64 0)),(.v (.int .i64 0)),(.v (.int .i64 0)),(.v (.int .i64 0)),(.v (.int .u64 0)),(.st 14 [(.st 3 [(.v (.int .i64 0)),(.v (.int .i64 0)),(.v (.int .i64 0))]),(.st 3 [(.v (.int .i64 0)),(.v (.int .i64 0)),(.v (.int .i64 0))]),(.st 3 [(.v (.int .i64 0)),(.v (.int .i64 0)),(.v (.int .i64 0))]),(.st 3 [(.v (.int .i64 0)),(.v (.int .i64 0)),(.v (.int .i64 0))]),(.v (.int .i64 0)),(.v (.int .i64 0))]),(.v (.bool false))]),(.v (.int .i64 0)),(.v (.int .i64 0)),(.v (.int .u32 0)),(.v (.int .i64 0)),(.v (.int .i64 0))]),.st [(0,3),(1,3),(2,22),(3,30),(19,3),(20,37),(41,3),(42,3),(43,38),(44,3),(45,3)]⟩
 | 42=>some ⟨1,8,(.v (.int .i64 0)),.int .i64⟩
 | 52=>some ⟨1,24,(.v (.slice none 0 0)),.sl 3⟩
 | 54=>some ⟨3,56,(.st 3 [(.v (.int .i64 0)),(.v (.slice none 0 0)),(.v (.slice none 0 0))]),.st [(0,42),(1,52),(2,22)]⟩
 | 60=>some ⟨1,24,(.v (.slice none 0 0)),.sl 9⟩
 | 71=>some ⟨2,32,(.st 2 [(.v (.slice none 0 0)),(.v (.bool false))]),.st [(0,60),(1,4)]⟩
 | 79=>some ⟨1,24,(.v (.slice none 0 0)),.sl 40⟩
 | 82=>some ⟨2,32,(.st 2 [(.v (.slice none 0 0)),(.v (.int .i64 0))]),.st [(0,22),(1,42)]⟩
 | 87=>some ⟨1,24,(.v (.slice none 0 0)),.sl 33⟩
 | 92=>some ⟨1,16,(.v .nilIface),.other⟩
 | 96=>some ⟨1,24,(.v (.slice none 0 0)),.sl 23⟩
 | 109=>some ⟨2,32,(.st 2 [(.v (.slice none 0 0)),(.v (.bool false))]),.st [(0,22),(1,4)]⟩
 | 117=>some ⟨1,24,(.v (.slice none 0 0)),.sl 31⟩
 | _=>none
theorem hT : TOK Tryd.prog tbl:=by
 intro t i h;unfold tbl at h;split at h
 ·cases h;exact⟨⟨_,_,rfl,rfl,rfl,rfl,rfl,rfl⟩,⟨_,rfl,rfl⟩,rfl⟩
 ·cases h;exact⟨⟨_,_,rfl,rfl,rfl,rfl,rfl,rfl⟩,⟨_,rfl,rfl⟩,rfl⟩
 ·cases h;exact⟨⟨_,_,rfl,rfl,rfl,rfl,rfl,rfl⟩,⟨_,rfl,rfl⟩,rfl⟩
 ·cases h;exact⟨⟨_,_,rfl,rfl,rfl,rfl,rfl,rfl⟩,⟨_,rfl,rfl⟩,rfl⟩
 ·cases h;exact⟨⟨_,_,rfl,rfl,rfl,rfl,rfl,rfl⟩,⟨_,rfl,rfl⟩,rfl⟩
 ·cases h;exact⟨⟨_,_,rfl,rfl,rfl,rfl,rfl,rfl⟩,⟨_,rfl,rfl⟩,rfl⟩
 ·cases h;exact⟨⟨_,_,rfl,rfl,rfl,rfl,rfl,rfl⟩,⟨_,rfl,rfl⟩,rfl⟩
 ·cases h;exact⟨⟨_,_,rfl,rfl,rfl,rfl,rfl,rfl⟩,⟨_,rfl,rfl⟩,rfl⟩
 ·cases h;exact⟨⟨_,_,rfl,rfl,rfl,rfl,rfl,rfl⟩,⟨_,rfl,rfl⟩,rfl⟩
 ·cases h;exact⟨⟨_,_,rfl,rfl,rfl,rfl,rfl,rfl⟩,⟨_,rfl,⟨_,rfl,rfl⟩⟩,rfl⟩
 ·cases h;exact⟨⟨_,_,rfl,rfl,rfl,rfl,rfl,rfl⟩,⟨_,rfl,⟨_,rfl,rfl⟩⟩,rfl⟩
 ·cases h;exact⟨⟨_,_,rfl,rfl,rfl,rfl,rfl,rfl⟩,⟨_,rfl,⟨_,rfl,rfl⟩⟩,rfl⟩
 ·cases h;exact⟨⟨_,_,rfl,rfl,rfl,rfl,rfl,rfl⟩,⟨_,rfl,rfl⟩,rfl⟩
 ·cases h;exact⟨⟨_,_,rfl,rfl,rfl,rfl,rfl,rfl⟩,⟨_,rfl,⟨_,rfl,rfl⟩⟩,rfl⟩
 ·cases h;exact⟨⟨_,_,rfl,rfl,rfl,rfl,rfl,rfl⟩,⟨_,rfl,⟨_,rfl,rfl⟩⟩,rfl⟩
 ·cases h;exact⟨⟨_,_,rfl,rfl,rfl,rfl,rfl,rfl⟩,⟨_,rfl,⟨_,rfl,rfl⟩⟩,rfl⟩
 ·cases h;exact⟨⟨_,_,rfl,rfl,rfl,rfl,rfl,rfl⟩,⟨_,rfl,rfl⟩,rfl⟩
 ·cases h;exact⟨⟨_,_,rfl,rfl,rfl,rfl,rfl,rfl⟩,⟨_,rfl,⟨_,rfl,rfl⟩⟩,rfl⟩
 ·cases h;exact⟨⟨_,_,rfl,rfl,rfl,rfl,rfl,rfl⟩,⟨_,rfl,rfl⟩,rfl⟩
 ·cases h;exact⟨⟨_,_,rfl,rfl,rfl,rfl,rfl,rfl⟩,⟨_,rfl,rfl⟩,rfl⟩
 ·cases h;exact⟨⟨_,_,rfl,rfl,rfl,rfl,rfl,rfl⟩,⟨_,rfl,⟨_,rfl,rfl⟩⟩,rfl⟩
 ·cases h;exact⟨⟨_,_,rfl,rfl,rfl,rfl,rfl,rfl⟩,⟨_,rfl,rfl⟩,rfl⟩
 ·cases h;exact⟨⟨_,_,rfl,rfl,rfl,rfl,rfl,rfl⟩,⟨_,rfl,⟨_,rfl,rfl⟩⟩,rfl⟩
 ·cases h;exact⟨⟨_,_,rfl,rfl,rfl,rfl,rfl,rfl⟩,⟨_,rfl,rfl⟩,rfl⟩
 ·cases h;exact⟨⟨_,_,rfl,rfl,rfl,rfl,rfl,rfl⟩,⟨_,rfl,⟨_,rfl,rfl⟩⟩,rfl⟩
 ·cases h;exact⟨⟨_,_,rfl,rfl,rfl,rfl,rfl,rfl⟩,⟨_,rfl,rfl⟩,rfl⟩
 ·cases h;exact⟨⟨_,_,rfl,rfl,rfl,rfl,rfl,rfl⟩,⟨_,rfl,(by unfold TK.fits;exact⟨(by intro fs h;cases h),(by intro n e h;cases h)⟩)⟩,rfl⟩
 ·cases h;exact⟨⟨_,_,rfl,rfl,rfl,rfl,rfl,rfl⟩,⟨_,rfl,rfl⟩,rfl⟩
 ·cases h;exact⟨⟨_,_,rfl,rfl,rfl,rfl,rfl,rfl⟩,⟨_,rfl,⟨_,rfl,rfl⟩⟩,rfl⟩
 ·cases h;exact⟨⟨_,_,rfl,rfl,rfl,rfl,rfl,rfl⟩,⟨_,rfl,rfl⟩,rfl⟩
 ·cases h
theorem hmo : Tryd.prog.follows .mixedOrders=true:=by rfl
def yR : ByteArray:=(ByteArray.mk #[117,110,108,111,97,100])
def qG : ByteArray:=(ByteArray.mk #[108,97,121,101,114])
def yU : ByteArray:=(ByteArray.mk #[114,101,110,100,101,114])
def zJ : ByteArray:=(ByteArray.mk #[103,114,97,110,116])
def aAP : ByteArray:=(ByteArray.mk #[101,120,112,111,114,116])
def aAF : ByteArray:=(ByteArray.mk #[113,117,101,114,121])
def vD : ByteArray:=(ByteArray.mk #[48,49,50,51,52,53,54,55,56,57,97,98,99,100,101,102])
def aDZ : ByteArray:=(ByteArray.mk #[48,49,50,51,52,53,54,55,56,57])
def aE7 : ByteArray:=(ByteArray.mk #[45,57,50,50,51,51,55,50,48,51,54,56,53,52,55,55,53,56,48,56])
def aBD : ByteArray:=(ByteArray.mk #[115,104,111,114,116])
def xX : ByteArray:=(ByteArray.mk #[111,114,100,101,114])
def xS : ByteArray:=(ByteArray.mk #[113,117,111,116,97])
def yC : ByteArray:=(ByteArray.mk #[115,116,97,108,101])
def xO : ByteArray:=(ByteArray.mk #[119,105,110,100,111,119])
def xT : ByteArray:=(ByteArray.mk #[115,112,101,110,116])
def aFE : ByteArray:=(ByteArray.mk #[113,117,101,114,121,32,51])
def aF8 : ByteArray:=(ByteArray.mk #[116,105,99,107,32,48,48,55])
abbrev vW : AV:=(.st 16 [(j64 0),(j64 0),(j64 0),(j64 0),(.st 12 [(eA 9 1 j64 (Vector.replicate 9 0)),(.st 3 [(j64 0),(j64 0),(j64 0)])])])
abbrev vL : AV:=(.st 21 [(j64 0),(j64 0),(j64 0),(j64 0),(j64 0),(k64 0),(.st 14 [(.st 3 [(j64 0),(j64 0),(j64 0)]),(.st 3 [(j64 0),(j64 0),(j64 0)]),(.st 3 [(j64 0),(j64 0),(j64 0)]),(.st 3 [(j64 0),(j64 0),(j64 0)]),(j64 0),(j64 0)]),(eB false)])
abbrev aCT : AV:=(.st 14 [(.st 3 [(j64 0),(j64 0),(j64 0)]),(.st 3 [(j64 0),(j64 0),(j64 0)]),(.st 3 [(j64 0),(j64 0),(j64 0)]),(.st 3 [(j64 0),(j64 0),(j64 0)]),(j64 0),(j64 0)])
end Go.UK
