/- A part of the proof: what the functions of the program compute. -/
import Derived.Test.YtfndgielkmppbaaDoorLib14
import Derived.Test.YtfndgielkmppbaaDoorChecked
open List renaming replicate→bf
namespace Go.UK
open Go Go.Proofs Go.Sort Go.RowKit
set_option maxRecDepth 20000
set_option maxHeartbeats 40000000
set_option linter.all false
instance : bA:=⟨⟨[(1,pU .u64 Lib.pow10Tab),(4,[]),(5,[])],[]⟩⟩
theorem aA7 : (1,pU .u64 Lib.pow10Tab)∈bA.l:=List.mem_cons_self
theorem aGW : (4,[])∈bA.l := .tail _ (.head _)
theorem aGk : (5,[])∈bA.l := .tail _ (.tail _ (.head _))
structure bG where
 gX:Int
 gY:Int
 gZ:Int
def bG.enc(s:bG):AV := .st 3 [(j64 s.gX),(j64 s.gY),(j64 s.gZ)]
structure aK where
 gM:(Vector Int 9)
 gT:bG
def aK.enc(s:aK):AV := .st 12 [(eA 9 1 j64 s.gM),(bG.enc s.gT)]
structure aL where
 gA0:Int
 gV:Int
 gR:Int
 gN:Int
 gT:aK
def aL.enc(s:aL):AV := .st 16 [(j64 s.gA0),(j64 s.gV),(j64 s.gR),(j64 s.gN),(aK.enc s.gT)]
structure aA where
 gX:Int
 gY:Int
 gZ:Int
def aA.enc(s:aA):AV := .st 3 [(j64 s.gX),(j64 s.gY),(j64 s.gZ)]
structure aR where
 gJ:aA
 gG:aA
 gUp:aA
 gE:aA
 gQ:Int
 gP:Int
def aR.enc(s:aR):AV := .st 14 [(aA.enc s.gJ),(aA.enc s.gG),(aA.enc s.gUp),(aA.enc s.gE),(j64 s.gQ),(j64 s.gP)]
structure aP where
 gW:Int
 gH:Int
 gA7:Int
 gA6:Int
 gA5:Int
 gK:Int
 gA:aR
 gA2:Bool
def aP.enc(s:aP):AV := .st 21 [(j64 s.gW),(j64 s.gH),(j64 s.gA7),(j64 s.gA6),(j64 s.gA5),(k64 s.gK),(aR.enc s.gA),(eB s.gA2)]
structure aD where
 gD:Int
 gS:Int
 gL:(List Int)
 gC:aL
 gF:Int
 gI:aP
 gA4:Int
 gU:Int
 gA1:Int
 gA3:Int
 gA8:Int
def aD.enc(s:aD):AV := .st 46 [(j64 s.gD),(j64 s.gS),(eL 1 k8 s.gL),(aL.enc s.gC),(j64 s.gF),(aP.enc s.gI),(j64 s.gA4),(j64 s.gU),(k32 s.gA1),(j64 s.gA3),(j64 s.gA8)]
structure aF where
 gl:(List ByteArray)
 gA9:Bool
def aF.enc(s:aF):AV := .st 2 [(eL 1 eS s.gl),(eB s.gA9)]
def tbl : TypeId->Option TI
 | 2=>some ⟨1,8,(.v (.int .i64 0)),.int .i64⟩
 | 3=>some ⟨1,8,(.v (.int .i64 0)),.int .i64⟩
 | 4=>some ⟨1,1,(.v (.bool false)),.bool⟩
 | 5=>some ⟨1,1,(.v (.int .u8 0)),.int .u8⟩
 | 9=>some ⟨1,16,(.v (.string (ByteArray.mk #[]))),.str⟩
 | 21=>some ⟨1,4,(.v (.int .i32 0)),.int .i32⟩
 | 22=>some ⟨1,24,(.v (.slice none 0 0)),.sl 5⟩
 | 23=>some ⟨1,8,(.v (.int .i64 0)),.int .i64⟩
 | 24=>some ⟨9,72,(.arr 9 1 (bf 9 (.v (.int .i64 0)))),.arr 9 23⟩
 | 26=>some ⟨3,24,(.st 3 [(.v (.int .i64 0)),(.v (.int .i64 0)),(.v (.int .i64 0))]),.st [(0,23),(1,23),(2,23)]⟩
 | 28=>some ⟨12,96,(.st 12 [(.arr 9 1 (bf 9 (.v (.int .i64 0)))),(.st 3 [(.v (.int .i64 0)),(.v (.int .i64 0)),(.v (.int .i64 0))])]),.st [(0,24),(9,26)]⟩
 | 30=>some ⟨16,128,(.st 16 [(.v (.int .i64 0)),(.v (.int .i64 0)),(.v (.int .i64 0)),(.v (.int .i64 0)),(.st 12 [(.arr 9 1 (bf 9 (.v (.int .i64 0)))),(.st 3 [(.v (.int .i64 0)),(.v (.int .i64 0)),(.v (.int .i64 0))])])]),.st [(0,3),(1,3),(2,3),(3,3),(4,28)]⟩
 | 31=>some ⟨1,8,(.v (.int .u64 0)),.int .u64⟩
 | 33=>some ⟨3,24,(.st 3 [(.v (.int .i64 0)),(.v (.int .i64 0)),(.v (.int .i64 0))]),.st [(0,3),(1,3),(2,3)]⟩
 | 35=>some ⟨14,112,(.st 14 [(.st 3 [(.v (.int .i64 0)),(.v (.int .i64 0)),(.v (.int .i64 0))]),(.st 3 [(.v (.int .i64 0)),(.v (.int .i64 0)),(.v (.int .i64 0))]),(.st 3 [(.v (.int .i64 0)),(.v (.int .i64 0)),(.v (.int .i64 0))]),(.st 3 [(.v (.int .i64 0)),(.v (.int .i64 0)),(.v (.int .i64 0))]),(.v (.int .i64 0)),(.v (.int .i64 0))]),.st [(0,33),(3,33),(6,33),(9,33),(12,3),(13,3)]⟩
 | 37=>some ⟨21,168,(.st 21 [(.v (.int .i64 0)),(.v (.int .i64 0)),(.v (.int .i64 0)),(.v (.int .i64 0)),(.v (.int .i64 0)),(.v (.int .u64 0)),(.st 14 [(.st 3 [(.v (.int .i64 0)),(.v (.int .i64 0)),(.v (.int .i64 0))]),(.st 3 [(.v (.int .i64 0)),(.v (.int .i64 0)),(.v (.int .i64 0))]),(.st 3 [(.v (.int .i64 0)),(.v (.int .i64 0)),(.v (.int .i64 0))]),(.st 3 [(.v (.int .i64 0)),(.v (.int .i64 0)),(.v (.int .i64 0))]),(.v (.int .i64 0)),(.v (.int .i64 0))]),(.v (.bool false))]),.st [(0,3),(1,3),(2,3),(3,3),(4,3),(5,31),(6,35),(20,4)]⟩
 | 38=>some ⟨1,4,(.v (.int .u32 0)),.int .u32⟩
 | 40=>some ⟨46,384,(.st 46 [(.v (.int .i64 0)),(.v (.int .i64 0)),(.v (.slice none 0 0)),(.st 16 [(.v (.int .i64 0)),(.v (.int .i64 0)),(.v (.int .i64 0)),(.v (.int .i64 0)),(.st 12 [(.arr 9 1 (bf 9 (.v (.int .i64 0)))),(.st 3 [(.v (.int .i64 0)),(.v (.int .i64 0)),(.v (.int .i64 0))])])]),(.v (.int .i64 0)),(.st 21 [(.v (.int .i64 0)),(.v (.int .i64 0)),(.v (.int .i64 0)),(.v (.int .i64 0)),(.v (.int .i64 0)),(.v (.int .u64 0)),(.st 14 [(.st 3 [(.v (.int .i64 0)),(.v (.int .i64 0)),(.v (.int .i64 0))]),(.st 3 [(.v (.int .i64 0)),(.v (.int .i64 0)),(.v (.int .i64 0))]),(.st 3 [(.v (.int .i64 0)),(.v (.int .i64 0)),(.v (.int .i64 0))]),(.st 3 [(.v (.int .i64 0)),(.v (.int .i64 0)),(.v (.int .i64 0))]),(.v (.int .i64 0)),(.v (.int .i64 0))]),(.v (.bool false))]),(.v (.int .i64 0)),(.v (.int .i64 0)),(.v (.int .u32 0)),(.v (.int .i64 0)),(.v (.int .i64 0))]),.st [(0,3),(1,3),(2,22),(3,30),(19,3),(20,37),(41,3),(42,3),(43,38),(44,3),(45,3)]⟩
 | 42=>some ⟨1,8,(.v (.int .i64 0)),.int .i64⟩
 | 52=>some ⟨1,24,(.v (.slice none 0 0)),.sl 3⟩
 | 60=>some ⟨1,24,(.v (.slice none 0 0)),.sl 9⟩
 | 68=>some ⟨1,8,(.v (.pointer none)),.ptr 71⟩
 | 71=>some ⟨2,32,(.st 2 [(.v (.slice none 0 0)),(.v (.bool false))]),.st [(0,60),(1,4)]⟩
 | 79=>some ⟨1,24,(.v (.slice none 0 0)),.sl 40⟩
 | 82=>some ⟨2,32,(.st 2 [(.v (.slice none 0 0)),(.v (.int .i64 0))]),.st [(0,22),(1,42)]⟩
 | 87=>some ⟨1,24,(.v (.slice none 0 0)),.sl 33⟩
 | 92=>some ⟨1,16,(.v .nilIface),.other⟩
 | 96=>some ⟨1,24,(.v (.slice none 0 0)),.sl 23⟩
 | 117=>some ⟨1,24,(.v (.slice none 0 0)),.sl 31⟩
 | _=>none
theorem hT : TOK Tryd.prog tbl:=by
 intro t i h;unfold tbl at h;split at h
 ·cases h;exact⟨⟨_,_,rfl,rfl,rfl,rfl,rfl,rfl⟩,⟨_,rfl,rfl⟩,rfl⟩
 ·cases h;exact⟨⟨_,_,rfl,rfl,rfl,rfl,rfl,rfl⟩,⟨_,rfl,rfl⟩,rfl⟩
 ·cases h;exact⟨⟨_,_,rfl,rfl,rfl,rfl,rfl,rfl⟩,⟨_,rfl,rfl⟩,rfl⟩
 ·cases h;exact⟨⟨_,_,rfl,rfl,rfl,rfl,rfl,rfl⟩,⟨_,rfl,rfl⟩,rfl⟩
 ·cases h;exact⟨⟨_,_,rfl,rfl,rfl,rfl,rfl,rfl⟩,⟨_,rfl,rfl⟩,rfl⟩
 ·cases h;exact⟨⟨_,_,rfl,rfl,rfl,rfl,rfl,rfl⟩,⟨_,rfl,rfl⟩,rfl⟩
 ·cases h;exact⟨⟨_,_,rfl,rfl,rfl,rfl,rfl,rfl⟩,⟨_,rfl,rfl⟩,rfl⟩
 ·cases h;exact⟨⟨_,_,rfl,rfl,rfl,rfl,rfl,rfl⟩,⟨_,rfl,rfl⟩,rfl⟩
 ·cases h;exact⟨⟨_,_,rfl,rfl,rfl,rfl,rfl,rfl⟩,⟨_,rfl,rfl⟩,rfl⟩
 ·cases h;exact⟨⟨_,_,rfl,rfl,rfl,rfl,rfl,rfl⟩,⟨_,rfl,⟨_,rfl,rfl⟩⟩,rfl⟩
 ·cases h;exact⟨⟨_,_,rfl,rfl,rfl,rfl,rfl,rfl⟩,⟨_,rfl,⟨_,rfl,rfl⟩⟩,rfl⟩
 ·cases h;exact⟨⟨_,_,rfl,rfl,rfl,rfl,rfl,rfl⟩,⟨_,rfl,⟨_,rfl,rfl⟩⟩,rfl⟩
 ·cases h;exact⟨⟨_,_,rfl,rfl,rfl,rfl,rfl,rfl⟩,⟨_,rfl,rfl⟩,rfl⟩
 ·cases h;exact⟨⟨_,_,rfl,rfl,rfl,rfl,rfl,rfl⟩,⟨_,rfl,⟨_,rfl,rfl⟩⟩,rfl⟩
 ·cases h;exact⟨⟨_,_,rfl,rfl,rfl,rfl,rfl,rfl⟩,⟨_,rfl,⟨_,rfl,rfl⟩⟩,rfl⟩
 ·cases h;exact⟨⟨_,_,rfl,rfl,rfl,rfl,rfl,rfl⟩,⟨_,rfl,⟨_,rfl,rfl⟩⟩,rfl⟩
 ·cases h;exact⟨⟨_,_,rfl,rfl,rfl,rfl,rfl,rfl⟩,⟨_,rfl,rfl⟩,rfl⟩
 ·cases h;exact⟨⟨_,_,rfl,rfl,rfl,rfl,rfl,rfl⟩,⟨_,rfl,⟨_,rfl,rfl⟩⟩,rfl⟩
 ·cases h;exact⟨⟨_,_,rfl,rfl,rfl,rfl,rfl,rfl⟩,⟨_,rfl,rfl⟩,rfl⟩
 ·cases h;exact⟨⟨_,_,rfl,rfl,rfl,rfl,rfl,rfl⟩,⟨_,rfl,rfl⟩,rfl⟩
 ·cases h;exact⟨⟨_,_,rfl,rfl,rfl,rfl,rfl,rfl⟩,⟨_,rfl,rfl⟩,rfl⟩
 ·cases h;exact⟨⟨_,_,rfl,rfl,rfl,rfl,rfl,rfl⟩,⟨_,rfl,rfl⟩,rfl⟩
 ·cases h;exact⟨⟨_,_,rfl,rfl,rfl,rfl,rfl,rfl⟩,⟨_,rfl,⟨_,rfl,rfl⟩⟩,rfl⟩
 ·cases h;exact⟨⟨_,_,rfl,rfl,rfl,rfl,rfl,rfl⟩,⟨_,rfl,rfl⟩,rfl⟩
 ·cases h;exact⟨⟨_,_,rfl,rfl,rfl,rfl,rfl,rfl⟩,⟨_,rfl,⟨_,rfl,rfl⟩⟩,rfl⟩
 ·cases h;exact⟨⟨_,_,rfl,rfl,rfl,rfl,rfl,rfl⟩,⟨_,rfl,rfl⟩,rfl⟩
 ·cases h;exact⟨⟨_,_,rfl,rfl,rfl,rfl,rfl,rfl⟩,⟨_,rfl,(by unfold TK.fits;exact⟨(by intro fs h;cases h),(by intro n e h;cases h)⟩)⟩,rfl⟩
 ·cases h;exact⟨⟨_,_,rfl,rfl,rfl,rfl,rfl,rfl⟩,⟨_,rfl,rfl⟩,rfl⟩
 ·cases h;exact⟨⟨_,_,rfl,rfl,rfl,rfl,rfl,rfl⟩,⟨_,rfl,rfl⟩,rfl⟩
 ·cases h
theorem hmo : Tryd.prog.follows .mixedOrders=true:=by rfl
def aD8 : ByteArray:=(ByteArray.mk #[117,110,108,111,97,100])
def aD9 : ByteArray:=(ByteArray.mk #[108,97,121,101,114])
def aCi : ByteArray:=(ByteArray.mk #[114,101,110,100,101,114])
def aCw : ByteArray:=(ByteArray.mk #[103,114,97,110,116])
def aDE : ByteArray:=(ByteArray.mk #[101,120,112,111,114,116])
def aEB : ByteArray:=(ByteArray.mk #[113,117,101,114,121])
def aAx : ByteArray:=(ByteArray.mk #[48,49,50,51,52,53,54,55,56,57,97,98,99,100,101,102])
def str_7 : ByteArray:=(ByteArray.mk #[113,117,101,114,121,32,51])
def str_8 : ByteArray:=(ByteArray.mk #[116,105,99,107,32,48,48,55])
abbrev zD : AV:=(.st 16 [(j64 0),(j64 0),(j64 0),(j64 0),(.st 12 [(eA 9 1 j64 (Vector.replicate 9 0)),(.st 3 [(j64 0),(j64 0),(j64 0)])])])
abbrev yU : AV:=(.st 21 [(j64 0),(j64 0),(j64 0),(j64 0),(j64 0),(k64 0),(.st 14 [(.st 3 [(j64 0),(j64 0),(j64 0)]),(.st 3 [(j64 0),(j64 0),(j64 0)]),(.st 3 [(j64 0),(j64 0),(j64 0)]),(.st 3 [(j64 0),(j64 0),(j64 0)]),(j64 0),(j64 0)]),(eB false)])
abbrev aCz : AV:=(.st 14 [(.st 3 [(j64 0),(j64 0),(j64 0)]),(.st 3 [(j64 0),(j64 0),(j64 0)]),(.st 3 [(j64 0),(j64 0),(j64 0)]),(.st 3 [(j64 0),(j64 0),(j64 0)]),(j64 0),(j64 0)])
end Go.UK
