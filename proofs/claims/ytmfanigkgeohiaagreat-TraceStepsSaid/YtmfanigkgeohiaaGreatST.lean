/- A part of the proof: what the functions of the program compute. -/
import Derived.Test.YtmfanigkgeohiaaGreatLib13
import Derived.Test.YtmfanigkgeohiaaGreatChecked
namespace Go.UK
open Go Go.Proofs
set_option maxRecDepth 20000
set_option maxHeartbeats 40000000
set_option linter.all false

instance : cF := ⟨⟨[], [(88, "Any", 289), (88, "Nearest", 290), (88, "Steps", 291), (91, "Any", 301), (91, "Nearest", 302), (309, "umbra/lamp.comes", 308), (313, "umbra/lamp.comes", 309)]⟩⟩

structure aC where
 gX : Int
 gY : Int
 gZ : Int

def aC.enc (s : aC) : AV := .st 3 [(j64 s.gX), (j64 s.gY), (j64 s.gZ)]

structure aG where
 gP : (Vector aC 3)
 gUv : (Vector (Vector Int 2) 3)
 gC1 : Int
 gB2 : Int
 gB3 : Int
 gC5 : Int

def aG.enc (s : aG) : AV := .st 19 [(eA 9 3 aC.enc s.gP), (eA 6 2 (eA 2 1 j64) s.gUv), (j64 s.gC1), (j64 s.gB2), (j64 s.gB3), (k8 s.gC5)]

structure aQ where
 gA0 : Int
 gA2 : (Vector Int 3)
 gC6 : Int

def aQ.enc (s : aQ) : AV := .st 5 [(j64 s.gA0), (eA 3 1 j64 s.gA2), (j64 s.gC6)]

structure aD where
 gF : Int
 gO : (List (Vector Int 3))

def aD.enc (s : aD) : AV := .st 2 [(j64 s.gF), (eL 3 (eA 3 1 j64) s.gO)]

structure aP where
 gA0 : Int
 gA2 : (Vector Int 3)
 gAt : aC
 gU : aC
 gV : aC

def aP.enc (s : aP) : AV := .st 13 [(j64 s.gA0), (eA 3 1 j64 s.gA2), (aC.enc s.gAt), (aC.enc s.gU), (aC.enc s.gV)]

structure aE where
 gQ : (List aG)
 gA3 : (List aQ)
 gR : (List aD)
 gL : (List aP)
 gA7 : (List Int)
 gA8 : (List Int)
 gB4 : Int
 gB5 : Int
 gTo : Int

def aE.enc (s : aE) : AV := .st 9 [(eL 19 aG.enc s.gQ), (eL 5 aQ.enc s.gA3), (eL 2 aD.enc s.gR), (eL 13 aP.enc s.gL), (eL 1 k64 s.gA7), (eL 1 k32 s.gA8), (k32 s.gB4), (k32 s.gB5), (k32 s.gTo)]

structure bK where
 gN : aC
 gB6 : aC
 gUp : aC
 gD3 : aC
 gC2 : Int
 gC3 : Int

def bK.enc (s : bK) : AV := .st 14 [(aC.enc s.gN), (aC.enc s.gB6), (aC.enc s.gUp), (aC.enc s.gD3), (j64 s.gC2), (j64 s.gC3)]

structure aI where
 gW : Int
 gH : Int
 gS : Int
 gJ : Int
 gI : Int
 gA4 : Int
 gA5 : bK
 gT : Bool

def aI.enc (s : aI) : AV := .st 21 [(j64 s.gW), (j64 s.gH), (j64 s.gS), (j64 s.gJ), (j64 s.gI), (k64 s.gA4), (bK.enc s.gA5), (eB s.gT)]

structure aO where
 gHi : Int
 gLo : Int

def aO.enc (s : aO) : AV := .st 2 [(j64 s.gHi), (k64 s.gLo)]

structure aB where
 gX : Int
 gY : Int
 gZ : Int

def aB.enc (s : aB) : AV := .st 3 [(j64 s.gX), (j64 s.gY), (j64 s.gZ)]

structure bE where
 gLo : aC
 gHi : aC
 gB8 : Int
 gB6 : Int
 gC7 : Int
 gD4 : Int

def bE.enc (s : bE) : AV := .st 10 [(aC.enc s.gLo), (aC.enc s.gHi), (j64 s.gB8), (j64 s.gB6), (j64 s.gC7), (j64 s.gD4)]

structure bB where
 gA9 : Int
 gB : Int
 gA1 : Int
 gD1 : Int

def bB.enc (s : bB) : AV := .st 4 [(j64 s.gA9), (j64 s.gB), (j64 s.gA1), (j64 s.gD1)]

structure bA where
 gn : Int
 glo : aC
 ghi : aC

def bA.enc (s : bA) : AV := .st 7 [(j64 s.gn), (aC.enc s.glo), (aC.enc s.ghi)]

structure bI where
 gC4 : (List bE)
 gE1 : (List Int)

def bI.enc (s : bI) : AV := .st 2 [(eL 10 bE.enc s.gC4), (eL 1 j64 s.gE1)]

structure aM where
 gM : bI
 gA : Bool
 gl : (List aG)
 gD5 : Int

def aM.enc (s : aM) : AV := .st 5 [(bI.enc s.gM), (eB s.gA), (eL 19 aG.enc s.gl), (j64 s.gD5)]

structure aF where
 gG : Int
 gK : Int
 gE : Int

def aF.enc (s : aF) : AV := .st 3 [(j64 s.gG), (j64 s.gK), (j64 s.gE)]

structure aK where
 go : aC
 gd : aC
 gE2 : Int

def aK.enc (s : aK) : AV := .st 7 [(aC.enc s.go), (aC.enc s.gd), (j64 s.gE2)]

structure aH where
 gA2 : aB
 gC8 : Int
 gJ : Int
 gC9 : aB
 gB3 : Int

def aH.enc (s : aH) : AV := .st 9 [(aB.enc s.gA2), (j64 s.gC8), (j64 s.gJ), (aB.enc s.gC9), (j64 s.gB3)]

structure bS where
 gD6 : Int
 gD7 : Int
 gD8 : Int

def bS.enc (s : bS) : AV := .st 3 [(k32 s.gD6), (k32 s.gD7), (k32 s.gD8)]

structure aS where
 gE6 : bS
 gis : Bool
 gE7 : (Vector Int 64)

def aS.enc (s : aS) : AV := .st 68 [(bS.enc s.gE6), (eB s.gis), (eA 64 1 k8 s.gE7)]

structure aA where
 gD9 : aS
 gA : Bool
 gC : Int
 gB : Int
 gD : Int

def aA.enc (s : aA) : AV := .st 72 [(aS.enc s.gD9), (eB s.gA), (k64 s.gC), (j64 s.gB), (j64 s.gD)]

structure bC where
 gn : Int
 gd : Int

def bC.enc (s : bC) : AV := .st 2 [(j64 s.gn), (j64 s.gd)]

structure aT where
 gB9 : Int
 gB1 : Int
 gU : Int
 gV : Int

def aT.enc (s : aT) : AV := .st 4 [(j64 s.gB9), (j64 s.gB1), (j64 s.gU), (j64 s.gV)]

structure aV where
 gi : Int
 gat : aC
 gn : aB
 gc : aB
 gA6 : aQ
 gB7 : Bool

def aV.enc (s : aV) : AV := .st 16 [(j64 s.gi), (aC.enc s.gat), (aB.enc s.gn), (aB.enc s.gc), (aQ.enc s.gA6), (eB s.gB7)]

structure tX where
 gD2 : aC

def tX.enc (s : tX) : AV := .st 3 [(aC.enc s.gD2)]

structure uL where
 gE8 : aC

def uL.enc (s : uL) : AV := .st 3 [(aC.enc s.gE8)]

structure jJ where
 gE3 : aC
 gE4 : Bool
 gE0 : Bool
 gC0 : aB

def jJ.enc (s : jJ) : AV := .st 8 [(aC.enc s.gE3), (eB s.gE4), (eB s.gE0), (aB.enc s.gC0)]

structure cI where
 gE5 : aC
 gC0 : aB
 gB0 : Bool

def cI.enc (s : cI) : AV := .st 7 [(aC.enc s.gE5), (aB.enc s.gC0), (eB s.gB0)]

structure iW where
 gn : Int

def iW.enc (s : iW) : AV := .st 1 [(j64 s.gn)]

structure aJ where
 gD0 : iW
 gA : Bool
 gl : (List aG)

def aJ.enc (s : aJ) : AV := .st 3 [(iW.enc s.gD0), (eB s.gA), (eL 19 aG.enc s.gl)]

def tbl : TypeId → Option TI
 | 2 => some ⟨1, 8, (.v (.int .i64 0)), .int .i64⟩
 | 3 => some ⟨1, 8, (.v (.int .i64 0)), .int .i64⟩
 | 4 => some ⟨1, 1, (.v (.bool false)), .bool⟩
 | 5 => some ⟨1, 1, (.v (.int .u8 0)), .int .u8⟩
 | 9 => some ⟨1, 16, (.v (.string (ByteArray.mk #[]))), .str⟩
 | 22 => some ⟨1, 24, (.v (.slice none 0 0)), .sl 61⟩
 | 23 => some ⟨1, 24, (.v (.slice none 0 0)), .sl 56⟩
 | 24 => some ⟨1, 24, (.v (.slice none 0 0)), .sl 64⟩
 | 25 => some ⟨1, 24, (.v (.slice none 0 0)), .sl 115⟩
 | 26 => some ⟨1, 24, (.v (.slice none 0 0)), .sl 31⟩
 | 27 => some ⟨1, 24, (.v (.slice none 0 0)), .sl 28⟩
 | 28 => some ⟨1, 4, (.v (.int .u32 0)), .int .u32⟩
 | 30 => some ⟨9, 160, (.st 9 [(.v (.slice none 0 0)), (.v (.slice none 0 0)), (.v (.slice none 0 0)), (.v (.slice none 0 0)), (.v (.slice none 0 0)), (.v (.slice none 0 0)), (.v (.int .u32 0)), (.v (.int .u32 0)), (.v (.int .u32 0))]), .st [(0, 22), (1, 23), (2, 24), (3, 25), (4, 26), (5, 27), (6, 28), (7, 28), (8, 28)]⟩
 | 31 => some ⟨1, 8, (.v (.int .u64 0)), .int .u64⟩
 | 33 => some ⟨3, 24, (.st 3 [(.v (.int .i64 0)), (.v (.int .i64 0)), (.v (.int .i64 0))]), .st [(0, 3), (1, 3), (2, 3)]⟩
 | 35 => some ⟨14, 112, (.st 14 [(.st 3 [(.v (.int .i64 0)), (.v (.int .i64 0)), (.v (.int .i64 0))]), (.st 3 [(.v (.int .i64 0)), (.v (.int .i64 0)), (.v (.int .i64 0))]), (.st 3 [(.v (.int .i64 0)), (.v (.int .i64 0)), (.v (.int .i64 0))]), (.st 3 [(.v (.int .i64 0)), (.v (.int .i64 0)), (.v (.int .i64 0))]), (.v (.int .i64 0)), (.v (.int .i64 0))]), .st [(0, 33), (3, 33), (6, 33), (9, 33), (12, 3), (13, 3)]⟩
 | 37 => some ⟨21, 168, (.st 21 [(.v (.int .i64 0)), (.v (.int .i64 0)), (.v (.int .i64 0)), (.v (.int .i64 0)), (.v (.int .i64 0)), (.v (.int .u64 0)), (.st 14 [(.st 3 [(.v (.int .i64 0)), (.v (.int .i64 0)), (.v (.int .i64 0))]), (.st 3 [(.v (.int .i64 0)), (.v (.int .i64 0)), (.v (.int .i64 0))]), (.st 3 [(.v (.int .i64 0)), (.v (.int .i64 0)), (.v (.int .i64 0))]), (.st 3 [(.v (.int .i64 0)), (.v (.int .i64 0)), (.v (.int .i64 0))]), (.v (.int .i64 0)), (.v (.int .i64 0))]), (.v (.bool false))]), .st [(0, 3), (1, 3), (2, 3), (3, 3), (4, 3), (5, 31), (6, 35), (20, 4)]⟩
 | 38 => some ⟨3, 24, (.arr 3 1 (List.replicate 3 (.v (.int .i64 0)))), .arr 3 3⟩
 | 40 => some ⟨1, 8, (.v (.pointer none)), .ptr 78⟩
 | 41 => some ⟨1, 8, (.v (.int .i64 0)), .int .i64⟩
 | 45 => some ⟨1, 8, (.v (.int .i64 0)), .int .i64⟩
 | 47 => some ⟨3, 24, (.st 3 [(.v (.int .i64 0)), (.v (.int .i64 0)), (.v (.int .i64 0))]), .st [(0, 45), (1, 45), (2, 45)]⟩
 | 49 => some ⟨9, 72, (.st 9 [(.st 3 [(.v (.int .i64 0)), (.v (.int .i64 0)), (.v (.int .i64 0))]), (.v (.int .i64 0)), (.v (.int .i64 0)), (.st 3 [(.v (.int .i64 0)), (.v (.int .i64 0)), (.v (.int .i64 0))]), (.v (.int .i64 0))]), .st [(0, 47), (3, 3), (4, 45), (5, 47), (8, 3)]⟩
 | 56 => some ⟨5, 40, (.st 5 [(.v (.int .i64 0)), (.arr 3 1 (List.replicate 3 (.v (.int .i64 0)))), (.v (.int .i64 0))]), .st [(0, 3), (1, 38), (4, 3)]⟩
 | 57 => some ⟨9, 72, (.arr 9 3 (List.replicate 3 (.st 3 [(.v (.int .i64 0)), (.v (.int .i64 0)), (.v (.int .i64 0))]))), .arr 3 33⟩
 | 58 => some ⟨2, 16, (.arr 2 1 (List.replicate 2 (.v (.int .i64 0)))), .arr 2 3⟩
 | 59 => some ⟨6, 48, (.arr 6 2 (List.replicate 3 (.arr 2 1 (List.replicate 2 (.v (.int .i64 0)))))), .arr 3 58⟩
 | 61 => some ⟨19, 152, (.st 19 [(.arr 9 3 (List.replicate 3 (.st 3 [(.v (.int .i64 0)), (.v (.int .i64 0)), (.v (.int .i64 0))]))), (.arr 6 2 (List.replicate 3 (.arr 2 1 (List.replicate 2 (.v (.int .i64 0)))))), (.v (.int .i64 0)), (.v (.int .i64 0)), (.v (.int .i64 0)), (.v (.int .u8 0))]), .st [(0, 57), (9, 59), (15, 3), (16, 3), (17, 3), (18, 5)]⟩
 | 62 => some ⟨1, 24, (.v (.slice none 0 0)), .sl 38⟩
 | 64 => some ⟨2, 32, (.st 2 [(.v (.int .i64 0)), (.v (.slice none 0 0))]), .st [(0, 3), (1, 62)]⟩
 | 71 => some ⟨3, 24, (.st 3 [(.v (.int .i64 0)), (.v (.int .i64 0)), (.v (.int .i64 0))]), .st [(0, 3), (1, 3), (2, 3)]⟩
 | 75 => some ⟨1, 16, (.v .nilIface), .other⟩
 | 76 => some ⟨1, 24, (.v (.slice none 0 0)), .sl 24⟩
 | 78 => some ⟨38, 416, (.st 38 [(.st 9 [(.v (.slice none 0 0)), (.v (.slice none 0 0)), (.v (.slice none 0 0)), (.v (.slice none 0 0)), (.v (.slice none 0 0)), (.v (.slice none 0 0)), (.v (.int .u32 0)), (.v (.int .u32 0)), (.v (.int .u32 0))]), (.st 21 [(.v (.int .i64 0)), (.v (.int .i64 0)), (.v (.int .i64 0)), (.v (.int .i64 0)), (.v (.int .i64 0)), (.v (.int .u64 0)), (.st 14 [(.st 3 [(.v (.int .i64 0)), (.v (.int .i64 0)), (.v (.int .i64 0))]), (.st 3 [(.v (.int .i64 0)), (.v (.int .i64 0)), (.v (.int .i64 0))]), (.st 3 [(.v (.int .i64 0)), (.v (.int .i64 0)), (.v (.int .i64 0))]), (.st 3 [(.v (.int .i64 0)), (.v (.int .i64 0)), (.v (.int .i64 0))]), (.v (.int .i64 0)), (.v (.int .i64 0))]), (.v (.bool false))]), (.v .nilIface), (.v (.slice none 0 0)), (.st 3 [(.v (.int .i64 0)), (.v (.int .i64 0)), (.v (.int .i64 0))]), (.st 3 [(.v (.int .i64 0)), (.v (.int .i64 0)), (.v (.int .i64 0))])]), .st [(0, 30), (9, 37), (30, 75), (31, 76), (32, 47), (35, 71)]⟩
 | 88 => some ⟨1, 8, (.v (.pointer none)), .ptr 157⟩
 | 91 => some ⟨1, 8, (.v (.pointer none)), .ptr 166⟩
 | 96 => some ⟨1, 8, (.v (.pointer none)), .ptr 173⟩
 | 99 => some ⟨7, 56, (.st 7 [(.st 3 [(.v (.int .i64 0)), (.v (.int .i64 0)), (.v (.int .i64 0))]), (.st 3 [(.v (.int .i64 0)), (.v (.int .i64 0)), (.v (.int .i64 0))]), (.v (.int .i64 0))]), .st [(0, 33), (3, 33), (6, 3)]⟩
 | 101 => some ⟨26, 208, (.st 26 [(.st 7 [(.st 3 [(.v (.int .i64 0)), (.v (.int .i64 0)), (.v (.int .i64 0))]), (.st 3 [(.v (.int .i64 0)), (.v (.int .i64 0)), (.v (.int .i64 0))]), (.v (.int .i64 0))]), (.v (.pointer none)), (.v (.pointer none)), (.st 3 [(.v (.int .i64 0)), (.v (.int .i64 0)), (.v (.int .i64 0))]), (.st 3 [(.v (.int .i64 0)), (.v (.int .i64 0)), (.v (.int .i64 0))]), (.v (.int .i64 0)), (.v (.bool false)), (.st 9 [(.st 3 [(.v (.int .i64 0)), (.v (.int .i64 0)), (.v (.int .i64 0))]), (.v (.int .i64 0)), (.v (.int .i64 0)), (.st 3 [(.v (.int .i64 0)), (.v (.int .i64 0)), (.v (.int .i64 0))]), (.v (.int .i64 0))])]), .st [(0, 99), (7, 40), (8, 96), (9, 47), (12, 47), (15, 3), (16, 4), (17, 49)]⟩
 | 102 => some ⟨4, 16, (.arr 4 1 (List.replicate 4 (.v (.int .u32 0)))), .arr 4 28⟩
 | 115 => some ⟨13, 104, (.st 13 [(.v (.int .i64 0)), (.arr 3 1 (List.replicate 3 (.v (.int .i64 0)))), (.st 3 [(.v (.int .i64 0)), (.v (.int .i64 0)), (.v (.int .i64 0))]), (.st 3 [(.v (.int .i64 0)), (.v (.int .i64 0)), (.v (.int .i64 0))]), (.st 3 [(.v (.int .i64 0)), (.v (.int .i64 0)), (.v (.int .i64 0))])]), .st [(0, 3), (1, 38), (4, 33), (7, 33), (10, 33)]⟩
 | 129 => some ⟨4, 32, (.st 4 [(.v (.int .i64 0)), (.v (.int .i64 0)), (.v (.int .i64 0)), (.v (.int .i64 0))]), .st [(0, 3), (1, 3), (2, 3), (3, 3)]⟩
 | 142 => some ⟨2, 8, (.arr 2 1 (List.replicate 2 (.v (.int .u32 0)))), .arr 2 28⟩
 | 144 => some ⟨7, 56, (.st 7 [(.st 3 [(.v (.int .i64 0)), (.v (.int .i64 0)), (.v (.int .i64 0))]), (.st 3 [(.v (.int .i64 0)), (.v (.int .i64 0)), (.v (.int .i64 0))]), (.v (.bool false))]), .st [(0, 33), (3, 47), (6, 4)]⟩
 | 148 => some ⟨1, 24, (.v (.slice none 0 0)), .sl 47⟩
 | 151 => some ⟨1, 8, (.v .nilFunc), .other⟩
 | 155 => some ⟨1, 8, (.st 1 [(.v (.int .i64 0))]), .st [(0, 3)]⟩
 | 157 => some ⟨3, 40, (.st 3 [(.st 1 [(.v (.int .i64 0))]), (.v (.bool false)), (.v (.slice none 0 0))]), .st [(0, 155), (1, 4), (2, 22)]⟩
 | 158 => some ⟨1, 24, (.v (.slice none 0 0)), .sl 243⟩
 | 159 => some ⟨1, 24, (.v (.slice none 0 0)), .sl 3⟩
 | 161 => some ⟨2, 48, (.st 2 [(.v (.slice none 0 0)), (.v (.slice none 0 0))]), .st [(0, 158), (1, 159)]⟩
 | 166 => some ⟨5, 88, (.st 5 [(.st 2 [(.v (.slice none 0 0)), (.v (.slice none 0 0))]), (.v (.bool false)), (.v (.slice none 0 0)), (.v (.int .i64 0))]), .st [(0, 161), (2, 4), (3, 22), (4, 3)]⟩
 | 168 => some ⟨3, 12, (.st 3 [(.v (.int .u32 0)), (.v (.int .u32 0)), (.v (.int .u32 0))]), .st [(0, 28), (1, 28), (2, 28)]⟩
 | 169 => some ⟨64, 64, (.arr 64 1 (List.replicate 64 (.v (.int .u8 0)))), .arr 64 5⟩
 | 171 => some ⟨68, 80, (.st 68 [(.st 3 [(.v (.int .u32 0)), (.v (.int .u32 0)), (.v (.int .u32 0))]), (.v (.bool false)), (.arr 64 1 (List.replicate 64 (.v (.int .u8 0))))]), .st [(0, 168), (3, 4), (4, 169)]⟩
 | 173 => some ⟨72, 112, (.st 72 [(.st 68 [(.st 3 [(.v (.int .u32 0)), (.v (.int .u32 0)), (.v (.int .u32 0))]), (.v (.bool false)), (.arr 64 1 (List.replicate 64 (.v (.int .u8 0))))]), (.v (.bool false)), (.v (.int .u64 0)), (.v (.int .i64 0)), (.v (.int .i64 0))]), .st [(0, 171), (68, 4), (69, 31), (70, 3), (71, 3)]⟩
 | 184 => some ⟨16, 128, (.st 16 [(.v (.int .i64 0)), (.st 3 [(.v (.int .i64 0)), (.v (.int .i64 0)), (.v (.int .i64 0))]), (.st 3 [(.v (.int .i64 0)), (.v (.int .i64 0)), (.v (.int .i64 0))]), (.st 3 [(.v (.int .i64 0)), (.v (.int .i64 0)), (.v (.int .i64 0))]), (.st 5 [(.v (.int .i64 0)), (.arr 3 1 (List.replicate 3 (.v (.int .i64 0)))), (.v (.int .i64 0))]), (.v (.bool false))]), .st [(0, 3), (1, 33), (4, 47), (7, 47), (10, 56), (15, 4)]⟩
 | 196 => some ⟨12, 12, (.arr 12 1 (List.replicate 12 (.v (.int .u8 0)))), .arr 12 5⟩
 | 198 => some ⟨32, 32, (.arr 32 1 (List.replicate 32 (.v (.int .u8 0)))), .arr 32 5⟩
 | 201 => some ⟨1, 24, (.v (.slice none 0 0)), .sl 5⟩
 | 214 => some ⟨1, 24, (.v (.slice none 0 0)), .sl 45⟩
 | 228 => some ⟨8, 56, (.st 8 [(.st 3 [(.v (.int .i64 0)), (.v (.int .i64 0)), (.v (.int .i64 0))]), (.v (.bool false)), (.v (.bool false)), (.st 3 [(.v (.int .i64 0)), (.v (.int .i64 0)), (.v (.int .i64 0))])]), .st [(0, 33), (3, 4), (4, 4), (5, 47)]⟩
 | 241 => some ⟨1, 24, (.v (.slice none 0 0)), .sl 33⟩
 | 243 => some ⟨10, 80, (.st 10 [(.st 3 [(.v (.int .i64 0)), (.v (.int .i64 0)), (.v (.int .i64 0))]), (.st 3 [(.v (.int .i64 0)), (.v (.int .i64 0)), (.v (.int .i64 0))]), (.v (.int .i64 0)), (.v (.int .i64 0)), (.v (.int .i64 0)), (.v (.int .i64 0))]), .st [(0, 33), (3, 33), (6, 3), (7, 3), (8, 3), (9, 3)]⟩
 | 245 => some ⟨4, 32, (.st 4 [(.v (.int .i64 0)), (.v (.int .i64 0)), (.v (.int .i64 0)), (.v (.int .i64 0))]), .st [(0, 3), (1, 3), (2, 3), (3, 3)]⟩
 | 246 => some ⟨1, 24, (.v (.slice none 0 0)), .sl 245⟩
 | 253 => some ⟨2, 16, (.st 2 [(.v (.int .i64 0)), (.v (.int .u64 0))]), .st [(0, 2), (1, 31)]⟩
 | 264 => some ⟨1, 8, (.v .nilFunc), .other⟩
 | 266 => some ⟨16, 64, (.arr 16 1 (List.replicate 16 (.v (.int .u32 0)))), .arr 16 28⟩
 | 269 => some ⟨1, 8, (.v (.int .u64 0)), .int .u64⟩
 | 309 => some ⟨3, 24, (.st 3 [(.st 3 [(.v (.int .i64 0)), (.v (.int .i64 0)), (.v (.int .i64 0))])]), .st [(0, 33)]⟩
 | 313 => some ⟨3, 24, (.st 3 [(.st 3 [(.v (.int .i64 0)), (.v (.int .i64 0)), (.v (.int .i64 0))])]), .st [(0, 33)]⟩
 | 329 => some ⟨7, 56, (.st 7 [(.v (.int .i64 0)), (.st 3 [(.v (.int .i64 0)), (.v (.int .i64 0)), (.v (.int .i64 0))]), (.st 3 [(.v (.int .i64 0)), (.v (.int .i64 0)), (.v (.int .i64 0))])]), .st [(0, 3), (1, 33), (4, 33)]⟩
 | 330 => some ⟨56, 448, (.arr 56 7 (List.replicate 8 (.st 7 [(.v (.int .i64 0)), (.st 3 [(.v (.int .i64 0)), (.v (.int .i64 0)), (.v (.int .i64 0))]), (.st 3 [(.v (.int .i64 0)), (.v (.int .i64 0)), (.v (.int .i64 0))])]))), .arr 8 329⟩
 | 332 => some ⟨4, 32, (.arr 4 1 (List.replicate 4 (.v (.int .i64 0)))), .arr 4 3⟩
 | 333 => some ⟨32, 256, (.arr 32 4 (List.replicate 8 (.arr 4 1 (List.replicate 4 (.v (.int .i64 0)))))), .arr 8 332⟩
 | 339 => some ⟨12, 96, (.arr 12 3 (List.replicate 4 (.arr 3 1 (List.replicate 3 (.v (.int .i64 0)))))), .arr 4 38⟩
 | 340 => some ⟨1, 24, (.v (.slice none 0 0)), .sl 253⟩
 | 365 => some ⟨2, 16, (.st 2 [(.v (.int .i64 0)), (.v (.int .i64 0))]), .st [(0, 3), (1, 3)]⟩
 | 369 => some ⟨12, 96, (.arr 12 4 (List.replicate 3 (.arr 4 1 (List.replicate 4 (.v (.int .i64 0)))))), .arr 3 332⟩
 | _ => none

theorem hT : TOK Tryz.prog tbl := by
 intro t i h
 unfold tbl at h
 split at h
 ·cases h; exact ⟨⟨_, _, rfl, rfl, rfl, rfl, rfl, rfl⟩, ⟨_, rfl, rfl⟩, rfl⟩
 ·cases h; exact ⟨⟨_, _, rfl, rfl, rfl, rfl, rfl, rfl⟩, ⟨_, rfl, rfl⟩, rfl⟩
 ·cases h; exact ⟨⟨_, _, rfl, rfl, rfl, rfl, rfl, rfl⟩, ⟨_, rfl, rfl⟩, rfl⟩
 ·cases h; exact ⟨⟨_, _, rfl, rfl, rfl, rfl, rfl, rfl⟩, ⟨_, rfl, rfl⟩, rfl⟩
 ·cases h; exact ⟨⟨_, _, rfl, rfl, rfl, rfl, rfl, rfl⟩, ⟨_, rfl, rfl⟩, rfl⟩
 ·cases h; exact ⟨⟨_, _, rfl, rfl, rfl, rfl, rfl, rfl⟩, ⟨_, rfl, rfl⟩, rfl⟩
 ·cases h; exact ⟨⟨_, _, rfl, rfl, rfl, rfl, rfl, rfl⟩, ⟨_, rfl, rfl⟩, rfl⟩
 ·cases h; exact ⟨⟨_, _, rfl, rfl, rfl, rfl, rfl, rfl⟩, ⟨_, rfl, rfl⟩, rfl⟩
 ·cases h; exact ⟨⟨_, _, rfl, rfl, rfl, rfl, rfl, rfl⟩, ⟨_, rfl, rfl⟩, rfl⟩
 ·cases h; exact ⟨⟨_, _, rfl, rfl, rfl, rfl, rfl, rfl⟩, ⟨_, rfl, rfl⟩, rfl⟩
 ·cases h; exact ⟨⟨_, _, rfl, rfl, rfl, rfl, rfl, rfl⟩, ⟨_, rfl, rfl⟩, rfl⟩
 ·cases h; exact ⟨⟨_, _, rfl, rfl, rfl, rfl, rfl, rfl⟩, ⟨_, rfl, rfl⟩, rfl⟩
 ·cases h; exact ⟨⟨_, _, rfl, rfl, rfl, rfl, rfl, rfl⟩, ⟨_, rfl, ⟨_, rfl, rfl⟩⟩, rfl⟩
 ·cases h; exact ⟨⟨_, _, rfl, rfl, rfl, rfl, rfl, rfl⟩, ⟨_, rfl, rfl⟩, rfl⟩
 ·cases h; exact ⟨⟨_, _, rfl, rfl, rfl, rfl, rfl, rfl⟩, ⟨_, rfl, ⟨_, rfl, rfl⟩⟩, rfl⟩
 ·cases h; exact ⟨⟨_, _, rfl, rfl, rfl, rfl, rfl, rfl⟩, ⟨_, rfl, ⟨_, rfl, rfl⟩⟩, rfl⟩
 ·cases h; exact ⟨⟨_, _, rfl, rfl, rfl, rfl, rfl, rfl⟩, ⟨_, rfl, ⟨_, rfl, rfl⟩⟩, rfl⟩
 ·cases h; exact ⟨⟨_, _, rfl, rfl, rfl, rfl, rfl, rfl⟩, ⟨_, rfl, rfl⟩, rfl⟩
 ·cases h; exact ⟨⟨_, _, rfl, rfl, rfl, rfl, rfl, rfl⟩, ⟨_, rfl, rfl⟩, rfl⟩
 ·cases h; exact ⟨⟨_, _, rfl, rfl, rfl, rfl, rfl, rfl⟩, ⟨_, rfl, rfl⟩, rfl⟩
 ·cases h; exact ⟨⟨_, _, rfl, rfl, rfl, rfl, rfl, rfl⟩, ⟨_, rfl, rfl⟩, rfl⟩
 ·cases h; exact ⟨⟨_, _, rfl, rfl, rfl, rfl, rfl, rfl⟩, ⟨_, rfl, ⟨_, rfl, rfl⟩⟩, rfl⟩
 ·cases h; exact ⟨⟨_, _, rfl, rfl, rfl, rfl, rfl, rfl⟩, ⟨_, rfl, ⟨_, rfl, rfl⟩⟩, rfl⟩
 ·cases h; exact ⟨⟨_, _, rfl, rfl, rfl, rfl, rfl, rfl⟩, ⟨_, rfl, ⟨_, rfl, rfl⟩⟩, rfl⟩
 ·cases h; exact ⟨⟨_, _, rfl, rfl, rfl, rfl, rfl, rfl⟩, ⟨_, rfl, rfl⟩, rfl⟩
 ·cases h; exact ⟨⟨_, _, rfl, rfl, rfl, rfl, rfl, rfl⟩, ⟨_, rfl, rfl⟩, rfl⟩
 ·cases h; exact ⟨⟨_, _, rfl, rfl, rfl, rfl, rfl, rfl⟩, ⟨_, rfl, rfl⟩, rfl⟩
 ·cases h; exact ⟨⟨_, _, rfl, rfl, rfl, rfl, rfl, rfl⟩, ⟨_, rfl, ⟨_, rfl, rfl⟩⟩, rfl⟩
 ·cases h; exact ⟨⟨_, _, rfl, rfl, rfl, rfl, rfl, rfl⟩, ⟨_, rfl, rfl⟩, rfl⟩
 ·cases h; exact ⟨⟨_, _, rfl, rfl, rfl, rfl, rfl, rfl⟩, ⟨_, rfl, ⟨_, rfl, rfl⟩⟩, rfl⟩
 ·cases h; exact ⟨⟨_, _, rfl, rfl, rfl, rfl, rfl, rfl⟩, ⟨_, rfl, ⟨_, rfl, rfl⟩⟩, rfl⟩
 ·cases h; exact ⟨⟨_, _, rfl, rfl, rfl, rfl, rfl, rfl⟩, ⟨_, rfl, (by unfold TK.fits; exact ⟨(by intro fs h; cases h), (by intro n e h; cases h)⟩)⟩, rfl⟩
 ·cases h; exact ⟨⟨_, _, rfl, rfl, rfl, rfl, rfl, rfl⟩, ⟨_, rfl, rfl⟩, rfl⟩
 ·cases h; exact ⟨⟨_, _, rfl, rfl, rfl, rfl, rfl, rfl⟩, ⟨_, rfl, ⟨_, rfl, rfl⟩⟩, rfl⟩
 ·cases h; exact ⟨⟨_, _, rfl, rfl, rfl, rfl, rfl, rfl⟩, ⟨_, rfl, rfl⟩, rfl⟩
 ·cases h; exact ⟨⟨_, _, rfl, rfl, rfl, rfl, rfl, rfl⟩, ⟨_, rfl, rfl⟩, rfl⟩
 ·cases h; exact ⟨⟨_, _, rfl, rfl, rfl, rfl, rfl, rfl⟩, ⟨_, rfl, rfl⟩, rfl⟩
 ·cases h; exact ⟨⟨_, _, rfl, rfl, rfl, rfl, rfl, rfl⟩, ⟨_, rfl, ⟨_, rfl, rfl⟩⟩, rfl⟩
 ·cases h; exact ⟨⟨_, _, rfl, rfl, rfl, rfl, rfl, rfl⟩, ⟨_, rfl, ⟨_, rfl, rfl⟩⟩, rfl⟩
 ·cases h; exact ⟨⟨_, _, rfl, rfl, rfl, rfl, rfl, rfl⟩, ⟨_, rfl, rfl⟩, rfl⟩
 ·cases h; exact ⟨⟨_, _, rfl, rfl, rfl, rfl, rfl, rfl⟩, ⟨_, rfl, ⟨_, rfl, rfl⟩⟩, rfl⟩
 ·cases h; exact ⟨⟨_, _, rfl, rfl, rfl, rfl, rfl, rfl⟩, ⟨_, rfl, ⟨_, rfl, rfl⟩⟩, rfl⟩
 ·cases h; exact ⟨⟨_, _, rfl, rfl, rfl, rfl, rfl, rfl⟩, ⟨_, rfl, rfl⟩, rfl⟩
 ·cases h; exact ⟨⟨_, _, rfl, rfl, rfl, rfl, rfl, rfl⟩, ⟨_, rfl, ⟨_, rfl, rfl⟩⟩, rfl⟩
 ·cases h; exact ⟨⟨_, _, rfl, rfl, rfl, rfl, rfl, rfl⟩, ⟨_, rfl, rfl⟩, rfl⟩
 ·cases h; exact ⟨⟨_, _, rfl, rfl, rfl, rfl, rfl, rfl⟩, ⟨_, rfl, (by unfold TK.fits; exact ⟨(by intro fs h; cases h), (by intro n e h; cases h)⟩)⟩, rfl⟩
 ·cases h; exact ⟨⟨_, _, rfl, rfl, rfl, rfl, rfl, rfl⟩, ⟨_, rfl, ⟨_, rfl, rfl⟩⟩, rfl⟩
 ·cases h; exact ⟨⟨_, _, rfl, rfl, rfl, rfl, rfl, rfl⟩, ⟨_, rfl, ⟨_, rfl, rfl⟩⟩, rfl⟩
 ·cases h; exact ⟨⟨_, _, rfl, rfl, rfl, rfl, rfl, rfl⟩, ⟨_, rfl, rfl⟩, rfl⟩
 ·cases h; exact ⟨⟨_, _, rfl, rfl, rfl, rfl, rfl, rfl⟩, ⟨_, rfl, rfl⟩, rfl⟩
 ·cases h; exact ⟨⟨_, _, rfl, rfl, rfl, rfl, rfl, rfl⟩, ⟨_, rfl, ⟨_, rfl, rfl⟩⟩, rfl⟩
 ·cases h; exact ⟨⟨_, _, rfl, rfl, rfl, rfl, rfl, rfl⟩, ⟨_, rfl, ⟨_, rfl, rfl⟩⟩, rfl⟩
 ·cases h; exact ⟨⟨_, _, rfl, rfl, rfl, rfl, rfl, rfl⟩, ⟨_, rfl, ⟨_, rfl, rfl⟩⟩, rfl⟩
 ·cases h; exact ⟨⟨_, _, rfl, rfl, rfl, rfl, rfl, rfl⟩, ⟨_, rfl, rfl⟩, rfl⟩
 ·cases h; exact ⟨⟨_, _, rfl, rfl, rfl, rfl, rfl, rfl⟩, ⟨_, rfl, ⟨_, rfl, rfl⟩⟩, rfl⟩
 ·cases h; exact ⟨⟨_, _, rfl, rfl, rfl, rfl, rfl, rfl⟩, ⟨_, rfl, ⟨_, rfl, rfl⟩⟩, rfl⟩
 ·cases h; exact ⟨⟨_, _, rfl, rfl, rfl, rfl, rfl, rfl⟩, ⟨_, rfl, ⟨_, rfl, rfl⟩⟩, rfl⟩
 ·cases h; exact ⟨⟨_, _, rfl, rfl, rfl, rfl, rfl, rfl⟩, ⟨_, rfl, rfl⟩, rfl⟩
 ·cases h; exact ⟨⟨_, _, rfl, rfl, rfl, rfl, rfl, rfl⟩, ⟨_, rfl, rfl⟩, rfl⟩
 ·cases h; exact ⟨⟨_, _, rfl, rfl, rfl, rfl, rfl, rfl⟩, ⟨_, rfl, rfl⟩, rfl⟩
 ·cases h; exact ⟨⟨_, _, rfl, rfl, rfl, rfl, rfl, rfl⟩, ⟨_, rfl, rfl⟩, rfl⟩
 ·cases h; exact ⟨⟨_, _, rfl, rfl, rfl, rfl, rfl, rfl⟩, ⟨_, rfl, ⟨_, rfl, rfl⟩⟩, rfl⟩
 ·cases h; exact ⟨⟨_, _, rfl, rfl, rfl, rfl, rfl, rfl⟩, ⟨_, rfl, rfl⟩, rfl⟩
 ·cases h; exact ⟨⟨_, _, rfl, rfl, rfl, rfl, rfl, rfl⟩, ⟨_, rfl, ⟨_, rfl, rfl⟩⟩, rfl⟩
 ·cases h; exact ⟨⟨_, _, rfl, rfl, rfl, rfl, rfl, rfl⟩, ⟨_, rfl, ⟨_, rfl, rfl⟩⟩, rfl⟩
 ·cases h; exact ⟨⟨_, _, rfl, rfl, rfl, rfl, rfl, rfl⟩, ⟨_, rfl, rfl⟩, rfl⟩
 ·cases h; exact ⟨⟨_, _, rfl, rfl, rfl, rfl, rfl, rfl⟩, ⟨_, rfl, ⟨_, rfl, rfl⟩⟩, rfl⟩
 ·cases h; exact ⟨⟨_, _, rfl, rfl, rfl, rfl, rfl, rfl⟩, ⟨_, rfl, (by unfold TK.fits; exact ⟨(by intro fs h; cases h), (by intro n e h; cases h)⟩)⟩, rfl⟩
 ·cases h; exact ⟨⟨_, _, rfl, rfl, rfl, rfl, rfl, rfl⟩, ⟨_, rfl, rfl⟩, rfl⟩
 ·cases h; exact ⟨⟨_, _, rfl, rfl, rfl, rfl, rfl, rfl⟩, ⟨_, rfl, rfl⟩, rfl⟩
 ·cases h; exact ⟨⟨_, _, rfl, rfl, rfl, rfl, rfl, rfl⟩, ⟨_, rfl, ⟨_, rfl, rfl⟩⟩, rfl⟩
 ·cases h; exact ⟨⟨_, _, rfl, rfl, rfl, rfl, rfl, rfl⟩, ⟨_, rfl, ⟨_, rfl, rfl⟩⟩, rfl⟩
 ·cases h; exact ⟨⟨_, _, rfl, rfl, rfl, rfl, rfl, rfl⟩, ⟨_, rfl, ⟨_, rfl, rfl⟩⟩, rfl⟩
 ·cases h; exact ⟨⟨_, _, rfl, rfl, rfl, rfl, rfl, rfl⟩, ⟨_, rfl, rfl⟩, rfl⟩
 ·cases h; exact ⟨⟨_, _, rfl, rfl, rfl, rfl, rfl, rfl⟩, ⟨_, rfl, rfl⟩, rfl⟩
 ·cases h; exact ⟨⟨_, _, rfl, rfl, rfl, rfl, rfl, rfl⟩, ⟨_, rfl, rfl⟩, rfl⟩
 ·cases h; exact ⟨⟨_, _, rfl, rfl, rfl, rfl, rfl, rfl⟩, ⟨_, rfl, rfl⟩, rfl⟩
 ·cases h; exact ⟨⟨_, _, rfl, rfl, rfl, rfl, rfl, rfl⟩, ⟨_, rfl, rfl⟩, rfl⟩
 ·cases h; exact ⟨⟨_, _, rfl, rfl, rfl, rfl, rfl, rfl⟩, ⟨_, rfl, ⟨_, rfl, rfl⟩⟩, rfl⟩
 ·cases h; exact ⟨⟨_, _, rfl, rfl, rfl, rfl, rfl, rfl⟩, ⟨_, rfl, rfl⟩, rfl⟩
 ·cases h

theorem hmo : Tryz.prog.follows .mixedOrders = true := by rfl

theorem tt2 : tbl 2 = some ⟨1, 8, (.v (.int .i64 0)), .int .i64⟩ := rfl

theorem tt3 : tbl 3 = some ⟨1, 8, (.v (.int .i64 0)), .int .i64⟩ := rfl

theorem tt28 : tbl 28 = some ⟨1, 4, (.v (.int .u32 0)), .int .u32⟩ := rfl

theorem tt31 : tbl 31 = some ⟨1, 8, (.v (.int .u64 0)), .int .u64⟩ := rfl

theorem tt45 : tbl 45 = some ⟨1, 8, (.v (.int .i64 0)), .int .i64⟩ := rfl

theorem tt47 : tbl 47 = some ⟨3, 24, (.st 3 [(.v (.int .i64 0)), (.v (.int .i64 0)), (.v (.int .i64 0))]), .st [(0, 45), (1, 45), (2, 45)]⟩ := rfl

theorem aD9 : EqT Tryz.prog 3 (α := Int) j64 (fun a b => a == b) 1 :=
 aDI Tryz.underlying3

def aC.eq (a b : aC) : Bool := (fun a b => a == b) a.gX b.gX && ((fun a b => a == b) a.gY b.gY && ((fun a b => a == b) a.gZ b.gZ && true))
theorem aAd : EqT Tryz.prog 33 (α := aC) aC.enc aC.eq 2 :=
 vY (N := 3) Tryz.underlying33 (by kernel_rfl) (fun _ => rfl) (fun a b => jO hT a.gX b.gX (by decide) rfl tt3 rfl (fun _ => rfl) (fun _ => rfl) (fun _ => rfl) aD9 (by decide) (jO hT a.gY b.gY (by decide) rfl tt3 rfl (fun _ => rfl) (fun _ => rfl) (fun _ => rfl) aD9 (by decide) (jO hT a.gZ b.gZ (by decide) rfl tt3 rfl (fun _ => rfl) (fun _ => rfl) (fun _ => rfl) aD9 (by decide) (aBt))))

theorem aJp : EqT Tryz.prog 28 (α := Int) k32 (fun a b => a == b) 1 :=
 aDI Tryz.underlying28

def bS.eq (a b : bS) : Bool := (fun a b => a == b) a.gD6 b.gD6 && ((fun a b => a == b) a.gD7 b.gD7 && ((fun a b => a == b) a.gD8 b.gD8 && true))
theorem aO8 : EqT Tryz.prog 168 (α := bS) bS.enc bS.eq 2 :=
 vY (N := 3) Tryz.underlying168 (by kernel_rfl) (fun _ => rfl) (fun a b => jO hT a.gD6 b.gD6 (by decide) rfl tt28 rfl (fun _ => rfl) (fun _ => rfl) (fun _ => rfl) aJp (by decide) (jO hT a.gD7 b.gD7 (by decide) rfl tt28 rfl (fun _ => rfl) (fun _ => rfl) (fun _ => rfl) aJp (by decide) (jO hT a.gD8 b.gD8 (by decide) rfl tt28 rfl (fun _ => rfl) (fun _ => rfl) (fun _ => rfl) aJp (by decide) (aBt))))

theorem eqT_2 : EqT Tryz.prog 2 (α := Int) j64 (fun a b => a == b) 1 :=
 aDI Tryz.underlying2

theorem aQA : EqT Tryz.prog 31 (α := Int) k64 (fun a b => a == b) 1 :=
 aDI Tryz.underlying31

def aO.eq (a b : aO) : Bool := (fun a b => a == b) a.gHi b.gHi && ((fun a b => a == b) a.gLo b.gLo && true)
theorem aO2 : EqT Tryz.prog 253 (α := aO) aO.enc aO.eq 2 :=
 vY (N := 2) Tryz.underlying253 (by kernel_rfl) (fun _ => rfl) (fun a b => jO hT a.gHi b.gHi (by decide) rfl tt2 rfl (fun _ => rfl) (fun _ => rfl) (fun _ => rfl) eqT_2 (by decide) (jO hT a.gLo b.gLo (by decide) rfl tt31 rfl (fun _ => rfl) (fun _ => rfl) (fun _ => rfl) aQA (by decide) (aBt)))

theorem aHG : EqT Tryz.prog 45 (α := Int) j64 (fun a b => a == b) 1 :=
 aDI Tryz.underlying45

def aB.eq (a b : aB) : Bool := (fun a b => a == b) a.gX b.gX && ((fun a b => a == b) a.gY b.gY && ((fun a b => a == b) a.gZ b.gZ && true))
theorem aMh : EqT Tryz.prog 47 (α := aB) aB.enc aB.eq 2 :=
 vY (N := 3) Tryz.underlying47 (by kernel_rfl) (fun _ => rfl) (fun a b => jO hT a.gX b.gX (by decide) rfl tt45 rfl (fun _ => rfl) (fun _ => rfl) (fun _ => rfl) aHG (by decide) (jO hT a.gY b.gY (by decide) rfl tt45 rfl (fun _ => rfl) (fun _ => rfl) (fun _ => rfl) aHG (by decide) (jO hT a.gZ b.gZ (by decide) rfl tt45 rfl (fun _ => rfl) (fun _ => rfl) (fun _ => rfl) aHG (by decide) (aBt))))

def aH.eq (a b : aH) : Bool := aB.eq a.gA2 b.gA2 && ((fun a b => a == b) a.gC8 b.gC8 && ((fun a b => a == b) a.gJ b.gJ && (aB.eq a.gC9 b.gC9 && ((fun a b => a == b) a.gB3 b.gB3 && true))))
theorem aQd : EqT Tryz.prog 49 (α := aH) aH.enc aH.eq 3 :=
 vY (N := 9) Tryz.underlying49 (by kernel_rfl) (fun _ => rfl) (fun a b => jO hT a.gA2 b.gA2 (by decide) rfl tt47 rfl (fun _ => rfl) (fun _ => rfl) (fun _ => rfl) aMh (by decide) (jO hT a.gC8 b.gC8 (by decide) rfl tt3 rfl (fun _ => rfl) (fun _ => rfl) (fun _ => rfl) aD9 (by decide) (jO hT a.gJ b.gJ (by decide) rfl tt45 rfl (fun _ => rfl) (fun _ => rfl) (fun _ => rfl) aHG (by decide) (jO hT a.gC9 b.gC9 (by decide) rfl tt47 rfl (fun _ => rfl) (fun _ => rfl) (fun _ => rfl) aMh (by decide) (jO hT a.gB3 b.gB3 (by decide) rfl tt3 rfl (fun _ => rfl) (fun _ => rfl) (fun _ => rfl) aD9 (by decide) (aBt))))))

def aF.eq (a b : aF) : Bool := (fun a b => a == b) a.gG b.gG && ((fun a b => a == b) a.gK b.gK && ((fun a b => a == b) a.gE b.gE && true))
theorem aJc : EqT Tryz.prog 71 (α := aF) aF.enc aF.eq 2 :=
 vY (N := 3) Tryz.underlying71 (by kernel_rfl) (fun _ => rfl) (fun a b => jO hT a.gG b.gG (by decide) rfl tt3 rfl (fun _ => rfl) (fun _ => rfl) (fun _ => rfl) aD9 (by decide) (jO hT a.gK b.gK (by decide) rfl tt3 rfl (fun _ => rfl) (fun _ => rfl) (fun _ => rfl) aD9 (by decide) (jO hT a.gE b.gE (by decide) rfl tt3 rfl (fun _ => rfl) (fun _ => rfl) (fun _ => rfl) aD9 (by decide) (aBt))))

def aKp : ByteArray := (ByteArray.mk (List.toArray (List.append (List.append [0, 1, 2, 2, 3, 3, 3, 3, 4, 4, 4, 4, 4, 4, 4, 4, 5, 5, 5, 5, 5, 5, 5, 5, 5, 5, 5, 5, 5, 5, 5, 5, 6, 6, 6, 6, 6, 6, 6, 6, 6, 6, 6, 6, 6, 6, 6, 6, 6, 6, 6, 6, 6, 6, 6, 6, 6, 6, 6, 6, 6, 6, 6, 6] [7, 7, 7, 7, 7, 7, 7, 7, 7, 7, 7, 7, 7, 7, 7, 7, 7, 7, 7, 7, 7, 7, 7, 7, 7, 7, 7, 7, 7, 7, 7, 7, 7, 7, 7, 7, 7, 7, 7, 7, 7, 7, 7, 7, 7, 7, 7, 7, 7, 7, 7, 7, 7, 7, 7, 7, 7, 7, 7, 7, 7, 7, 7, 7]) (List.append [8, 8, 8, 8, 8, 8, 8, 8, 8, 8, 8, 8, 8, 8, 8, 8, 8, 8, 8, 8, 8, 8, 8, 8, 8, 8, 8, 8, 8, 8, 8, 8, 8, 8, 8, 8, 8, 8, 8, 8, 8, 8, 8, 8, 8, 8, 8, 8, 8, 8, 8, 8, 8, 8, 8, 8, 8, 8, 8, 8, 8, 8, 8, 8] [8, 8, 8, 8, 8, 8, 8, 8, 8, 8, 8, 8, 8, 8, 8, 8, 8, 8, 8, 8, 8, 8, 8, 8, 8, 8, 8, 8, 8, 8, 8, 8, 8, 8, 8, 8, 8, 8, 8, 8, 8, 8, 8, 8, 8, 8, 8, 8, 8, 8, 8, 8, 8, 8, 8, 8, 8, 8, 8, 8, 8, 8, 8, 8]))))

def str_1 : ByteArray := (ByteArray.mk #[117, 109, 98, 114, 97, 32, 115, 97, 109, 112, 108, 101, 32, 115, 116, 114, 101, 97, 109, 32, 118, 49])

abbrev aI4 : AV := (.st 16 [(j64 0), (.st 3 [(j64 0), (j64 0), (j64 0)]), (.st 3 [(j64 0), (j64 0), (j64 0)]), (.st 3 [(j64 0), (j64 0), (j64 0)]), (.st 5 [(j64 0), (.arr 3 1 [(j64 0), (j64 0), (j64 0)]), (j64 0)]), (eB false)])
abbrev aJS : AV := (.arr 32 4 [(.arr 4 1 [(j64 0), (j64 4), (j64 8), (j64 12)]), (.arr 4 1 [(j64 1), (j64 5), (j64 9), (j64 13)]), (.arr 4 1 [(j64 2), (j64 6), (j64 10), (j64 14)]), (.arr 4 1 [(j64 3), (j64 7), (j64 11), (j64 15)]), (.arr 4 1 [(j64 0), (j64 5), (j64 10), (j64 15)]), (.arr 4 1 [(j64 1), (j64 6), (j64 11), (j64 12)]), (.arr 4 1 [(j64 2), (j64 7), (j64 8), (j64 13)]), (.arr 4 1 [(j64 3), (j64 4), (j64 9), (j64 14)])])
abbrev aLx : AV := (.st 7 [(.st 3 [(j64 0), (j64 0), (j64 0)]), (.st 3 [(j64 0), (j64 0), (j64 0)]), (eB false)])
abbrev aMA : AV := (.st 8 [(.st 3 [(j64 0), (j64 0), (j64 0)]), (eB false), (eB false), (.st 3 [(j64 0), (j64 0), (j64 0)])])
abbrev cv_5 : AV := (.st 68 [(.st 3 [(k32 0), (k32 0), (k32 0)]), (eB false), (eA 64 1 k8 (Vector.replicate 64 0))])
abbrev cv_6 : AV := (.st 9 [(.st 3 [(j64 0), (j64 0), (j64 0)]), (j64 0), (j64 0), (.st 3 [(j64 0), (j64 0), (j64 0)]), (j64 0)])
abbrev cv_7 : AV := (.st 26 [(.st 7 [(.st 3 [(j64 0), (j64 0), (j64 0)]), (.st 3 [(j64 0), (j64 0), (j64 0)]), (j64 0)]), (.ref 0 [] 0), (.ref 4 [] 0), (.st 3 [(j64 4294967296), (j64 4294967296), (j64 4294967296)]), (.st 3 [(j64 0), (j64 0), (j64 0)]), (j64 0), (eB false), (.st 9 [(.st 3 [(j64 0), (j64 0), (j64 0)]), (j64 0), (j64 0), (.st 3 [(j64 0), (j64 0), (j64 0)]), (j64 (-1))])])
abbrev cv_8 : AV := (.st 10 [(.st 3 [(j64 0), (j64 0), (j64 0)]), (.st 3 [(j64 0), (j64 0), (j64 0)]), (j64 0), (j64 0), (j64 0), (j64 0)])
end Go.UK

