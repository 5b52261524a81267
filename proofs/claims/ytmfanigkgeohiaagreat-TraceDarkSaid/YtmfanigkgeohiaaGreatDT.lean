/- A part of the proof: what the functions of the program compute. -/
import Derived.Test.YtmfanigkgeohiaaGreatLib13
import Derived.Test.YtmfanigkgeohiaaGreatChecked
namespace Go.UK
open Go Go.Proofs
set_option maxRecDepth 20000
set_option maxHeartbeats 40000000
set_option linter.all false

instance : cD := ⟨⟨[], [(88, "Any", 289), (88, "Nearest", 290), (91, "Any", 301), (91, "Nearest", 302), (309, "umbra/lamp.comes", 308), (313, "umbra/lamp.comes", 309)]⟩⟩

structure aC where
 gX : Int
 gY : Int
 gZ : Int

def aC.enc (s : aC) : AV := .st 3 [(j64 s.gX), (j64 s.gY), (j64 s.gZ)]

structure aG where
 gP : (Vector aC 3)
 gUv : (Vector (Vector Int 2) 3)
 gB9 : Int
 gB0 : Int
 gB5 : Int
 gC7 : Int

def aG.enc (s : aG) : AV := .st 19 [(eA 9 3 aC.enc s.gP), (eA 6 2 (eA 2 1 j64) s.gUv), (j64 s.gB9), (j64 s.gB0), (j64 s.gB5), (k8 s.gC7)]

structure aO where
 gO : Int
 gS : (Vector Int 3)
 gC1 : Int

def aO.enc (s : aO) : AV := .st 5 [(j64 s.gO), (eA 3 1 j64 s.gS), (j64 s.gC1)]

structure aD where
 gE : Int
 gQ : (List (Vector Int 3))

def aD.enc (s : aD) : AV := .st 2 [(j64 s.gE), (eL 3 (eA 3 1 j64) s.gQ)]

structure aR where
 gO : Int
 gS : (Vector Int 3)
 gAt : aC
 gU : aC
 gV : aC

def aR.enc (s : aR) : AV := .st 13 [(j64 s.gO), (eA 3 1 j64 s.gS), (aC.enc s.gAt), (aC.enc s.gU), (aC.enc s.gV)]

structure aE where
 gK : (List aG)
 gT : (List aO)
 gL : (List aD)
 gJ : (List aR)
 gR : (List Int)
 gA0 : (List Int)
 gA3 : Int
 gA4 : Int
 gTo : Int

def aE.enc (s : aE) : AV := .st 9 [(eL 19 aG.enc s.gK), (eL 5 aO.enc s.gT), (eL 2 aD.enc s.gL), (eL 13 aR.enc s.gJ), (eL 1 k64 s.gR), (eL 1 k32 s.gA0), (k32 s.gA3), (k32 s.gA4), (k32 s.gTo)]

structure bM where
 gA1 : aC
 gA9 : aC
 gUp : aC
 gD5 : aC
 gC2 : Int
 gC4 : Int

def bM.enc (s : bM) : AV := .st 14 [(aC.enc s.gA1), (aC.enc s.gA9), (aC.enc s.gUp), (aC.enc s.gD5), (j64 s.gC2), (j64 s.gC4)]

structure aI where
 gW : Int
 gH : Int
 gC0 : Int
 gA5 : Int
 gI : Int
 gC8 : Int
 gD6 : bM
 gA2 : Bool

def aI.enc (s : aI) : AV := .st 21 [(j64 s.gW), (j64 s.gH), (j64 s.gC0), (j64 s.gA5), (j64 s.gI), (k64 s.gC8), (bM.enc s.gD6), (eB s.gA2)]

structure aP where
 gHi : Int
 gLo : Int

def aP.enc (s : aP) : AV := .st 2 [(j64 s.gHi), (k64 s.gLo)]

structure aB where
 gX : Int
 gY : Int
 gZ : Int

def aB.enc (s : aB) : AV := .st 3 [(j64 s.gX), (j64 s.gY), (j64 s.gZ)]

structure bG where
 gLo : aC
 gHi : aC
 gB1 : Int
 gA9 : Int
 gC3 : Int
 gC9 : Int

def bG.enc (s : bG) : AV := .st 10 [(aC.enc s.gLo), (aC.enc s.gHi), (j64 s.gB1), (j64 s.gA9), (j64 s.gC3), (j64 s.gC9)]

structure bD where
 gB2 : Int
 gB : Int
 gA7 : Int
 gD1 : Int

def bD.enc (s : bD) : AV := .st 4 [(j64 s.gB2), (j64 s.gB), (j64 s.gA7), (j64 s.gD1)]

structure bC where
 gn : Int
 glo : aC
 ghi : aC

def bC.enc (s : bC) : AV := .st 7 [(j64 s.gn), (aC.enc s.glo), (aC.enc s.ghi)]

structure bA where
 gA8 : (List bG)
 gD2 : (List Int)

def bA.enc (s : bA) : AV := .st 2 [(eL 10 bG.enc s.gA8), (eL 1 j64 s.gD2)]

structure aL where
 gM : bA
 gA : Bool
 gl : (List aG)
 gD0 : Int

def aL.enc (s : aL) : AV := .st 5 [(bA.enc s.gM), (eB s.gA), (eL 19 aG.enc s.gl), (j64 s.gD0)]

structure aJ where
 gF : Int
 gN : Int
 gG : Int

def aJ.enc (s : aJ) : AV := .st 3 [(j64 s.gF), (j64 s.gN), (j64 s.gG)]

structure aH where
 go : aC
 gd : aC
 gE2 : Int

def aH.enc (s : aH) : AV := .st 7 [(aC.enc s.go), (aC.enc s.gd), (j64 s.gE2)]

structure aF where
 gS : aB
 gC5 : Int
 gA5 : Int
 gC6 : aB
 gB5 : Int

def aF.enc (s : aF) : AV := .st 9 [(aB.enc s.gS), (j64 s.gC5), (j64 s.gA5), (aB.enc s.gC6), (j64 s.gB5)]

structure bP where
 gD7 : Int
 gD8 : Int
 gD9 : Int

def bP.enc (s : bP) : AV := .st 3 [(k32 s.gD7), (k32 s.gD8), (k32 s.gD9)]

structure aS where
 gE6 : bP
 gis : Bool
 gE7 : (Vector Int 64)

def aS.enc (s : aS) : AV := .st 68 [(bP.enc s.gE6), (eB s.gis), (eA 64 1 k8 s.gE7)]

structure aA where
 gE0 : aS
 gA : Bool
 gC : Int
 gB : Int
 gD : Int

def aA.enc (s : aA) : AV := .st 72 [(aS.enc s.gE0), (eB s.gA), (k64 s.gC), (j64 s.gB), (j64 s.gD)]

structure aY where
 gn : Int
 gd : Int

def aY.enc (s : aY) : AV := .st 2 [(j64 s.gn), (j64 s.gd)]

structure aQ where
 gB7 : Int
 gB4 : Int
 gU : Int
 gV : Int

def aQ.enc (s : aQ) : AV := .st 4 [(j64 s.gB7), (j64 s.gB4), (j64 s.gU), (j64 s.gV)]

structure aU where
 gi : Int
 gat : aC
 gn : aB
 gc : aB
 gA6 : aO
 gB6 : Bool

def aU.enc (s : aU) : AV := .st 16 [(j64 s.gi), (aC.enc s.gat), (aB.enc s.gn), (aB.enc s.gc), (aO.enc s.gA6), (eB s.gB6)]

structure tN where
 gD3 : aC

def tN.enc (s : tN) : AV := .st 3 [(aC.enc s.gD3)]

structure tT where
 gE8 : aC

def tT.enc (s : tT) : AV := .st 3 [(aC.enc s.gE8)]

structure iV where
 gE3 : aC
 gE4 : Bool
 gE1 : Bool
 gB8 : aB

def iV.enc (s : iV) : AV := .st 8 [(aC.enc s.gE3), (eB s.gE4), (eB s.gE1), (aB.enc s.gB8)]

structure cH where
 gE5 : aC
 gB8 : aB
 gB3 : Bool

def cH.enc (s : cH) : AV := .st 7 [(aC.enc s.gE5), (aB.enc s.gB8), (eB s.gB3)]

structure kW where
 gn : Int

def kW.enc (s : kW) : AV := .st 1 [(j64 s.gn)]

structure aK where
 gD4 : kW
 gA : Bool
 gl : (List aG)

def aK.enc (s : aK) : AV := .st 3 [(kW.enc s.gD4), (eB s.gA), (eL 19 aG.enc s.gl)]

def tbl : TypeId → Option TI
 | 2 => some ⟨1, 8, (.v (.int .i64 0)), .int .i64⟩
 | 3 => some ⟨1, 8, (.v (.int .i64 0)), .int .i64⟩
 | 4 => some ⟨1, 1, (.v (.bool false)), .bool⟩
 | 5 => some ⟨1, 1, (.v (.int .u8 0)), .int .u8⟩
 | 9 => some ⟨1, 16, (.v (.string (ByteArray.mk #[]))), .str⟩
 | 22 => some ⟨1, 24, (.v (.slice none 0 0)), .sl 61⟩
 | 23 => some ⟨1, 24, (.v (.slice none 0 0)), .sl 56⟩
 | 24 => some ⟨1, 24, (.v (.slice none 0 0)), .sl 64⟩
 | 25 => some ⟨1, 24, (.v (.slice none 0 0)), .sl 115⟩
 | 26 => some ⟨1, 24, (.v (.slice none 0 0)), .sl 31⟩
 | 27 => some ⟨1, 24, (.v (.slice none 0 0)), .sl 28⟩
 | 28 => some ⟨1, 4, (.v (.int .u32 0)), .int .u32⟩
 | 30 => some ⟨9, 160, (.st 9 [(.v (.slice none 0 0)), (.v (.slice none 0 0)), (.v (.slice none 0 0)), (.v (.slice none 0 0)), (.v (.slice none 0 0)), (.v (.slice none 0 0)), (.v (.int .u32 0)), (.v (.int .u32 0)), (.v (.int .u32 0))]), .st [(0, 22), (1, 23), (2, 24), (3, 25), (4, 26), (5, 27), (6, 28), (7, 28), (8, 28)]⟩
 | 31 => some ⟨1, 8, (.v (.int .u64 0)), .int .u64⟩
 | 33 => some ⟨3, 24, (.st 3 [(.v (.int .i64 0)), (.v (.int .i64 0)), (.v (.int .i64 0))]), .st [(0, 3), (1, 3), (2, 3)]⟩
 | 35 => some ⟨14, 112, (.st 14 [(.st 3 [(.v (.int .i64 0)), (.v (.int .i64 0)), (.v (.int .i64 0))]), (.st 3 [(.v (.int .i64 0)), (.v (.int .i64 0)), (.v (.int .i64 0))]), (.st 3 [(.v (.int .i64 0)), (.v (.int .i64 0)), (.v (.int .i64 0))]), (.st 3 [(.v (.int .i64 0)), (.v (.int .i64 0)), (.v (.int .i64 0))]), (.v (.int .i64 0)), (.v (.int .i64 0))]), .st [(0, 33), (3, 33), (6, 33), (9, 33), (12, 3), (13, 3)]⟩
 | 37 => some ⟨21, 168, (.st 21 [(.v (.int .i64 0)), (.v (.int .i64 0)), (.v (.int .i64 0)), (.v (.int .i64 0)), (.v (.int .i64 0)), (.v (.int .u64 0)), (.st 14 [(.st 3 [(.v (.int .i64 0)), (.v (.int .i64 0)), (.v (.int .i64 0))]), (.st 3 [(.v (.int .i64 0)), (.v (.int .i64 0)), (.v (.int .i64 0))]), (.st 3 [(.v (.int .i64 0)), (.v (.int .i64 0)), (.v (.int .i64 0))]), (.st 3 [(.v (.int .i64 0)), (.v (.int .i64 0)), (.v (.int .i64 0))]), (.v (.int .i64 0)), (.v (.int .i64 0))]), (.v (.bool false))]), .st [(0, 3), (1, 3), (2, 3), (3, 3), (4, 3), (5, 31), (6, 35), (20, 4)]⟩
 | 38 => some ⟨3, 24, (.arr 3 1 (List.replicate 3 (.v (.int .i64 0)))), .arr 3 3⟩
 | 40 => some ⟨1, 8, (.v (.pointer none)), .ptr 78⟩
 | 41 => some ⟨1, 8, (.v (.int .i64 0)), .int .i64⟩
 | 45 => some ⟨1, 8, (.v (.int .i64 0)), .int .i64⟩
 | 47 => some ⟨3, 24, (.st 3 [(.v (.int .i64 0)), (.v (.int .i64 0)), (.v (.int .i64 0))]), .st [(0, 45), (1, 45), (2, 45)]⟩
 | 49 => some ⟨9, 72, (.st 9 [(.st 3 [(.v (.int .i64 0)), (.v (.int .i64 0)), (.v (.int .i64 0))]), (.v (.int .i64 0)), (.v (.int .i64 0)), (.st 3 [(.v (.int .i64 0)), (.v (.int .i64 0)), (.v (.int .i64 0))]), (.v (.int .i64 0))]), .st [(0, 47), (3, 3), (4, 45), (5, 47), (8, 3)]⟩
 | 56 => some ⟨5, 40, (.st 5 [(.v (.int .i64 0)), (.arr 3 1 (List.replicate 3 (.v (.int .i64 0)))), (.v (.int .i64 0))]), .st [(0, 3), (1, 38), (4, 3)]⟩
 | 57 => some ⟨9, 72, (.arr 9 3 (List.replicate 3 (.st 3 [(.v (.int .i64 0)), (.v (.int .i64 0)), (.v (.int .i64 0))]))), .arr 3 33⟩
 | 58 => some ⟨2, 16, (.arr 2 1 (List.replicate 2 (.v (.int .i64 0)))), .arr 2 3⟩
 | 59 => some ⟨6, 48, (.arr 6 2 (List.replicate 3 (.arr 2 1 (List.replicate 2 (.v (.int .i64 0)))))), .arr 3 58⟩
 | 61 => some ⟨19, 152, (.st 19 [(.arr 9 3 (List.replicate 3 (.st 3 [(.v (.int .i64 0)), (.v (.int .i64 0)), (.v (.int .i64 0))]))), (.arr 6 2 (List.replicate 3 (.arr 2 1 (List.replicate 2 (.v (.int .i64 0)))))), (.v (.int .i64 0)), (.v (.int .i64 0)), (.v (.int .i64 0)), (.v (.int .u8 0))]), .st [(0, 57), (9, 59), (15, 3), (16, 3), (17, 3), (18, 5)]⟩
 | 62 => some ⟨1, 24, (.v (.slice none 0 0)), .sl 38⟩
 | 64 => some ⟨2, 32, (.st 2 [(.v (.int .i64 0)), (.v (.slice none 0 0))]), .st [(0, 3), (1, 62)]⟩
 | 71 => some ⟨3, 24, (.st 3 [(.v (.int .i64 0)), (.v (.int .i64 0)), (.v (.int .i64 0))]), .st [(0, 3), (1, 3), (2, 3)]⟩
 | 75 => some ⟨1, 16, (.v .nilIface), .other⟩
 | 76 => some ⟨1, 24, (.v (.slice none 0 0)), .sl 24⟩
 | 78 => some ⟨38, 416, (.st 38 [(.st 9 [(.v (.slice none 0 0)), (.v (.slice none 0 0)), (.v (.slice none 0 0)), (.v (.slice none 0 0)), (.v (.slice none 0 0)), (.v (.slice none 0 0)), (.v (.int .u32 0)), (.v (.int .u32 0)), (.v (.int .u32 0))]), (.st 21 [(.v (.int .i64 0)), (.v (.int .i64 0)), (.v (.int .i64 0)), (.v (.int .i64 0)), (.v (.int .i64 0)), (.v (.int .u64 0)), (.st 14 [(.st 3 [(.v (.int .i64 0)), (.v (.int .i64 0)), (.v (.int .i64 0))]), (.st 3 [(.v (.int .i64 0)), (.v (.int .i64 0)), (.v (.int .i64 0))]), (.st 3 [(.v (.int .i64 0)), (.v (.int .i64 0)), (.v (.int .i64 0))]), (.st 3 [(.v (.int .i64 0)), (.v (.int .i64 0)), (.v (.int .i64 0))]), (.v (.int .i64 0)), (.v (.int .i64 0))]), (.v (.bool false))]), (.v .nilIface), (.v (.slice none 0 0)), (.st 3 [(.v (.int .i64 0)), (.v (.int .i64 0)), (.v (.int .i64 0))]), (.st 3 [(.v (.int .i64 0)), (.v (.int .i64 0)), (.v (.int .i64 0))])]), .st [(0, 30), (9, 37), (30, 75), (31, 76), (32, 47), (35, 71)]⟩
 | 88 => some ⟨1, 8, (.v (.pointer none)), .ptr 157⟩
 | 91 => some ⟨1, 8, (.v (.pointer none)), .ptr 166⟩
 | 96 => some ⟨1, 8, (.v (.pointer none)), .ptr 173⟩
 | 99 => some ⟨7, 56, (.st 7 [(.st 3 [(.v (.int .i64 0)), (.v (.int .i64 0)), (.v (.int .i64 0))]), (.st 3 [(.v (.int .i64 0)), (.v (.int .i64 0)), (.v (.int .i64 0))]), (.v (.int .i64 0))]), .st [(0, 33), (3, 33), (6, 3)]⟩
 | 101 => some ⟨26, 208, (.st 26 [(.st 7 [(.st 3 [(.v (.int .i64 0)), (.v (.int .i64 0)), (.v (.int .i64 0))]), (.st 3 [(.v (.int .i64 0)), (.v (.int .i64 0)), (.v (.int .i64 0))]), (.v (.int .i64 0))]), (.v (.pointer none)), (.v (.pointer none)), (.st 3 [(.v (.int .i64 0)), (.v (.int .i64 0)), (.v (.int .i64 0))]), (.st 3 [(.v (.int .i64 0)), (.v (.int .i64 0)), (.v (.int .i64 0))]), (.v (.int .i64 0)), (.v (.bool false)), (.st 9 [(.st 3 [(.v (.int .i64 0)), (.v (.int .i64 0)), (.v (.int .i64 0))]), (.v (.int .i64 0)), (.v (.int .i64 0)), (.st 3 [(.v (.int .i64 0)), (.v (.int .i64 0)), (.v (.int .i64 0))]), (.v (.int .i64 0))])]), .st [(0, 99), (7, 40), (8, 96), (9, 47), (12, 47), (15, 3), (16, 4), (17, 49)]⟩
 | 102 => some ⟨4, 16, (.arr 4 1 (List.replicate 4 (.v (.int .u32 0)))), .arr 4 28⟩
 | 115 => some ⟨13, 104, (.st 13 [(.v (.int .i64 0)), (.arr 3 1 (List.replicate 3 (.v (.int .i64 0)))), (.st 3 [(.v (.int .i64 0)), (.v (.int .i64 0)), (.v (.int .i64 0))]), (.st 3 [(.v (.int .i64 0)), (.v (.int .i64 0)), (.v (.int .i64 0))]), (.st 3 [(.v (.int .i64 0)), (.v (.int .i64 0)), (.v (.int .i64 0))])]), .st [(0, 3), (1, 38), (4, 33), (7, 33), (10, 33)]⟩
 | 129 => some ⟨4, 32, (.st 4 [(.v (.int .i64 0)), (.v (.int .i64 0)), (.v (.int .i64 0)), (.v (.int .i64 0))]), .st [(0, 3), (1, 3), (2, 3), (3, 3)]⟩
 | 142 => some ⟨2, 8, (.arr 2 1 (List.replicate 2 (.v (.int .u32 0)))), .arr 2 28⟩
 | 144 => some ⟨7, 56, (.st 7 [(.st 3 [(.v (.int .i64 0)), (.v (.int .i64 0)), (.v (.int .i64 0))]), (.st 3 [(.v (.int .i64 0)), (.v (.int .i64 0)), (.v (.int .i64 0))]), (.v (.bool false))]), .st [(0, 33), (3, 47), (6, 4)]⟩
 | 148 => some ⟨1, 24, (.v (.slice none 0 0)), .sl 47⟩
 | 151 => some ⟨1, 8, (.v .nilFunc), .other⟩
 | 155 => some ⟨1, 8, (.st 1 [(.v (.int .i64 0))]), .st [(0, 3)]⟩
 | 157 => some ⟨3, 40, (.st 3 [(.st 1 [(.v (.int .i64 0))]), (.v (.bool false)), (.v (.slice none 0 0))]), .st [(0, 155), (1, 4), (2, 22)]⟩
 | 158 => some ⟨1, 24, (.v (.slice none 0 0)), .sl 243⟩
 | 159 => some ⟨1, 24, (.v (.slice none 0 0)), .sl 3⟩
 | 161 => some ⟨2, 48, (.st 2 [(.v (.slice none 0 0)), (.v (.slice none 0 0))]), .st [(0, 158), (1, 159)]⟩
 | 166 => some ⟨5, 88, (.st 5 [(.st 2 [(.v (.slice none 0 0)), (.v (.slice none 0 0))]), (.v (.bool false)), (.v (.slice none 0 0)), (.v (.int .i64 0))]), .st [(0, 161), (2, 4), (3, 22), (4, 3)]⟩
 | 168 => some ⟨3, 12, (.st 3 [(.v (.int .u32 0)), (.v (.int .u32 0)), (.v (.int .u32 0))]), .st [(0, 28), (1, 28), (2, 28)]⟩
 | 169 => some ⟨64, 64, (.arr 64 1 (List.replicate 64 (.v (.int .u8 0)))), .arr 64 5⟩
 | 171 => some ⟨68, 80, (.st 68 [(.st 3 [(.v (.int .u32 0)), (.v (.int .u32 0)), (.v (.int .u32 0))]), (.v (.bool false)), (.arr 64 1 (List.replicate 64 (.v (.int .u8 0))))]), .st [(0, 168), (3, 4), (4, 169)]⟩
 | 173 => some ⟨72, 112, (.st 72 [(.st 68 [(.st 3 [(.v (.int .u32 0)), (.v (.int .u32 0)), (.v (.int .u32 0))]), (.v (.bool false)), (.arr 64 1 (List.replicate 64 (.v (.int .u8 0))))]), (.v (.bool false)), (.v (.int .u64 0)), (.v (.int .i64 0)), (.v (.int .i64 0))]), .st [(0, 171), (68, 4), (69, 31), (70, 3), (71, 3)]⟩
 | 184 => some ⟨16, 128, (.st 16 [(.v (.int .i64 0)), (.st 3 [(.v (.int .i64 0)), (.v (.int .i64 0)), (.v (.int .i64 0))]), (.st 3 [(.v (.int .i64 0)), (.v (.int .i64 0)), (.v (.int .i64 0))]), (.st 3 [(.v (.int .i64 0)), (.v (.int .i64 0)), (.v (.int .i64 0))]), (.st 5 [(.v (.int .i64 0)), (.arr 3 1 (List.replicate 3 (.v (.int .i64 0)))), (.v (.int .i64 0))]), (.v (.bool false))]), .st [(0, 3), (1, 33), (4, 47), (7, 47), (10, 56), (15, 4)]⟩
 | 196 => some ⟨12, 12, (.arr 12 1 (List.replicate 12 (.v (.int .u8 0)))), .arr 12 5⟩
 | 198 => some ⟨32, 32, (.arr 32 1 (List.replicate 32 (.v (.int .u8 0)))), .arr 32 5⟩
 | 201 => some ⟨1, 24, (.v (.slice none 0 0)), .sl 5⟩
 | 214 => some ⟨1, 24, (.v (.slice none 0 0)), .sl 45⟩
 | 228 => some ⟨8, 56, (.st 8 [(.st 3 [(.v (.int .i64 0)), (.v (.int .i64 0)), (.v (.int .i64 0))]), (.v (.bool false)), (.v (.bool false)), (.st 3 [(.v (.int .i64 0)), (.v (.int .i64 0)), (.v (.int .i64 0))])]), .st [(0, 33), (3, 4), (4, 4), (5, 47)]⟩
 | 241 => some ⟨1, 24, (.v (.slice none 0 0)), .sl 33⟩
 | 243 => some ⟨10, 80, (.st 10 [(.st 3 [(.v (.int .i64 0)), (.v (.int .i64 0)), (.v (.int .i64 0))]), (.st 3 [(.v (.int .i64 0)), (.v (.int .i64 0)), (.v (.int .i64 0))]), (.v (.int .i64 0)), (.v (.int .i64 0)), (.v (.int .i64 0)), (.v (.int .i64 0))]), .st [(0, 33), (3, 33), (6, 3), (7, 3), (8, 3), (9, 3)]⟩
 | 245 => some ⟨4, 32, (.st 4 [(.v (.int .i64 0)), (.v (.int .i64 0)), (.v (.int .i64 0)), (.v (.int .i64 0))]), .st [(0, 3), (1, 3), (2, 3), (3, 3)]⟩
 | 246 => some ⟨1, 24, (.v (.slice none 0 0)), .sl 245⟩
 | 253 => some ⟨2, 16, (.st 2 [(.v (.int .i64 0)), (.v (.int .u64 0))]), .st [(0, 2), (1, 31)]⟩
 | 264 => some ⟨1, 8, (.v .nilFunc), .other⟩
 | 266 => some ⟨16, 64, (.arr 16 1 (List.replicate 16 (.v (.int .u32 0)))), .arr 16 28⟩
 | 269 => some ⟨1, 8, (.v (.int .u64 0)), .int .u64⟩
 | 309 => some ⟨3, 24, (.st 3 [(.st 3 [(.v (.int .i64 0)), (.v (.int .i64 0)), (.v (.int .i64 0))])]), .st [(0, 33)]⟩
 | 313 => some ⟨3, 24, (.st 3 [(.st 3 [(.v (.int .i64 0)), (.v (.int .i64 0)), (.v (.int .i64 0))])]), .st [(0, 33)]⟩
 | 329 => some ⟨7, 56, (.st 7 [(.v (.int .i64 0)), (.st 3 [(.v (.int .i64 0)), (.v (.int .i64 0)), (.v (.int .i64 0))]), (.st 3 [(.v (.int .i64 0)), (.v (.int .i64 0)), (.v (.int .i64 0))])]), .st [(0, 3), (1, 33), (4, 33)]⟩
 | 330 => some ⟨56, 448, (.arr 56 7 (List.replicate 8 (.st 7 [(.v (.int .i64 0)), (.st 3 [(.v (.int .i64 0)), (.v (.int .i64 0)), (.v (.int .i64 0))]), (.st 3 [(.v (.int .i64 0)), (.v (.int .i64 0)), (.v (.int .i64 0))])]))), .arr 8 329⟩
 | 332 => some ⟨4, 32, (.arr 4 1 (List.replicate 4 (.v (.int .i64 0)))), .arr 4 3⟩
 | 333 => some ⟨32, 256, (.arr 32 4 (List.replicate 8 (.arr 4 1 (List.replicate 4 (.v (.int .i64 0)))))), .arr 8 332⟩
 | 339 => some ⟨12, 96, (.arr 12 3 (List.replicate 4 (.arr 3 1 (List.replicate 3 (.v (.int .i64 0)))))), .arr 4 38⟩
 | 340 => some ⟨1, 24, (.v (.slice none 0 0)), .sl 253⟩
 | 365 => some ⟨2, 16, (.st 2 [(.v (.int .i64 0)), (.v (.int .i64 0))]), .st [(0, 3), (1, 3)]⟩
 | 369 => some ⟨12, 96, (.arr 12 4 (List.replicate 3 (.arr 4 1 (List.replicate 4 (.v (.int .i64 0)))))), .arr 3 332⟩
 | _ => none

theorem hT : TOK Tryz.prog tbl := by
 intro t i h
 unfold tbl at h
 split at h
 ·cases h; exact ⟨⟨_, _, rfl, rfl, rfl, rfl, rfl, rfl⟩, ⟨_, rfl, rfl⟩, rfl⟩
 ·cases h; exact ⟨⟨_, _, rfl, rfl, rfl, rfl, rfl, rfl⟩, ⟨_, rfl, rfl⟩, rfl⟩
 ·cases h; exact ⟨⟨_, _, rfl, rfl, rfl, rfl, rfl, rfl⟩, ⟨_, rfl, rfl⟩, rfl⟩
 ·cases h; exact ⟨⟨_, _, rfl, rfl, rfl, rfl, rfl, rfl⟩, ⟨_, rfl, rfl⟩, rfl⟩
 ·cases h; exact ⟨⟨_, _, rfl, rfl, rfl, rfl, rfl, rfl⟩, ⟨_, rfl, rfl⟩, rfl⟩
 ·cases h; exact ⟨⟨_, _, rfl, rfl, rfl, rfl, rfl, rfl⟩, ⟨_, rfl, rfl⟩, rfl⟩
 ·cases h; exact ⟨⟨_, _, rfl, rfl, rfl, rfl, rfl, rfl⟩, ⟨_, rfl, rfl⟩, rfl⟩
 ·cases h; exact ⟨⟨_, _, rfl, rfl, rfl, rfl, rfl, rfl⟩, ⟨_, rfl, rfl⟩, rfl⟩
 ·cases h; exact ⟨⟨_, _, rfl, rfl, rfl, rfl, rfl, rfl⟩, ⟨_, rfl, rfl⟩, rfl⟩
 ·cases h; exact ⟨⟨_, _, rfl, rfl, rfl, rfl, rfl, rfl⟩, ⟨_, rfl, rfl⟩, rfl⟩
 ·cases h; exact ⟨⟨_, _, rfl, rfl, rfl, rfl, rfl, rfl⟩, ⟨_, rfl, rfl⟩, rfl⟩
 ·cases h; exact ⟨⟨_, _, rfl, rfl, rfl, rfl, rfl, rfl⟩, ⟨_, rfl, rfl⟩, rfl⟩
 ·cases h; exact ⟨⟨_, _, rfl, rfl, rfl, rfl, rfl, rfl⟩, ⟨_, rfl, ⟨_, rfl, rfl⟩⟩, rfl⟩
 ·cases h; exact ⟨⟨_, _, rfl, rfl, rfl, rfl, rfl, rfl⟩, ⟨_, rfl, rfl⟩, rfl⟩
 ·cases h; exact ⟨⟨_, _, rfl, rfl, rfl, rfl, rfl, rfl⟩, ⟨_, rfl, ⟨_, rfl, rfl⟩⟩, rfl⟩
 ·cases h; exact ⟨⟨_, _, rfl, rfl, rfl, rfl, rfl, rfl⟩, ⟨_, rfl, ⟨_, rfl, rfl⟩⟩, rfl⟩
 ·cases h; exact ⟨⟨_, _, rfl, rfl, rfl, rfl, rfl, rfl⟩, ⟨_, rfl, ⟨_, rfl, rfl⟩⟩, rfl⟩
 ·cases h; exact ⟨⟨_, _, rfl, rfl, rfl, rfl, rfl, rfl⟩, ⟨_, rfl, rfl⟩, rfl⟩
 ·cases h; exact ⟨⟨_, _, rfl, rfl, rfl, rfl, rfl, rfl⟩, ⟨_, rfl, rfl⟩, rfl⟩
 ·cases h; exact ⟨⟨_, _, rfl, rfl, rfl, rfl, rfl, rfl⟩, ⟨_, rfl, rfl⟩, rfl⟩
 ·cases h; exact ⟨⟨_, _, rfl, rfl, rfl, rfl, rfl, rfl⟩, ⟨_, rfl, rfl⟩, rfl⟩
 ·cases h; exact ⟨⟨_, _, rfl, rfl, rfl, rfl, rfl, rfl⟩, ⟨_, rfl, ⟨_, rfl, rfl⟩⟩, rfl⟩
 ·cases h; exact ⟨⟨_, _, rfl, rfl, rfl, rfl, rfl, rfl⟩, ⟨_, rfl, ⟨_, rfl, rfl⟩⟩, rfl⟩
 ·cases h; exact ⟨⟨_, _, rfl, rfl, rfl, rfl, rfl, rfl⟩, ⟨_, rfl, ⟨_, rfl, rfl⟩⟩, rfl⟩
 ·cases h; exact ⟨⟨_, _, rfl, rfl, rfl, rfl, rfl, rfl⟩, ⟨_, rfl, rfl⟩, rfl⟩
 ·cases h; exact ⟨⟨_, _, rfl, rfl, rfl, rfl, rfl, rfl⟩, ⟨_, rfl, rfl⟩, rfl⟩
 ·cases h; exact ⟨⟨_, _, rfl, rfl, rfl, rfl, rfl, rfl⟩, ⟨_, rfl, rfl⟩, rfl⟩
 ·cases h; exact ⟨⟨_, _, rfl, rfl, rfl, rfl, rfl, rfl⟩, ⟨_, rfl, ⟨_, rfl, rfl⟩⟩, rfl⟩
 ·cases h; exact ⟨⟨_, _, rfl, rfl, rfl, rfl, rfl, rfl⟩, ⟨_, rfl, rfl⟩, rfl⟩
 ·cases h; exact ⟨⟨_, _, rfl, rfl, rfl, rfl, rfl, rfl⟩, ⟨_, rfl, ⟨_, rfl, rfl⟩⟩, rfl⟩
 ·cases h; exact ⟨⟨_, _, rfl, rfl, rfl, rfl, rfl, rfl⟩, ⟨_, rfl, ⟨_, rfl, rfl⟩⟩, rfl⟩
 ·cases h; exact ⟨⟨_, _, rfl, rfl, rfl, rfl, rfl, rfl⟩, ⟨_, rfl, (by unfold TK.fits; exact ⟨(by intro fs h; cases h), (by intro n e h; cases h)⟩)⟩, rfl⟩
 ·cases h; exact ⟨⟨_, _, rfl, rfl, rfl, rfl, rfl, rfl⟩, ⟨_, rfl, rfl⟩, rfl⟩
 ·cases h; exact ⟨⟨_, _, rfl, rfl, rfl, rfl, rfl, rfl⟩, ⟨_, rfl, ⟨_, rfl, rfl⟩⟩, rfl⟩
 ·cases h; exact ⟨⟨_, _, rfl, rfl, rfl, rfl, rfl, rfl⟩, ⟨_, rfl, rfl⟩, rfl⟩
 ·cases h; exact ⟨⟨_, _, rfl, rfl, rfl, rfl, rfl, rfl⟩, ⟨_, rfl, rfl⟩, rfl⟩
 ·cases h; exact ⟨⟨_, _, rfl, rfl, rfl, rfl, rfl, rfl⟩, ⟨_, rfl, rfl⟩, rfl⟩
 ·cases h; exact ⟨⟨_, _, rfl, rfl, rfl, rfl, rfl, rfl⟩, ⟨_, rfl, ⟨_, rfl, rfl⟩⟩, rfl⟩
 ·cases h; exact ⟨⟨_, _, rfl, rfl, rfl, rfl, rfl, rfl⟩, ⟨_, rfl, ⟨_, rfl, rfl⟩⟩, rfl⟩
 ·cases h; exact ⟨⟨_, _, rfl, rfl, rfl, rfl, rfl, rfl⟩, ⟨_, rfl, rfl⟩, rfl⟩
 ·cases h; exact ⟨⟨_, _, rfl, rfl, rfl, rfl, rfl, rfl⟩, ⟨_, rfl, ⟨_, rfl, rfl⟩⟩, rfl⟩
 ·cases h; exact ⟨⟨_, _, rfl, rfl, rfl, rfl, rfl, rfl⟩, ⟨_, rfl, ⟨_, rfl, rfl⟩⟩, rfl⟩
 ·cases h; exact ⟨⟨_, _, rfl, rfl, rfl, rfl, rfl, rfl⟩, ⟨_, rfl, rfl⟩, rfl⟩
 ·cases h; exact ⟨⟨_, _, rfl, rfl, rfl, rfl, rfl, rfl⟩, ⟨_, rfl, ⟨_, rfl, rfl⟩⟩, rfl⟩
 ·cases h; exact ⟨⟨_, _, rfl, rfl, rfl, rfl, rfl, rfl⟩, ⟨_, rfl, rfl⟩, rfl⟩
 ·cases h; exact ⟨⟨_, _, rfl, rfl, rfl, rfl, rfl, rfl⟩, ⟨_, rfl, (by unfold TK.fits; exact ⟨(by intro fs h; cases h), (by intro n e h; cases h)⟩)⟩, rfl⟩
 ·cases h; exact ⟨⟨_, _, rfl, rfl, rfl, rfl, rfl, rfl⟩, ⟨_, rfl, ⟨_, rfl, rfl⟩⟩, rfl⟩
 ·cases h; exact ⟨⟨_, _, rfl, rfl, rfl, rfl, rfl, rfl⟩, ⟨_, rfl, ⟨_, rfl, rfl⟩⟩, rfl⟩
 ·cases h; exact ⟨⟨_, _, rfl, rfl, rfl, rfl, rfl, rfl⟩, ⟨_, rfl, rfl⟩, rfl⟩
 ·cases h; exact ⟨⟨_, _, rfl, rfl, rfl, rfl, rfl, rfl⟩, ⟨_, rfl, rfl⟩, rfl⟩
 ·cases h; exact ⟨⟨_, _, rfl, rfl, rfl, rfl, rfl, rfl⟩, ⟨_, rfl, ⟨_, rfl, rfl⟩⟩, rfl⟩
 ·cases h; exact ⟨⟨_, _, rfl, rfl, rfl, rfl, rfl, rfl⟩, ⟨_, rfl, ⟨_, rfl, rfl⟩⟩, rfl⟩
 ·cases h; exact ⟨⟨_, _, rfl, rfl, rfl, rfl, rfl, rfl⟩, ⟨_, rfl, ⟨_, rfl, rfl⟩⟩, rfl⟩
 ·cases h; exact ⟨⟨_, _, rfl, rfl, rfl, rfl, rfl, rfl⟩, ⟨_, rfl, rfl⟩, rfl⟩
 ·cases h; exact ⟨⟨_, _, rfl, rfl, rfl, rfl, rfl, rfl⟩, ⟨_, rfl, ⟨_, rfl, rfl⟩⟩, rfl⟩
 ·cases h; exact ⟨⟨_, _, rfl, rfl, rfl, rfl, rfl, rfl⟩, ⟨_, rfl, ⟨_, rfl, rfl⟩⟩, rfl⟩
 ·cases h; exact ⟨⟨_, _, rfl, rfl, rfl, rfl, rfl, rfl⟩, ⟨_, rfl, ⟨_, rfl, rfl⟩⟩, rfl⟩
 ·cases h; exact ⟨⟨_, _, rfl, rfl, rfl, rfl, rfl, rfl⟩, ⟨_, rfl, rfl⟩, rfl⟩
 ·cases h; exact ⟨⟨_, _, rfl, rfl, rfl, rfl, rfl, rfl⟩, ⟨_, rfl, rfl⟩, rfl⟩
 ·cases h; exact ⟨⟨_, _, rfl, rfl, rfl, rfl, rfl, rfl⟩, ⟨_, rfl, rfl⟩, rfl⟩
 ·cases h; exact ⟨⟨_, _, rfl, rfl, rfl, rfl, rfl, rfl⟩, ⟨_, rfl, rfl⟩, rfl⟩
 ·cases h; exact ⟨⟨_, _, rfl, rfl, rfl, rfl, rfl, rfl⟩, ⟨_, rfl, ⟨_, rfl, rfl⟩⟩, rfl⟩
 ·cases h; exact ⟨⟨_, _, rfl, rfl, rfl, rfl, rfl, rfl⟩, ⟨_, rfl, rfl⟩, rfl⟩
 ·cases h; exact ⟨⟨_, _, rfl, rfl, rfl, rfl, rfl, rfl⟩, ⟨_, rfl, ⟨_, rfl, rfl⟩⟩, rfl⟩
 ·cases h; exact ⟨⟨_, _, rfl, rfl, rfl, rfl, rfl, rfl⟩, ⟨_, rfl, ⟨_, rfl, rfl⟩⟩, rfl⟩
 ·cases h; exact ⟨⟨_, _, rfl, rfl, rfl, rfl, rfl, rfl⟩, ⟨_, rfl, rfl⟩, rfl⟩
 ·cases h; exact ⟨⟨_, _, rfl, rfl, rfl, rfl, rfl, rfl⟩, ⟨_, rfl, ⟨_, rfl, rfl⟩⟩, rfl⟩
 ·cases h; exact ⟨⟨_, _, rfl, rfl, rfl, rfl, rfl, rfl⟩, ⟨_, rfl, (by unfold TK.fits; exact ⟨(by intro fs h; cases h), (by intro n e h; cases h)⟩)⟩, rfl⟩
 ·cases h; exact ⟨⟨_, _, rfl, rfl, rfl, rfl, rfl, rfl⟩, ⟨_, rfl, rfl⟩, rfl⟩
 ·cases h; exact ⟨⟨_, _, rfl, rfl, rfl, rfl, rfl, rfl⟩, ⟨_, rfl, rfl⟩, rfl⟩
 ·cases h; exact ⟨⟨_, _, rfl, rfl, rfl, rfl, rfl, rfl⟩, ⟨_, rfl, ⟨_, rfl, rfl⟩⟩, rfl⟩
 ·cases h; exact ⟨⟨_, _, rfl, rfl, rfl, rfl, rfl, rfl⟩, ⟨_, rfl, ⟨_, rfl, rfl⟩⟩, rfl⟩
 ·cases h; exact ⟨⟨_, _, rfl, rfl, rfl, rfl, rfl, rfl⟩, ⟨_, rfl, ⟨_, rfl, rfl⟩⟩, rfl⟩
 ·cases h; exact ⟨⟨_, _, rfl, rfl, rfl, rfl, rfl, rfl⟩, ⟨_, rfl, rfl⟩, rfl⟩
 ·cases h; exact ⟨⟨_, _, rfl, rfl, rfl, rfl, rfl, rfl⟩, ⟨_, rfl, rfl⟩, rfl⟩
 ·cases h; exact ⟨⟨_, _, rfl, rfl, rfl, rfl, rfl, rfl⟩, ⟨_, rfl, rfl⟩, rfl⟩
 ·cases h; exact ⟨⟨_, _, rfl, rfl, rfl, rfl, rfl, rfl⟩, ⟨_, rfl, rfl⟩, rfl⟩
 ·cases h; exact ⟨⟨_, _, rfl, rfl, rfl, rfl, rfl, rfl⟩, ⟨_, rfl, rfl⟩, rfl⟩
 ·cases h; exact ⟨⟨_, _, rfl, rfl, rfl, rfl, rfl, rfl⟩, ⟨_, rfl, ⟨_, rfl, rfl⟩⟩, rfl⟩
 ·cases h; exact ⟨⟨_, _, rfl, rfl, rfl, rfl, rfl, rfl⟩, ⟨_, rfl, rfl⟩, rfl⟩
 ·cases h

theorem hmo : Tryz.prog.follows .mixedOrders = true := by rfl

theorem tt2 : tbl 2 = some ⟨1, 8, (.v (.int .i64 0)), .int .i64⟩ := rfl

theorem tt3 : tbl 3 = some ⟨1, 8, (.v (.int .i64 0)), .int .i64⟩ := rfl

theorem tt28 : tbl 28 = some ⟨1, 4, (.v (.int .u32 0)), .int .u32⟩ := rfl

theorem tt31 : tbl 31 = some ⟨1, 8, (.v (.int .u64 0)), .int .u64⟩ := rfl

theorem tt45 : tbl 45 = some ⟨1, 8, (.v (.int .i64 0)), .int .i64⟩ := rfl

theorem tt47 : tbl 47 = some ⟨3, 24, (.st 3 [(.v (.int .i64 0)), (.v (.int .i64 0)), (.v (.int .i64 0))]), .st [(0, 45), (1, 45), (2, 45)]⟩ := rfl

theorem aIm : EqT Tryz.prog 3 (α := Int) j64 (fun a b => a == b) 1 :=
 aCc Tryz.underlying3

def aC.eq (a b : aC) : Bool := (fun a b => a == b) a.gX b.gX && ((fun a b => a == b) a.gY b.gY && ((fun a b => a == b) a.gZ b.gZ && true))
theorem aAW : EqT Tryz.prog 33 (α := aC) aC.enc aC.eq 2 :=
 xQ (N := 3) Tryz.underlying33 (by kernel_rfl) (fun _ => rfl) (fun a b => mA hT a.gX b.gX (by decide) rfl tt3 rfl (fun _ => rfl) (fun _ => rfl) (fun _ => rfl) aIm (by decide) (mA hT a.gY b.gY (by decide) rfl tt3 rfl (fun _ => rfl) (fun _ => rfl) (fun _ => rfl) aIm (by decide) (mA hT a.gZ b.gZ (by decide) rfl tt3 rfl (fun _ => rfl) (fun _ => rfl) (fun _ => rfl) aIm (by decide) (aCb))))

theorem aKJ : EqT Tryz.prog 28 (α := Int) k32 (fun a b => a == b) 1 :=
 aCc Tryz.underlying28

def bP.eq (a b : bP) : Bool := (fun a b => a == b) a.gD7 b.gD7 && ((fun a b => a == b) a.gD8 b.gD8 && ((fun a b => a == b) a.gD9 b.gD9 && true))
theorem aPZ : EqT Tryz.prog 168 (α := bP) bP.enc bP.eq 2 :=
 xQ (N := 3) Tryz.underlying168 (by kernel_rfl) (fun _ => rfl) (fun a b => mA hT a.gD7 b.gD7 (by decide) rfl tt28 rfl (fun _ => rfl) (fun _ => rfl) (fun _ => rfl) aKJ (by decide) (mA hT a.gD8 b.gD8 (by decide) rfl tt28 rfl (fun _ => rfl) (fun _ => rfl) (fun _ => rfl) aKJ (by decide) (mA hT a.gD9 b.gD9 (by decide) rfl tt28 rfl (fun _ => rfl) (fun _ => rfl) (fun _ => rfl) aKJ (by decide) (aCb))))

theorem eqT_2 : EqT Tryz.prog 2 (α := Int) j64 (fun a b => a == b) 1 :=
 aCc Tryz.underlying2

theorem aRC : EqT Tryz.prog 31 (α := Int) k64 (fun a b => a == b) 1 :=
 aCc Tryz.underlying31

def aP.eq (a b : aP) : Bool := (fun a b => a == b) a.gHi b.gHi && ((fun a b => a == b) a.gLo b.gLo && true)
theorem aOe : EqT Tryz.prog 253 (α := aP) aP.enc aP.eq 2 :=
 xQ (N := 2) Tryz.underlying253 (by kernel_rfl) (fun _ => rfl) (fun a b => mA hT a.gHi b.gHi (by decide) rfl tt2 rfl (fun _ => rfl) (fun _ => rfl) (fun _ => rfl) eqT_2 (by decide) (mA hT a.gLo b.gLo (by decide) rfl tt31 rfl (fun _ => rfl) (fun _ => rfl) (fun _ => rfl) aRC (by decide) (aCb)))

theorem aHb : EqT Tryz.prog 45 (α := Int) j64 (fun a b => a == b) 1 :=
 aCc Tryz.underlying45

def aB.eq (a b : aB) : Bool := (fun a b => a == b) a.gX b.gX && ((fun a b => a == b) a.gY b.gY && ((fun a b => a == b) a.gZ b.gZ && true))
theorem aIE : EqT Tryz.prog 47 (α := aB) aB.enc aB.eq 2 :=
 xQ (N := 3) Tryz.underlying47 (by kernel_rfl) (fun _ => rfl) (fun a b => mA hT a.gX b.gX (by decide) rfl tt45 rfl (fun _ => rfl) (fun _ => rfl) (fun _ => rfl) aHb (by decide) (mA hT a.gY b.gY (by decide) rfl tt45 rfl (fun _ => rfl) (fun _ => rfl) (fun _ => rfl) aHb (by decide) (mA hT a.gZ b.gZ (by decide) rfl tt45 rfl (fun _ => rfl) (fun _ => rfl) (fun _ => rfl) aHb (by decide) (aCb))))

def aF.eq (a b : aF) : Bool := aB.eq a.gS b.gS && ((fun a b => a == b) a.gC5 b.gC5 && ((fun a b => a == b) a.gA5 b.gA5 && (aB.eq a.gC6 b.gC6 && ((fun a b => a == b) a.gB5 b.gB5 && true))))
theorem aQd : EqT Tryz.prog 49 (α := aF) aF.enc aF.eq 3 :=
 xQ (N := 9) Tryz.underlying49 (by kernel_rfl) (fun _ => rfl) (fun a b => mA hT a.gS b.gS (by decide) rfl tt47 rfl (fun _ => rfl) (fun _ => rfl) (fun _ => rfl) aIE (by decide) (mA hT a.gC5 b.gC5 (by decide) rfl tt3 rfl (fun _ => rfl) (fun _ => rfl) (fun _ => rfl) aIm (by decide) (mA hT a.gA5 b.gA5 (by decide) rfl tt45 rfl (fun _ => rfl) (fun _ => rfl) (fun _ => rfl) aHb (by decide) (mA hT a.gC6 b.gC6 (by decide) rfl tt47 rfl (fun _ => rfl) (fun _ => rfl) (fun _ => rfl) aIE (by decide) (mA hT a.gB5 b.gB5 (by decide) rfl tt3 rfl (fun _ => rfl) (fun _ => rfl) (fun _ => rfl) aIm (by decide) (aCb))))))

def aKr : ByteArray := (ByteArray.mk (List.toArray (List.append (List.append [0, 1, 2, 2, 3, 3, 3, 3, 4, 4, 4, 4, 4, 4, 4, 4, 5, 5, 5, 5, 5, 5, 5, 5, 5, 5, 5, 5, 5, 5, 5, 5, 6, 6, 6, 6, 6, 6, 6, 6, 6, 6, 6, 6, 6, 6, 6, 6, 6, 6, 6, 6, 6, 6, 6, 6, 6, 6, 6, 6, 6, 6, 6, 6] [7, 7, 7, 7, 7, 7, 7, 7, 7, 7, 7, 7, 7, 7, 7, 7, 7, 7, 7, 7, 7, 7, 7, 7, 7, 7, 7, 7, 7, 7, 7, 7, 7, 7, 7, 7, 7, 7, 7, 7, 7, 7, 7, 7, 7, 7, 7, 7, 7, 7, 7, 7, 7, 7, 7, 7, 7, 7, 7, 7, 7, 7, 7, 7]) (List.append [8, 8, 8, 8, 8, 8, 8, 8, 8, 8, 8, 8, 8, 8, 8, 8, 8, 8, 8, 8, 8, 8, 8, 8, 8, 8, 8, 8, 8, 8, 8, 8, 8, 8, 8, 8, 8, 8, 8, 8, 8, 8, 8, 8, 8, 8, 8, 8, 8, 8, 8, 8, 8, 8, 8, 8, 8, 8, 8, 8, 8, 8, 8, 8] [8, 8, 8, 8, 8, 8, 8, 8, 8, 8, 8, 8, 8, 8, 8, 8, 8, 8, 8, 8, 8, 8, 8, 8, 8, 8, 8, 8, 8, 8, 8, 8, 8, 8, 8, 8, 8, 8, 8, 8, 8, 8, 8, 8, 8, 8, 8, 8, 8, 8, 8, 8, 8, 8, 8, 8, 8, 8, 8, 8, 8, 8, 8, 8]))))

def str_1 : ByteArray := (ByteArray.mk #[117, 109, 98, 114, 97, 32, 115, 97, 109, 112, 108, 101, 32, 115, 116, 114, 101, 97, 109, 32, 118, 49])

abbrev aJU : AV := (.st 16 [(j64 0), (.st 3 [(j64 0), (j64 0), (j64 0)]), (.st 3 [(j64 0), (j64 0), (j64 0)]), (.st 3 [(j64 0), (j64 0), (j64 0)]), (.st 5 [(j64 0), (.arr 3 1 [(j64 0), (j64 0), (j64 0)]), (j64 0)]), (eB false)])
abbrev aI3 : AV := (.arr 32 4 [(.arr 4 1 [(j64 0), (j64 4), (j64 8), (j64 12)]), (.arr 4 1 [(j64 1), (j64 5), (j64 9), (j64 13)]), (.arr 4 1 [(j64 2), (j64 6), (j64 10), (j64 14)]), (.arr 4 1 [(j64 3), (j64 7), (j64 11), (j64 15)]), (.arr 4 1 [(j64 0), (j64 5), (j64 10), (j64 15)]), (.arr 4 1 [(j64 1), (j64 6), (j64 11), (j64 12)]), (.arr 4 1 [(j64 2), (j64 7), (j64 8), (j64 13)]), (.arr 4 1 [(j64 3), (j64 4), (j64 9), (j64 14)])])
abbrev aMK : AV := (.st 7 [(.st 3 [(j64 0), (j64 0), (j64 0)]), (.st 3 [(j64 0), (j64 0), (j64 0)]), (eB false)])
abbrev aLs : AV := (.st 8 [(.st 3 [(j64 0), (j64 0), (j64 0)]), (eB false), (eB false), (.st 3 [(j64 0), (j64 0), (j64 0)])])
abbrev cv_5 : AV := (.st 68 [(.st 3 [(k32 0), (k32 0), (k32 0)]), (eB false), (eA 64 1 k8 (Vector.replicate 64 0))])
abbrev cv_6 : AV := (.st 9 [(.st 3 [(j64 0), (j64 0), (j64 0)]), (j64 0), (j64 0), (.st 3 [(j64 0), (j64 0), (j64 0)]), (j64 0)])
abbrev cv_7 : AV := (.st 26 [(.st 7 [(.st 3 [(j64 0), (j64 0), (j64 0)]), (.st 3 [(j64 0), (j64 0), (j64 0)]), (j64 0)]), (.ref 0 [] 0), (.ref 4 [] 0), (.st 3 [(j64 4294967296), (j64 4294967296), (j64 4294967296)]), (.st 3 [(j64 0), (j64 0), (j64 0)]), (j64 0), (eB false), (.st 9 [(.st 3 [(j64 0), (j64 0), (j64 0)]), (j64 0), (j64 0), (.st 3 [(j64 0), (j64 0), (j64 0)]), (j64 (-1))])])
abbrev cv_8 : AV := (.st 10 [(.st 3 [(j64 0), (j64 0), (j64 0)]), (.st 3 [(j64 0), (j64 0), (j64 0)]), (j64 0), (j64 0), (j64 0), (j64 0)])
end Go.UK

