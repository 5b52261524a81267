/- A part of the proof: what the functions of the program compute. -/
import Derived.Test.YtmfanigkgeohiaaGreatAJ1
namespace Go.UK
open Go Go.Proofs
set_option maxRecDepth 20000
set_option maxHeartbeats 40000000
set_option linter.all false

attribute [local irreducible] adv aIs aIN aAE brPt aKu aFE pF aAS dX oA fC aIX aHP lPt owp awl aw FnM aFP opS Stab TOK Big
def aI0 : Nat → Bool := imL [1]

def uH (N : Nat) (a0 : aC) : Option (Bool) :=
 Option.bind (pU N a0 65536) fun r1 =>
 some (!r1)

theorem aHs {N a0 r} (h : uH N a0 = some r) : FnM Tryz.prog 297 [] [(aC.enc a0)] (eB r) [] := by
 unfold uH at h
 refine At.f aI0 hT hmo Tryz.func297 rfl h ?_
 refine At.b 3 (fun _ e => aL [] (aAD e)) fun r1 => ?_
 apply rt; exact At.r 2

def cS (N : Nat) (a0 : (List aC)) : Nat → Int → Option (Sum (Unit) (Int))
 | 0, _ => none
 | k + 1, s2 =>
  aR (decide (s2 < ((a0.length : Int)))) fun x3 =>
  cond x3 (
   Option.bind (idx a0 s2) fun e4 =>
   Option.bind (uH N e4) fun r5 =>
   cond r5 (
    some (Sum.inr s2)) (
    cS N a0 k (I64 (s2 + 1)))) (
   some (Sum.inl (())))

def cX (N : Nat) (a0 : (List aC)) : Option (Int) :=
 Option.bind (cS N a0 N 0) fun o => jU o (fun p1 =>
  some (-1)) (fun r => some r)

theorem oP {N a0 r} (h : cX N a0 = some r) : FnM Tryz.prog 300 [] [(eL 3 aC.enc a0), (.fn (.func 297) [] [])] (j64 r) [] := by
 unfold cX at h
 refine At.f cU hT hmo Tryz.func300 rfl h ?_
 refine At.LS 4 [] 0 (fun p1 => ([], [], [])) (fun op1 J k => ∃ s2, cS N a0 k s2 = some op1 ∧ J [0, 1, 7] 0 [(8, (j64 s2))] [] []) N (fun _ h => ⟨_, h, jr⟩) (fun op1 g1 k s hI => ?_) fun p1 => ?_
 ·obtain ⟨s2, h, hj⟩ := hI
  cases k with
  | zero => cases h
  | succ k =>
   refine At.jr hj ?_ h
   refine lx ?_; intro x3
   refine At.c 1 ?_ ?_
   ·refine At.b 5 (fun _ e => cA hT aC.enc e) fun e4 => ?_
    refine At.b 1 (fun _ e => aL [] (aHs e)) fun r5 => ?_
    refine At.c 0 ?_ ?_
    ·intro e; apply aBi g1 e; exact At.r 2
    ·exact fun h => At.k 2 ⟨_, h, jr⟩
   ·apply rt; exact At.xs 0
 ·apply rt; exact At.r 1

def bX (N : Nat) (a0 : (List aC)) : Option (Bool) :=
 Option.bind (cX N a0) fun r1 =>
 some (decide (r1 ≥ 0))

theorem nF {N a0 r} (h : bX N a0 = some r) : FnM Tryz.prog 298 [] [(eL 3 aC.enc a0), (.fn (.func 297) [] [])] (eB r) [] := by
 unfold bX at h
 refine At.f cU hT hmo Tryz.func298 rfl h ?_
 refine At.b 3 (fun _ e => aL [] (oP e)) fun r1 => ?_
 apply rt; exact At.r 2

def aLV : Nat → Bool := imL [2, 3]

def oT (N : Nat) (a0 : aC) (a1 : aC) : Option (aC) :=
 some (aC.mk (I64 (a0.gX - a1.gX)) (I64 (a0.gY - a1.gY)) (I64 (a0.gZ - a1.gZ)))

theorem rI {N a0 a1 r} (h : oT N a0 a1 = some r) : FnM Tryz.prog 161 [] [(aC.enc a0), (aC.enc a1)] (aC.enc r) [] := by
 unfold oT at h
 refine At.f aLV hT hmo Tryz.func161 rfl h ?_
 apply rt; exact At.r 20

def aIc : Nat → Bool := imL [2, 3]

def rA (N : Nat) (a0 : aC) (a1 : aC) : Option (aC) :=
 aR (I64 ((I64 (a0.gY * a1.gZ)) - (I64 (a0.gZ * a1.gY)))) fun x1 =>
 aR (I64 ((I64 (a0.gZ * a1.gX)) - (I64 (a0.gX * a1.gZ)))) fun x2 =>
 aR (I64 ((I64 (a0.gX * a1.gY)) - (I64 (a0.gY * a1.gX)))) fun x3 =>
 some (aC.mk ((I64 ((I64 (a0.gY * a1.gZ)) - (I64 (a0.gZ * a1.gY))))) ((I64 ((I64 (a0.gZ * a1.gX)) - (I64 (a0.gX * a1.gZ))))) ((I64 ((I64 (a0.gX * a1.gY)) - (I64 (a0.gY * a1.gX))))))

theorem xE {N a0 a1 r} (h : rA N a0 a1 = some r) : FnM Tryz.prog 160 [] [(aC.enc a0), (aC.enc a1)] (aC.enc r) [] := by
 unfold rA at h
 refine At.f aIc hT hmo Tryz.func160 rfl h ?_
 refine lx ?_; intro x1
 refine lx ?_; intro x2
 refine lx ?_; intro x3
 apply rt; exact At.r 38

def aLv : Nat → Bool := imL [2, 3]

def uK (N : Nat) (a0 : aC) (a1 : aC) : Option (Int) :=
 aR (I64 ((I64 (a0.gX * a1.gX)) + (I64 (a0.gY * a1.gY)))) fun x1 =>
 aR (I64 (x1 + (I64 (a0.gZ * a1.gZ)))) fun x2 =>
 some x2

theorem yQ {N a0 a1 r} (h : uK N a0 a1 = some r) : FnM Tryz.prog 299 [] [(aC.enc a0), (aC.enc a1)] (j64 r) [] := by
 unfold uK at h
 refine At.f aLv hT hmo Tryz.func299 rfl h ?_
 refine lx ?_; intro x1
 refine lx ?_; intro x2
 apply rt; exact At.r 21

def aMM : Nat → Bool := imL [3, 4, 5]

def xT (N : Nat) (a0 : aC) (a1 : aC) (a2 : (Vector aC 3)) : Option (aT × Bool) :=
 Option.bind (Option.bind (sE N a0 a1) fun r2 =>
 cond (!r2) (
  some true) (
  Option.bind (wG a2.toList 0 3) fun s3 =>
  Option.bind (bX N s3) fun r4 =>
  some r4)) fun p1 =>
 cond p1 (
  some ((aT.mk 0 0 0 0, false))) (
  Option.bind (idx a2.toList 1) fun e5 =>
  Option.bind (idx a2.toList 0) fun e6 =>
  Option.bind (oT N e5 e6) fun r7 =>
  Option.bind (idx a2.toList 2) fun e8 =>
  Option.bind (idx a2.toList 0) fun e9 =>
  Option.bind (oT N e8 e9) fun r10 =>
  Option.bind (rA N a1 r10) fun r11 =>
  Option.bind (idx a2.toList 0) fun e12 =>
  Option.bind (oT N a0 e12) fun r13 =>
  Option.bind (rA N r13 r7) fun r14 =>
  Option.bind (uK N r10 r14) fun r15 =>
  Option.bind (uK N r7 r11) fun r16 =>
  Option.bind (uK N r13 r11) fun r17 =>
  Option.bind (uK N a1 r14) fun r18 =>
  Option.bind (cond (decide (r16 < 0)) (
   some (aT.mk (I64 (0 - r15)) (I64 (0 - r16)) (I64 (0 - r17)) (I64 (0 - r18)))) (
   some (aT.mk r15 r16 r17 r18))) fun p19 =>
  aR (cond (p19.gB1 == 0) true (decide (p19.gU < 0))) fun x20 =>
  aR (cond x20 true (decide (p19.gV < 0))) fun x21 =>
  aR (decide ((I64 (p19.gU + p19.gV)) > p19.gB1)) fun x22 =>
  aR (cond (cond x21 true x22) true (decide (p19.gB9 ≤ 0))) fun x23 =>
  cond x23 (some ((aT.mk 0 0 0 0, false))) (some ((p19, true))))

theorem aFX {N a0 a1 a2 r} (h : xT N a0 a1 a2 = some r) : FnM Tryz.prog 296 [] [(aC.enc a0), (aC.enc a1), (eA 9 3 aC.enc a2)] (.tup [(aT.enc r.1), (eB r.2)]) [] := by
 unfold xT at h
 refine At.f aMM hT hmo Tryz.func296 rfl h ?_
 refine At.J 6 0 [3, 4, 5, 6] 1 (fun p1 => ([(22, (eB p1))], [], [])) (fun p1 => ?_) fun p1 => ?_
 ·refine At.b 2 (fun _ e => aL [] (xY e)) fun r2 => ?_
  refine At.s 18 2 ?_ ?_
  ·refine At.g [18] 4 ?_
   apply rt; exact At.jn 0
  ·refine At.b 0 (fun _ e => aAY hT (N := 9) (k := 3) aC.enc a2 e) fun s3 => ?_
   refine At.g [18] 1 ?_
   refine At.b 0 (fun _ e => aL [] (nF e)) fun r4 => ?_
   refine At.g [18] 1 ?_
   apply rt; exact At.jn 0
 ·refine At.c 0 ?_ ?_
  ·apply rt; exact At.r 3
  ·refine bi fun e5 he5 => ?_
   refine bi fun e6 he6 => ?_
   refine bi fun r7 hr7 => ?_
   refine bi fun e8 he8 => ?_
   refine bi fun e9 he9 => ?_
   refine bi fun r10 hr10 => ?_
   refine At.d2 0 [false, false] (dC1 0 (fun _ => dK hT (N := 9) (k := 3) aC.enc a2 he5) (dC1 2 (fun _ => dK hT (N := 9) (k := 3) aC.enc a2 he6) (dC2 4 (aC.enc r7) (fun _ => aN (rI hr7)) (dC1 5 (fun _ => dK hT (N := 9) (k := 3) aC.enc a2 he8) (dC1 7 (fun _ => dK hT (N := 9) (k := 3) aC.enc a2 he9) (dC2 9 (aC.enc r10) (fun _ => aN (rI hr10)) dC0)))))) (dS1 10 ⟨(.ref 1 [] 0), 1, .var (.st 3 [(j64 0), (j64 0), (j64 0)]), .dead⟩ [[.var (.st 4 [(j64 0), (j64 0), (j64 0), (j64 0)]), .dead, .dead], [.var (.st 4 [(j64 0), (j64 0), (j64 0), (j64 0)]), .dead, .var (.st 3 [(j64 0), (j64 0), (j64 0)])]] ⟨aW hT 1 (by kernel_rfl) (by kernel_rfl) (by kernel_rfl), aW hT 1 (by kernel_rfl) (by kernel_rfl) (by kernel_rfl), trivial⟩ (dS1 11 ⟨(.ref 2 [] 0), 2, .var (.st 3 [(j64 0), (j64 0), (j64 0)]), .dead⟩ [[.var (.st 4 [(j64 0), (j64 0), (j64 0), (j64 0)]), .dead, .dead], [.var (.st 4 [(j64 0), (j64 0), (j64 0), (j64 0)]), .var (.st 3 [(j64 0), (j64 0), (j64 0)]), .dead]] ⟨aW hT 2 (by kernel_rfl) (by kernel_rfl) (by kernel_rfl), aW hT 2 (by kernel_rfl) (by kernel_rfl) (by kernel_rfl), trivial⟩ dS0)) ?_
   refine At.b 2 (fun _ e => aL [] (xE e)) fun r11 => ?_
   refine At.b 3 (fun _ e => dK hT (N := 9) (k := 3) aC.enc a2 e) fun e12 => ?_
   refine At.b 1 (fun _ e => aL [] (rI e)) fun r13 => ?_
   refine At.b 4 (fun _ e => aL [] (xE e)) fun r14 => ?_
   refine bi fun r15 hr15 => ?_
   refine bi fun r16 hr16 => ?_
   refine bi fun r17 hr17 => ?_
   refine bi fun r18 hr18 => ?_
   refine At.d 2 (dE2 2 (j64 r15) (fun _ => aN (yQ hr15)) (dE2 5 (j64 r16) (fun _ => aN (yQ hr16)) (dE2 8 (j64 r17) (fun _ => aN (yQ hr17)) (dE2 11 (j64 r18) (fun _ => aN (yQ hr18)) dE0)))) dF0 ?_
   refine At.J 0 1 [6] 6 (fun p19 => ([], [(0, .var (aT.enc p19))], [])) (fun p19 => ?_) fun p19 => ?_
   ·refine At.c 3 ?_ ?_
    ·apply rt; exact At.jn 14
    ·apply rt; exact At.jn 0
   ·refine lx ?_; intro x20
    refine lx ?_; intro x21
    refine lx ?_; intro x22
    refine lx ?_; intro x23
    refine At.c 28 ?_ ?_
    ·apply rt; exact At.r 3
    ·apply rt; exact At.r 3

def zU : Nat → Bool := imL [7, 8]

def kN (N : Nat) (a0 : aC) (a1 : aC) (a2 : Int) (a3 : Int) (a4 : Int) (a5 : aM) : Option (aT × Bool) :=
 Option.bind (idx a5.gl a4) fun e1 =>
 aR ((iA .u8 e1.gC5 a2) == 0) fun x2 =>
 aR (cond x2 true (a4 == a3)) fun x3 =>
 cond x3 (
  some ((aT.mk 0 0 0 0, false))) (
  Option.bind (idx a5.gl a4) fun e4 =>
  Option.bind (xT N a0 a1 e4.gP) fun r5 =>
  some ((r5.1, r5.2)))

theorem sO {N a0 a1 a2 a3 a4 a5 r} (h : kN N a0 a1 a2 a3 a4 a5 = some r) : FnM Tryz.prog 306 [.var (aM.enc a5)] [(.ref 0 [] 0), (aC.enc a0), (aC.enc a1), (k8 a2), (j64 a3), (j64 a4)] (.tup [(aT.enc r.1), (eB r.2)]) [.var (aM.enc a5)] := by
 unfold kN at h
 refine At.f zU hT hmo Tryz.func306 rfl h ?_
 refine At.b 9 (fun _ e => cA hT aG.enc e) fun e1 => ?_
 refine lx ?_; intro x2
 refine lx ?_; intro x3
 refine At.c 10 ?_ ?_
 ·apply rt; exact At.r 3
 ·refine bi fun e4 he4 => ?_
  refine bi fun r5 hr5 => ?_
  refine At.d 0 (dE1 7 (fun _ => cA hT aG.enc he4) (dE2 10 (.tup [(aT.enc r5.1), (eB r5.2)]) (fun _ => aN (aFX hr5)) dE0)) dF0 ?_
  apply rt; exact At.r 0

def aKA : Nat → Bool := imL [2, 3]

def tN (N : Nat) (a0 : aT) (a1 : aT) : Option (Bool) :=
 aR (cond (decide (a0.gB1 < 1)) true (decide (a1.gB1 < 1))) fun x1 =>
 cond x1 (
  some false) (
  Option.bind (fS N a0.gB9 a1.gB1) fun r2 =>
  Option.bind (fS N a1.gB9 a0.gB1) fun r3 =>
  Option.bind (rS N r2 r3) fun r4 =>
  some (decide (r4 < 0)))

theorem aBd {N a0 a1 r} (h : tN N a0 a1 = some r) : FnM Tryz.prog 295 [] [(aT.enc a0), (aT.enc a1)] (eB r) [] := by
 unfold tN at h
 refine At.f aKA hT hmo Tryz.func295 rfl h ?_
 refine lx ?_; intro x1
 refine At.c 11 ?_ ?_
 ·apply rt; exact At.r 1
 ·refine bi fun r2 hr2 => ?_
  refine bi fun r3 hr3 => ?_
  refine bi fun r4 hr4 => ?_
  refine At.d 0 (dE2 4 (aO.enc r2) (fun _ => aN (jT hr2)) (dE2 9 (aO.enc r3) (fun _ => aN (jT hr3)) (dE2 10 (j64 r4) (fun _ => aN (zJ hr4)) dE0))) dF0 ?_
  apply rt; exact At.r 0

def yU : Nat → Bool := imL [6, 7]

def lQ (N : Nat) (s23 : (List Int)) (a0 : aC) (a1 : aC) (a2 : Int) (a3 : Int) (a4 : aM) : Nat → Int → aT → Int → Int → Option (Int × aT × Int)
 | 0, _, _, _, _ => none
 | k + 1, s25, s26, s27, s28 =>
  aR (decide (s28 < ((s23.length : Int)))) fun x29 =>
  cond x29 (
   Option.bind (Option.bind (idx s23 s28) fun e31 =>
   Option.bind (kN N a0 a1 a2 a3 e31 (aM.mk a4.gM a4.gA a4.gl (I64 (s25 + 1)))) fun r32 =>
   Option.bind (cond r32.2 (
    cond (decide (s27 < 0)) (
     some true) (
     Option.bind (tN N r32.1 s26) fun r34 =>
     cond r34 (
      some true) (
      cond (decide (e31 < s27)) (
       Option.bind (tN N s26 r32.1) fun r35 =>
       some (!r35)) (
       some false)))) (
    some false)) fun p33 =>
   cond p33 (some ((r32.1, r32.1, e31))) (some ((s26, r32.1, s27)))) fun p30 =>
   lQ N s23 a0 a1 a2 a3 a4 k (I64 (s25 + 1)) p30.1 p30.2.2 (I64 (s28 + 1))) (
   some ((s25, s26, s27)))

def eW (N : Nat) (a4 : aM) (a0 : aC) (a1 : aC) (a2 : Int) (a3 : Int) : Nat → (List Int) → Int → aT → Int → Nat → Option ((List Int) × Int × aT × Int)
 | 0, _, _, _, _, _ => none
 | k + 1, s6, s7, s8, s9, s10 =>
  aR (decide (((s10 : Int)) > 0)) fun x11 =>
  cond x11 (
   aR (I64 (((s10 : Int)) - 1)) fun x12 =>
   Option.bind (wV s6.length 0 s10 x12) fun _ =>
   Option.bind (s6[x12.toNat]?) fun e14 =>
   Option.bind (idx a4.gM.gC4 e14) fun e15 =>
   aR (I64 (((s10 : Int)) - 1)) fun x16 =>
   Option.bind (aHo s6.length 0 s10 0 x16) fun _ =>
   Option.bind (yZ N e15.gLo e15.gHi a0 a1) fun r18 =>
   Option.bind (cond (!r18.2) (
    some true) (
    cond (decide (s9 ≥ 0)) (
     Option.bind (iC N (bC.mk s8.gB9 s8.gB1) r18.1) fun r20 =>
     some r20) (
     some false))) fun p19 =>
   cond p19 (
    eW N a4 a0 a1 a2 a3 k s6 (I64 (s7 + 1)) s8 s9 x16.toNat) (
    cond (decide (e15.gB8 ≥ 0)) (
     Option.bind (aJT 8 s6 x16.toNat (([e15.gB6, e15.gB8] : List Int))) fun z21 =>
     eW N a4 a0 a1 a2 a3 k z21 (I64 (s7 + 1)) s8 s9 (x16.toNat + 2)) (
     aR (I64 (e15.gC7 + e15.gD4)) fun x22 =>
     Option.bind (wG a4.gM.gE1 e15.gC7 x22) fun s23 =>
     Option.bind (lQ N s23 a0 a1 a2 a3 a4 N (I64 (s7 + 1)) s8 s9 0) fun p24 =>
     eW N a4 a0 a1 a2 a3 k s6 p24.1 p24.2.1 p24.2.2 x16.toNat))) (
   some ((s6, s7, s8, s9)))

def nE (N : Nat) (a0 : aC) (a1 : aC) (a2 : Int) (a3 : Int) (a4 : aM) : Option (Int × Int × aT) :=
 Option.bind (Option.bind (pT N a4) fun r2 =>
 aR ((a4.gM.gC4.length : Int)) fun x3 =>
 cond (cond r2 true (x3 == 0)) (
  some true) (
  Option.bind (sE N a0 a1) fun r4 =>
  some (!r4))) fun p1 =>
 cond p1 (
  some ((a4.gD5, -1, aT.mk 0 0 0 0))) (
  Option.bind (eW N a4 a0 a1 a2 a3 N (([0] : List Int)) a4.gD5 (aT.mk 0 0 0 0) (-1) ((([0] : List Int)).length)) fun p5 =>
  some ((p5.2.1, p5.2.2.2, p5.2.2.1)))

theorem rT {N a0 a1 a2 a3 a4 r} (h : nE N a0 a1 a2 a3 a4 = some r) : FnM Tryz.prog 302 [.var (aM.enc a4)] [(.ref 0 [] 0), (aC.enc a0), (aC.enc a1), (k8 a2), (j64 a3)] (.tup [(j64 r.2.1), (aT.enc r.2.2)]) [.var (.st 5 [(bI.enc a4.gM), (eB a4.gA), (eL 19 aG.enc a4.gl), (j64 r.1)])] := by
 unfold nE at h
 refine At.f yU hT hmo Tryz.func302 rfl h ?_
 refine At.J 5 0 [0, 3, 4, 6, 7, 10, 11] 2 (fun p1 => ([(36, (eB p1))], [], [])) (fun p1 => ?_) fun p1 => ?_
 ·refine At.b 1 (fun _ e => aL [0] (wY e)) fun r2 => ?_
  refine lx ?_; intro x3
  refine At.s 31 10 ?_ ?_
  ·refine At.g [31] 5 ?_
   apply rt; exact At.jn 0
  ·refine At.g [31] 2 ?_
   refine At.b 0 (fun _ e => aL [] (xY e)) fun r4 => ?_
   refine At.g [31] 2 ?_
   apply rt; exact At.jn 0
 ·refine At.c 0 ?_ ?_
  ·refine At.d 0 dE0 dF0 ?_
   apply rt; exact At.r 0
  ·refine At.o 0 (aC8 hT j64 (k := 1) ([0] : List Int) (by kernel_rfl) (by kernel_rfl)) ?_
   refine At.gsub 1 12 ?_
   refine At.L 0 [11] 3 (fun p5 => ([(10, (j64 p5.2.2.2))], [(0, .var (.st 5 [(bI.enc a4.gM), (eB a4.gA), (eL 19 aG.enc a4.gl), (j64 p5.2.1)])), (1, .var (aT.enc p5.2.2.1)), (2, .gro 1 (List.map j64 p5.1))], [])) (fun p5 J k => ∃ s6 s7 s8 s9 s10, eW N a4 a0 a1 a2 a3 k s6 s7 s8 s9 s10 = some p5 ∧ J [0, 3, 4, 6, 7, 11] 3 [(10, (j64 s9)), (12, (.gro 2 1 s6.length (.sub 0 s10)))] [(0, .var (.st 5 [(bI.enc a4.gM), (eB a4.gA), (eL 19 aG.enc a4.gl), (j64 s7)])), (1, .var (aT.enc s8)), (2, .gro 1 (List.map j64 s6))] []) N (fun _ h => ⟨_, _, _, _, _, h, jr⟩) (fun p5 k s hI => ?_) fun p5 => ?_
   ·obtain ⟨s6, s7, s8, s9, s10, h, hj⟩ := hI
    cases k with
    | zero => cases h
    | succ k =>
     refine At.jr hj ?_ h
     refine lx ?_; intro x11
     refine At.c 3 ?_ ?_
     ·refine lx ?_; intro x12
      refine bi fun u13 hu13 => ?_
      refine bi fun e14 he14 => ?_
      refine bi fun e15 he15 => ?_
      refine At.d 0 (dE1 9 (fun _ => jK hT (id := 2) (k := 1) hu13 (by kernel_rfl) (by kernel_rfl)) (dET 10 (j64 e14) [[.var (.st 5 [(bI.enc a4.gM), (eB a4.gA), (eL 19 aG.enc a4.gl), (j64 s7)]), .var (aT.enc s8), .gro 1 (List.map j64 s6)], [.var (.st 5 [(bI.enc a4.gM), (eB a4.gA), (eL 19 aG.enc a4.gl), (j64 s7)]), .var (aT.enc s8), .gro 1 (List.map j64 s6), .var cv_8]] ⟨bO (nV hT j64 [] he14 rfl (by kernel_rfl) (by kernel_rfl)), bO (nV hT j64 [] he14 rfl (by kernel_rfl) (by kernel_rfl)), trivial⟩ (dE1 11 (fun _ => cA hT bE.enc he15) dE0))) dF0 ?_
      refine lx ?_; intro x16
      refine At.b 4 (fun _ e => aEz hT (id := 2) (k := 1) (L := s6.length) (lo0 := 0) (m := s10) e (by kernel_rfl) (by kernel_rfl)) fun s17 => ?_
      refine At.b 15 (fun _ e => aL [] (aDM e)) fun r18 => ?_
      refine At.J 6 0 [0, 3, 4, 6, 7, 10, 11, 12, 13] 5 (fun p19 => ([(92, (eB p19))], [], [])) (fun p19 => ?_) fun p19 => ?_
      ·refine At.s 80 3 ?_ ?_
       ·refine At.g [80, 83] 12 ?_
        apply rt; exact At.jn 0
       ·refine At.g [80] 3 ?_
        refine At.s 83 0 ?_ ?_
        ·refine At.g [83] 6 ?_
         refine At.b 0 (fun _ e => aL [] (kM e)) fun r20 => ?_
         refine At.g [80, 83] 2 ?_
         apply rt; exact At.jn 0
        ·refine At.g [83, 80] 9 ?_
         apply rt; exact At.jn 0
      ·refine At.c 0 ?_ ?_
       ·exact fun h => At.k 0 ⟨_, _, _, _, _, h, jr⟩
       ·refine At.c 3 ?_ ?_
        ·refine At.o 5 (cM hT (x := (.sl 1 2 [(j64 e15.gB6), (j64 e15.gB8)]))) ?_
         refine At.b 0 (fun z21 e => aDu hT j64 (id := 2) (k := 1) e (by kernel_rfl) (by kernel_rfl) (H' := [.var (.st 5 [(bI.enc a4.gM), (eB a4.gA), (eL 19 aG.enc a4.gl), (j64 (I64 (s7 + 1)))]), .var (aT.enc s8), .gro 1 (List.map j64 z21), .var (bE.enc e15), .var (bC.enc r18.1)]) (by kernel_rfl)) fun z21 => ?_
         exact fun h => At.k 1 ⟨_, _, _, _, _, h, jr⟩
        ·refine lx ?_; intro x22
         refine bi fun s23 hs23 => ?_
         refine At.d 0 (dE1 12 (fun _ => zL hT (k := 1) j64 hs23) dE0) dF0 ?_
         refine At.L 0 [0, 3, 4, 6, 7, 11, 12] 5 (fun p24 => ([(10, (j64 p24.2.2))], [(0, .var (.st 5 [(bI.enc a4.gM), (eB a4.gA), (eL 19 aG.enc a4.gl), (j64 p24.1)])), (1, .var (aT.enc p24.2.1))], [])) (fun p24 J k => ∃ s25 s26 s27 s28, lQ N s23 a0 a1 a2 a3 a4 k s25 s26 s27 s28 = some p24 ∧ J [0, 3, 4, 6, 7, 11, 12, 115, 116] 5 [(10, (j64 s27)), (117, (j64 s28))] [(0, .var (.st 5 [(bI.enc a4.gM), (eB a4.gA), (eL 19 aG.enc a4.gl), (j64 s25)])), (1, .var (aT.enc s26))] []) N (fun _ h => ⟨_, _, _, _, h, jr⟩) (fun p24 k s hI => ?_) fun p24 => ?_
         ·obtain ⟨s25, s26, s27, s28, h, hj⟩ := hI
          cases k with
          | zero => cases h
          | succ k =>
           refine At.jr hj ?_ h
           refine lx ?_; intro x29
           refine At.c 1 ?_ ?_
           ·refine At.J 0 2 [0, 3, 4, 6, 7, 11, 12, 115, 116, 117] 5 (fun p30 => ([(10, (j64 p30.2.2))], [(0, .var (.st 5 [(bI.enc a4.gM), (eB a4.gA), (eL 19 aG.enc a4.gl), (j64 (I64 (s25 + 1)))])), (1, .var (aT.enc p30.1))], [.var (aT.enc p30.2.1)])) (fun p30 => ?_) fun p30 => ?_
            ·refine At.b 0 (fun _ e => cA hT j64 e) fun e31 => ?_
             refine At.b 16 (fun _ e => aL [0] (sO e)) fun r32 => ?_
             refine At.J 6 0 [0, 3, 4, 6, 7, 10, 11, 12, 17, 18, 115, 116, 117] 6 (fun p33 => ([(158, (eB p33))], [], [])) (fun p33 => ?_) fun p33 => ?_
             ·refine At.s 139 2 ?_ ?_
              ·refine At.g [139] 3 ?_
               refine At.s 142 0 ?_ ?_
               ·refine At.g [142, 139, 147, 151] 16 ?_
                apply rt; exact At.jn 0
               ·refine At.g [142] 2 ?_
                refine At.b 0 (fun _ e => aL [] (aBd e)) fun r34 => ?_
                refine At.g [139, 142] 2 ?_
                refine At.s 147 0 ?_ ?_
                ·refine At.g [147, 151, 139] 11 ?_
                 apply rt; exact At.jn 0
                ·refine At.g [147] 4 ?_
                 refine At.s 151 0 ?_ ?_
                 ·refine At.g [151] 2 ?_
                  refine At.b 0 (fun _ e => aL [] (aBd e)) fun r35 => ?_
                  refine At.g [151, 147, 139] 4 ?_
                  apply rt; exact At.jn 0
                 ·refine At.g [151, 147, 139] 7 ?_
                  apply rt; exact At.jn 0
              ·refine At.g [139, 142, 147, 151] 19 ?_
               apply rt; exact At.jn 0
             ·refine At.c 0 ?_ ?_
              ·refine At.d 0 dE0 dF0 ?_
               apply rt; exact At.jn 0
              ·apply rt; exact At.jn 0
            ·exact fun h => At.k 2 ⟨_, _, _, _, h, jr⟩
           ·apply rt; exact At.x 0
         ·exact fun h => At.k 0 ⟨_, _, _, _, _, h, jr⟩
     ·apply rt; exact At.x 0
   ·refine At.d 0 dE0 dF0 ?_
    apply rt; exact At.r 0

def mN (N : Nat) (a0 : Int) : Option (Int) :=
 aR (jC (iN a0 (-1073741824)) 1073741824) fun x1 =>
 some x1

theorem wP {N a0 r} (h : mN N a0 = some r) : FnM Tryz.prog 220 [] [(j64 a0)] (j64 r) [] := by
 unfold mN at h
 refine At.f cU hT hmo Tryz.func220 rfl h ?_
 refine lx ?_; intro x1
 apply rt; exact At.r 5

def aJb : Nat → Bool := imL [1]

def pL (N : Nat) (a0 : aO) : Nat → Int → Int → Option (Int)
 | 0, _, _ => none
 | k + 1, s2, s3 =>
  cond (decide (s3 < 64)) (
   Option.bind (Option.bind (aHk .u64 1 (I64 (63 - s3))) fun x5 =>
   Option.bind (iX N (bor .u64 s2 x5) (bor .u64 s2 x5)) fun r6 =>
   Option.bind (aR (decide (r6.1 < (U64 a0.gHi))) fun x8 =>
   cond x8 (
    some ((bor .u64 s2 x5, true))) (
    aR (cond (r6.1 == (U64 a0.gHi)) (decide (r6.2 ≤ a0.gLo)) false) fun x9 =>
    some ((bor .u64 s2 x5, x9)))) fun p7 =>
   cond p7.2 (some p7.1) (some s2)) fun p4 =>
   pL N a0 k p4 (I64 (s3 + 1))) (
   some s2)

def rH (N : Nat) (a0 : aO) : Option (Int) :=
 cond (decide (a0.gHi < 0)) (
  some 0) (
  Option.bind (pL N a0 N 0 0) fun p1 =>
  some p1)

theorem aCk {N a0 r} (h : rH N a0 = some r) : FnM Tryz.prog 221 [] [(aO.enc a0)] (k64 r) [] := by
 unfold rH at h
 refine At.f aJb hT hmo Tryz.func221 rfl h ?_
 refine At.c 5 ?_ ?_
 ·apply rt; exact At.r 1
 ·refine At.L 2 [] 0 (fun p1 => ([(3, (k64 p1))], [], [])) (fun p1 J k => ∃ s2 s3, pL N a0 k s2 s3 = some p1 ∧ J [1] 0 [(3, (k64 s2)), (11, (j64 s3))] [] []) N (fun _ h => ⟨_, _, h, jr⟩) (fun p1 k s hI => ?_) fun p1 => ?_
  ·obtain ⟨s2, s3, h, hj⟩ := hI
   cases k with
   | zero => cases h
   | succ k =>
    refine At.jr hj ?_ h
    refine At.c 1 ?_ ?_
    ·refine At.J 0 2 [1, 11] 0 (fun p4 => ([(3, (k64 p4))], [], [])) (fun p4 => ?_) fun p4 => ?_
     ·refine At.b 5 (fun _ e => aBv hT (k' := .i64) e (by kernel_rfl) (by kernel_rfl)) fun x5 => ?_
      refine At.b 4 (fun _ e => aL [] (xZ e)) fun r6 => ?_
      refine At.J 5 0 [1, 3, 11] 0 (fun p7 => ([(5, (k64 p7.1)), (42, (eB p7.2))], [], [])) (fun p7 => ?_) fun p7 => ?_
      ·refine lx ?_; intro x8
       refine At.s 30 6 ?_ ?_
       ·refine At.g [30, 36] 12 ?_
        apply rt; exact At.jn 0
       ·refine lx ?_; intro x9
        refine At.g [30] 12 ?_
        apply rt; exact At.jn 0
      ·refine At.c 0 ?_ ?_
       ·apply rt; exact At.jn 2
       ·apply rt; exact At.jn 0
     ·exact fun h => At.k 2 ⟨_, _, h, jr⟩
    ·apply rt; exact At.x 0
  ·apply rt; exact At.r 2

def iY (N : Nat) (a0 : Int) (a1 : Int) : Option (Int) :=
 Option.bind (oG N (aO.mk a0 0) a1) fun r1 =>
 Option.bind (oE N r1.1) fun r2 =>
 some r2.1

theorem tP {N a0 a1 r} (h : iY N a0 a1 = some r) : FnM Tryz.prog 222 [] [(j64 a0), (.im (j64 a1))] (j64 r) [] := by
 unfold iY at h
 refine At.f cU hT hmo Tryz.func222 rfl h ?_
 refine At.b 4 (fun _ e => aL [] (zK e)) fun r1 => ?_
 refine At.b 9 (fun _ e => aL [] (wM e)) fun r2 => ?_
 apply rt; exact At.r 7

def aHj : Nat → Bool := imL [1]

def fM (N : Nat) (a0 : aC) : Option (aB) :=
 Option.bind (mN N a0.gX) fun r1 =>
 Option.bind (mN N a0.gY) fun r2 =>
 Option.bind (mN N a0.gZ) fun r3 =>
 aR (I64 ((I64 (r1 * r1)) + (I64 (r2 * r2)))) fun x4 =>
 aR (I64 (x4 + (I64 (r3 * r3)))) fun x5 =>
 Option.bind (rH N (aO.mk x5 0)) fun r6 =>
 cond ((I64 r6) == 0) (
  some (aB.mk 0 0 0)) (
  Option.bind (iY N r1 (I64 r6)) fun r7 =>
  Option.bind (iY N r2 (I64 r6)) fun r8 =>
  Option.bind (iY N r3 (I64 r6)) fun r9 =>
  some (aB.mk r7 r8 r9))

theorem kO {N a0 r} (h : fM N a0 = some r) : FnM Tryz.prog 159 [] [(aC.enc a0)] (aB.enc r) [] := by
 unfold fM at h
 refine At.f aHj hT hmo Tryz.func159 rfl h ?_
 refine bi fun r1 hr1 => ?_
 refine bi fun r2 hr2 => ?_
 refine bi fun r3 hr3 => ?_
 refine At.d 3 (dE2 3 (j64 r1) (fun _ => aN (wP hr1)) (dE2 7 (j64 r2) (fun _ => aN (wP hr2)) (dE2 11 (j64 r3) (fun _ => aN (wP hr3)) dE0))) dF0 ?_
 refine lx ?_; intro x4
 refine lx ?_; intro x5
 refine At.b 12 (fun _ e => aL [] (aCk e)) fun r6 => ?_
 refine At.c 5 ?_ ?_
 ·apply rt; exact At.r 2
 ·refine At.gz 0 1 ((j64 (I64 r6))) ?_
  refine At.o 0 (pX (x := (.fn (.func 222) [] [(.im (j64 (I64 r6)))])) (by kernel_rfl) (by kernel_rfl)) ?_
  refine At.b 3 (fun _ e => aL [] (tP e)) fun r7 => ?_
  refine At.b 2 (fun _ e => aL [] (tP e)) fun r8 => ?_
  refine At.b 2 (fun _ e => aL [] (tP e)) fun r9 => ?_
  apply rt; exact At.r 2

def qI (N : Nat) (a0 : (List aO)) : Nat → aO → Int → Option (Sum (aO) (aO × Bool))
 | 0, _, _ => none
 | k + 1, s2, s3 =>
  aR (decide (s3 < ((a0.length : Int)))) fun x4 =>
  cond x4 (
   Option.bind (idx a0 s3) fun e5 =>
   Option.bind (xO s2.gLo e5.gLo 0) fun r6 =>
   Option.bind (xO (U64 s2.gHi) (U64 e5.gHi) r6.2) fun r7 =>
   aR ((decide (s2.gHi < 0)) == (decide (e5.gHi < 0))) fun x8 =>
   aR (decide ((I64 r7.1) < 0)) fun x9 =>
   aR (!(x9 == (decide (e5.gHi < 0)))) fun x10 =>
   cond (cond x8 x10 false) (
    some (Sum.inr ((aO.mk 0 0, false)))) (
    qI N a0 k (aO.mk (I64 r7.1) r6.1) (I64 (s3 + 1)))) (
   some (Sum.inl s2))

def tT (N : Nat) (a0 : (List aO)) : Option (aO × Bool) :=
 Option.bind (qI N a0 N (aO.mk 0 0) 0) fun o => jU o (fun p1 =>
  some ((p1, true))) (fun r => some r)

theorem aBK {N a0 r} (h : tT N a0 = some r) : FnM Tryz.prog 229 [] [(eL 2 aO.enc a0)] (.tup [(aO.enc r.1), (eB r.2)]) [] := by
 unfold tT at h
 refine At.f cU hT hmo Tryz.func229 rfl h ?_
 refine At.LS 5 [2] 1 (fun p1 => ([], [(0, .var (aO.enc p1))], [])) (fun op1 J k => ∃ s2 s3, qI N a0 k s2 s3 = some op1 ∧ J [2, 11, 12] 1 [(13, (j64 s3))] [(0, .var (aO.enc s2))] []) N (fun _ h => ⟨_, _, h, jr⟩) (fun op1 g1 k s hI => ?_) fun p1 => ?_
 ·obtain ⟨s2, s3, h, hj⟩ := hI
  cases k with
  | zero => cases h
  | succ k =>
   refine At.jr hj ?_ h
   refine lx ?_; intro x4
   refine At.c 1 ?_ ?_
   ·refine At.b 0 (fun _ e => cA hT aO.enc e) fun e5 => ?_
    refine At.b 7 (fun _ e => aC1 (aIP e) (fun _ => aCx)) fun r6 => ?_
    refine At.b 12 (fun _ e => aC1 (aIP e) (fun _ => aCx)) fun r7 => ?_
    refine lx ?_; intro x8
    refine lx ?_; intro x9
    refine lx ?_; intro x10
    refine At.c 23 ?_ ?_
    ·intro e; apply aBi g1 e; exact At.r 3
    ·exact fun h => At.k 6 ⟨_, _, h, jr⟩
   ·apply rt; exact At.xs 0
 ·apply rt; exact At.r 3

def vW (N : Nat) (a0 : Int) (a1 : Int) : Option (Int) :=
 Option.bind (sC N a0) fun r1 =>
 Option.bind (sC N a1) fun r2 =>
 Option.bind (tT N ([r1, r2])) fun r3 =>
 Option.bind (sC N (-65536)) fun r4 =>
 Option.bind (sC N 65536) fun r5 =>
 Option.bind (rS N r3.1 r4) fun r6 =>
 cond (decide (r6 < 0)) (
  some (-65536)) (
  Option.bind (rS N r3.1 r5) fun r7 =>
  cond (decide (r7 > 0)) (
   some 65536) (
   Option.bind (oE N r3.1) fun r8 =>
   some r8.1))

theorem aD4 {N a0 a1 r} (h : vW N a0 a1 = some r) : FnM Tryz.prog 224 [] [(j64 a0), (j64 a1)] (j64 r) [] := by
 unfold vW at h
 refine At.f cU hT hmo Tryz.func224 rfl h ?_
 refine At.b 2 (fun _ e => aL [] (yE e)) fun r1 => ?_
 refine At.b 1 (fun _ e => aL [] (yE e)) fun r2 => ?_
 refine At.o 0 (cM hT (x := (.sl 2 2 [(aO.enc r1), (aO.enc r2)]))) ?_
 refine At.b 0 (fun _ e => aL [] (aBK e)) fun r3 => ?_
 refine At.b 6 (fun _ e => aL [] (yE e)) fun r4 => ?_
 refine At.b 0 (fun _ e => aL [] (yE e)) fun r5 => ?_
 refine At.b 6 (fun _ e => aL [] (zJ e)) fun r6 => ?_
 refine At.c 2 ?_ ?_
 ·apply rt; exact At.r 1
 ·refine At.b 2 (fun _ e => aL [] (zJ e)) fun r7 => ?_
  refine At.c 2 ?_ ?_
  ·apply rt; exact At.r 1
  ·refine At.b 1 (fun _ e => aL [] (wM e)) fun r8 => ?_
   apply rt; exact At.r 7

def jN (N : Nat) (a0 : Int) (a1 : Int) (a2 : aT) : Option (Int) :=
 cond (decide (a2.gB1 < 1)) (
  Option.bind (vW N a0 0) fun r1 =>
  some r1) (
  Option.bind (iG N a1 a2.gB9 a2.gB1) fun r2 =>
  Option.bind (vW N a0 r2) fun r3 =>
  some r3)

theorem tY {N a0 a1 a2 r} (h : jN N a0 a1 a2 = some r) : FnM Tryz.prog 223 [] [(j64 a0), (j64 a1), (.im (aT.enc a2))] (j64 r) [] := by
 unfold jN at h
 refine At.f cU hT hmo Tryz.func223 rfl h ?_
 refine At.c 4 ?_ ?_
 ·refine At.b 1 (fun _ e => aL [] (aD4 e)) fun r1 => ?_
  apply rt; exact At.r 1
 ·refine At.b 6 (fun _ e => aL [] (rW e)) fun r2 => ?_
  refine At.b 0 (fun _ e => aL [] (aD4 e)) fun r3 => ?_
  apply rt; exact At.r 1

def aJB : Nat → Bool := imL [3, 4, 5]

def rJ (N : Nat) (a0 : aC) (a1 : aC) (a2 : aT) : Option (aC) :=
 Option.bind (jN N a0.gX a1.gX a2) fun r1 =>
 Option.bind (jN N a0.gY a1.gY a2) fun r2 =>
 Option.bind (jN N a0.gZ a1.gZ a2) fun r3 =>
 some (aC.mk r1 r2 r3)

theorem xB {N a0 a1 a2 r} (h : rJ N a0 a1 a2 = some r) : FnM Tryz.prog 162 [] [(aC.enc a0), (aC.enc a1), (aT.enc a2)] (aC.enc r) [] := by
 unfold rJ at h
 refine At.f aJB hT hmo Tryz.func162 rfl h ?_
 refine At.o 4 (pX (x := (.fn (.func 223) [] [(.im (aT.enc a2))])) (by kernel_rfl) (by kernel_rfl)) ?_
 refine bi fun r1 hr1 => ?_
 refine bi fun r2 hr2 => ?_
 refine bi fun r3 hr3 => ?_
 refine At.d 1 (dE2 5 (j64 r1) (fun _ => aN (tY hr1)) (dE2 11 (j64 r2) (fun _ => aN (tY hr2)) (dE2 17 (j64 r3) (fun _ => aN (tY hr3)) dE0))) dF0 ?_
 apply rt; exact At.r 0

def aLa : Nat → Bool := imL [2, 3]

def qJ (N : Nat) (a0 : aB) (a1 : aB) : Option (Int) :=
 Option.bind (iD N ([a0, a1])) fun r1 =>
 Option.bind (lF N ([r1.gX, r1.gY, r1.gZ])) fun r2 =>
 some r2

theorem vO {N a0 a1 r} (h : qJ N a0 a1 = some r) : FnM Tryz.prog 170 [] [(aB.enc a0), (aB.enc a1)] (j64 r) [] := by
 unfold qJ at h
 refine At.f aLa hT hmo Tryz.func170 rfl h ?_
 refine At.o 5 (cM hT (x := (.sl 3 2 [(aB.enc a0), (aB.enc a1)]))) ?_
 refine At.b 0 (fun _ e => aL [] (pS e)) fun r1 => ?_
 refine At.o 8 (cM hT (x := (.sl 1 3 [(j64 r1.gX), (j64 r1.gY), (j64 r1.gZ)]))) ?_
 refine At.b 0 (fun _ e => aL [] (tQ e)) fun r2 => ?_
 apply rt; exact At.r 1

def aDY : Nat → Bool := imL [2, 3]

def kL (N : Nat) (a0 : aB) (a1 : aC) : Option (aB) :=
 Option.bind (fM N a1) fun r1 =>
 Option.bind (qJ N a0 r1) fun r2 =>
 cond (decide (r2 ≤ 0)) (
  some a0) (
  Option.bind (fD N a0 (-4294967296)) fun r3 =>
  some r3)

theorem qW {N a0 a1 r} (h : kL N a0 a1 = some r) : FnM Tryz.prog 163 [] [(aB.enc a0), (aC.enc a1)] (aB.enc r) [] := by
 unfold kL at h
 refine At.f aDY hT hmo Tryz.func163 rfl h ?_
 refine bi fun r1 hr1 => ?_
 refine bi fun r2 hr2 => ?_
 refine At.d 3 (dE2 2 (aB.enc r1) (fun _ => aN (kO hr1)) (dE2 3 (j64 r2) (fun _ => aN (vO hr2)) dE0)) dF0 ?_
 refine At.c 0 ?_ ?_
 ·apply rt; exact At.r 2
 ·refine At.b 1 (fun _ e => aL [] (jI e)) fun r3 => ?_
  apply rt; exact At.r 1

def uY (N : Nat) (a0 : (List aD)) (a1 : Int) : Option (aD × Bool) :=
 aR (((a0.length : Int)) == 0) fun x1 =>
 cond x1 (
  some ((aD.mk 0 [], false))) (
  aR (I64 (((a0.length : Int)) - 1)) fun x2 =>
  Option.bind (idx a0 (jC (iN a1 0) x2)) fun e3 =>
  some ((e3, true)))

theorem aGK {N a0 a1 r} (h : uY N a0 a1 = some r) : FnM Tryz.prog 225 [] [(eL 2 aD.enc a0), (j64 a1)] (.tup [(aD.enc r.1), (eB r.2)]) [] := by
 unfold uY at h
 refine At.f cU hT hmo Tryz.func225 rfl h ?_
 refine lx ?_; intro x1
 refine At.c 5 ?_ ?_
 ·apply rt; exact At.r 3
 ·refine lx ?_; intro x2
  refine At.b 7 (fun _ e => cA hT aD.enc e) fun e3 => ?_
  apply rt; exact At.r 3

def kD (N : Nat) (a0 : Int) (a1 : aT) (a2 : (Vector (Vector Int 2) 3)) : Option (Int) :=
 aR (I64 ((I64 (a1.gB1 - a1.gU)) - a1.gV)) fun x1 =>
 Option.bind (idx a2.toList 0) fun e2 =>
 Option.bind (idx e2.toList a0) fun e3 =>
 Option.bind (fS N x1 e3) fun r4 =>
 Option.bind (idx a2.toList 1) fun e5 =>
 Option.bind (idx e5.toList a0) fun e6 =>
 Option.bind (fS N a1.gU e6) fun r7 =>
 Option.bind (idx a2.toList 2) fun e8 =>
 Option.bind (idx e8.toList a0) fun e9 =>
 Option.bind (fS N a1.gV e9) fun r10 =>
 Option.bind (tT N ([r4, r7, r10])) fun r11 =>
 cond (!r11.2) (
  some 0) (
  Option.bind (oG N r11.1 a1.gB1) fun r12 =>
  Option.bind (oE N r12.1) fun r13 =>
  aR (cond (!r13.2) (decide (r12.1.gHi < 0)) false) fun x14 =>
  cond x14 (
   some (-2147483648)) (
   cond (!r13.2) (
    some 2147483647) (
    aR (iN r13.1 (-2147483648)) fun x15 =>
    some (jC x15 2147483647))))

theorem wW {N a0 a1 a2 r} (h : kD N a0 a1 a2 = some r) : FnM Tryz.prog 257 [] [(j64 a0), (.im (aT.enc a1)), (.im (eA 6 2 (eA 2 1 j64) a2))] (j64 r) [] := by
 unfold kD at h
 refine At.f cU hT hmo Tryz.func257 rfl h ?_
 refine lx ?_; intro x1
 refine bi fun e2 he2 => ?_
 refine bi fun e3 he3 => ?_
 refine bi fun r4 hr4 => ?_
 refine bi fun e5 he5 => ?_
 refine bi fun e6 he6 => ?_
 refine bi fun r7 hr7 => ?_
 refine bi fun e8 he8 => ?_
 refine bi fun e9 he9 => ?_
 refine bi fun r10 hr10 => ?_
 refine bi fun r11 hr11 => ?_
 refine At.d 10 (dE1 2 (fun _ => dK hT (N := 6) (k := 2) (eA 2 1 j64) a2 he2) (dE1 3 (fun _ => dK hT (N := 2) (k := 1) j64 e2 he3) (dE2 5 (aO.enc r4) (fun _ => aN (jT hr4)) (dE1 9 (fun _ => dK hT (N := 6) (k := 2) (eA 2 1 j64) a2 he5) (dE1 10 (fun _ => dK hT (N := 2) (k := 1) j64 e5 he6) (dE2 12 (aO.enc r7) (fun _ => aN (jT hr7)) (dE1 16 (fun _ => dK hT (N := 6) (k := 2) (eA 2 1 j64) a2 he8) (dE1 17 (fun _ => dK hT (N := 2) (k := 1) j64 e8 he9) (dE2 19 (aO.enc r10) (fun _ => aN (jT hr10)) (dE1 20 (fun _ => cM hT (x := (.sl 2 3 [(aO.enc r4), (aO.enc r7), (aO.enc r10)]))) (dE2 21 (.tup [(aO.enc r11.1), (eB r11.2)]) (fun _ => aN (aBK hr11)) dE0))))))))))) dF0 ?_
 refine At.c 2 ?_ ?_
 ·apply rt; exact At.r 1
 ·refine At.b 3 (fun _ e => aL [] (zK e)) fun r12 => ?_
  refine At.b 9 (fun _ e => aL [] (wM e)) fun r13 => ?_
  refine lx ?_; intro x14
  refine At.c 13 ?_ ?_
  ·apply rt; exact At.r 1
  ·refine At.c 3 ?_ ?_
   ·apply rt; exact At.r 1
   ·refine lx ?_; intro x15
    apply rt; exact At.r 4


def aHH : Nat → Bool := imL [2, 3]

def uO (N : Nat) (a0 : aT) (a1 : (Vector (Vector Int 2) 3)) : Option (Int × Int) :=
 Option.bind (cond (decide (a0.gB1 < 1)) (
  some true) (
  aR (decide ((iN (iN (iN a0.gB9 a0.gB1) a0.gU) a0.gV) > 1152921504606846976)) fun x2 =>
  cond x2 (
   some true) (
   aR (decide ((jC (jC a0.gB9 a0.gU) a0.gV) < (-1152921504606846976))) fun x3 =>
   some x3))) fun p1 =>
 cond p1 (
  some ((0, 0))) (
  Option.bind (kD N 0 a0 a1) fun r4 =>
  Option.bind (kD N 1 a0 a1) fun r5 =>
  some ((r4, r5)))

theorem aGH {N a0 a1 r} (h : uO N a0 a1 = some r) : FnM Tryz.prog 226 [] [(aT.enc a0), (eA 6 2 (eA 2 1 j64) a1)] (.tup [(j64 r.1), (j64 r.2)]) [] := by
 unfold uO at h
 refine At.f aHH hT hmo Tryz.func226 rfl h ?_
 refine At.J 4 0 [2, 3] 0 (fun p1 => ([(31, (eB p1))], [], [])) (fun p1 => ?_) fun p1 => ?_
 ·refine At.s 10 4 ?_ ?_
  ·refine At.g [10, 22] 21 ?_
   apply rt; exact At.jn 0
  ·refine At.g [10] 8 ?_
   refine At.o 0 (aNn (k := .i64) (i := a0.gB9) (j := a0.gB1) (l := a0.gU) (m := a0.gV) (by kernel_rfl) (by kernel_rfl)) ?_
   refine lx ?_; intro x2
   refine At.g [10] 3 ?_
   refine At.s 22 0 ?_ ?_
   ·refine At.g [22] 9 ?_
    apply rt; exact At.jn 0
   ·refine At.g [22] 6 ?_
    refine At.o 0 (yF (k := .i64) (i := a0.gB9) (j := a0.gU) (l := a0.gV) (by kernel_rfl) (by kernel_rfl)) ?_
    refine lx ?_; intro x3
    refine At.g [22] 2 ?_
    apply rt; exact At.jn 0
 ·refine At.c 0 ?_ ?_
  ·apply rt; exact At.r 2
  ·refine At.o 0 (pX (x := (.fn (.func 257) [] [(.im (aT.enc a0)), (.im (eA 6 2 (eA 2 1 j64) a1))])) (by kernel_rfl) (by kernel_rfl)) ?_
   refine At.b 2 (fun _ e => aL [] (wW e)) fun r4 => ?_
   refine At.b 1 (fun _ e => aL [] (wW e)) fun r5 => ?_
   apply rt; exact At.r 2

def aHn : Nat → Bool := imL [3]

def uW (N : Nat) (a0 : aD) (a1 : Int) (a2 : Int) : Option ((Vector Int 3) × Int) :=
 Option.bind (iJ N a0) fun r1 =>
 cond (r1 != 0) (
  some ((#v[0, 0, 0], r1))) (
  Option.bind (mA N a0 a1 a2) fun r2 =>
  some ((r2, 0)))

theorem aGS {N a0 a1 a2 r} (h : uW N a0 a1 a2 = some r) : FnM Tryz.prog 259 [] [(aD.enc a0), (j64 a1), (j64 a2)] (.tup [(eA 3 1 j64 r.1), (j64 r.2)]) [] := by
 unfold uW at h
 refine At.f aHn hT hmo Tryz.func259 rfl h ?_
 refine At.b 4 (fun _ e => aL [] (sD e)) fun r1 => ?_
 refine At.c 3 ?_ ?_
 ·apply rt; exact At.r 4
 ·refine At.b 3 (fun _ e => aL [] (tD e)) fun r2 => ?_
  apply rt; exact At.r 2

def dQ (N : Nat) (a0 : Int) (a1 : Int) (a2 : aD) (a3 : Int) (a4 : Int) : Option ((Vector Int 3)) :=
 aR (I64 ((shr .i64 a3 16) + a0)) fun x1 =>
 aR (I64 ((shr .i64 a4 16) + a1)) fun x2 =>
 Option.bind (uW N a2 x1 x2) fun r3 =>
 some r3.1

theorem lE {N a0 a1 a2 a3 a4 r} (h : dQ N a0 a1 a2 a3 a4 = some r) : FnM Tryz.prog 258 [] [(j64 a0), (j64 a1), (.im (aD.enc a2)), (.im (j64 a3)), (.im (j64 a4))] (eA 3 1 j64 r) [] := by
 unfold dQ at h
 refine At.f cU hT hmo Tryz.func258 rfl h ?_
 refine lx ?_; intro x1
 refine lx ?_; intro x2
 refine At.b 10 (fun _ e => aL [] (aGS e)) fun r3 => ?_
 apply rt; exact At.r 8

def aF2 : Nat → Bool := imL [3]

def lL (N : Nat) (e20 : (Vector Int 3)) (s19 : Int) (x4 : Int) (x5 : Int) : Nat → (Vector Int 3) → Int → Option ((Vector Int 3))
 | 0, _, _ => none
 | k + 1, s22, s23 =>
  cond (decide (s23 < 3)) (
   Option.bind (eK s23 3) fun _ =>
   Option.bind (s22.toList[s23.toNat]?) fun e25 =>
   Option.bind (eK s23 3) fun _ =>
   Option.bind (e20.toList[s23.toNat]?) fun e27 =>
   Option.bind (eK s19 4) fun _ =>
   Option.bind ((#v[I64 ((I64 (65536 - (iA .i64 x4 65535))) * (I64 (65536 - (iA .i64 x5 65535)))), (I64 ((iA .i64 x4 65535) * (I64 (65536 - (iA .i64 x5 65535))))), (I64 ((I64 (65536 - (iA .i64 x4 65535))) * (iA .i64 x5 65535))), (I64 ((iA .i64 x4 65535) * (iA .i64 x5 65535)))]).toList[s19.toNat]?) fun e29 =>
   aR (I64 (e25 + (I64 (e27 * e29)))) fun x30 =>
   Option.bind (eK s23 3) fun _ =>
   Option.bind (s22.toList[s23.toNat]?) fun e32 =>
   lL N e20 s19 x4 x5 k (s22.setIfInBounds s23.toNat x30) (I64 (s23 + 1))) (
   some s22)

def lB (N : Nat) (r13 : (Vector Int 3)) (r14 : (Vector Int 3)) (r15 : (Vector Int 3)) (r16 : (Vector Int 3)) (x4 : Int) (x5 : Int) : Nat → (Vector Int 3) → Int → Option ((Vector Int 3))
 | 0, _, _ => none
 | k + 1, s18, s19 =>
  cond (decide (s19 < 4)) (
   Option.bind (idx (#v[r13, r14, r15, r16]).toList s19) fun e20 =>
   Option.bind (lL N e20 s19 x4 x5 N s18 0) fun p21 =>
   lB N r13 r14 r15 r16 x4 x5 k p21 (I64 (s19 + 1))) (
   some s18)

def rK (N : Nat) (a0 : aD) (a1 : Int) (a2 : Int) : Option (aB × Int) :=
 Option.bind (iJ N a0) fun r1 =>
 cond (r1 != 0) (
  some ((aB.mk 0 0 0, r1))) (
  aR (decide ((jC a1 a2) < 0)) fun x2 =>
  aR (decide ((iN a1 a2) > 65535)) fun x3 =>
  cond (cond x2 true x3) (
   some ((aB.mk 0 0 0, 2))) (
   aR (I64 ((I64 (a1 * a0.gF)) - 32768)) fun x4 =>
   aR (I64 ((I64 (a2 * a0.gF)) - 32768)) fun x5 =>
   aR (I64 (65536 - (iA .i64 x4 65535))) fun x6 =>
   aR (I64 (65536 - (iA .i64 x5 65535))) fun x7 =>
   aR (I64 (65536 - (iA .i64 x5 65535))) fun x8 =>
   aR (I64 ((iA .i64 x4 65535) * x8)) fun x9 =>
   aR (I64 (65536 - (iA .i64 x4 65535))) fun x10 =>
   aR (I64 (x10 * (iA .i64 x5 65535))) fun x11 =>
   aR (I64 ((iA .i64 x4 65535) * (iA .i64 x5 65535))) fun x12 =>
   Option.bind (dQ N 0 0 a0 x4 x5) fun r13 =>
   Option.bind (dQ N 1 0 a0 x4 x5) fun r14 =>
   Option.bind (dQ N 0 1 a0 x4 x5) fun r15 =>
   Option.bind (dQ N 1 1 a0 x4 x5) fun r16 =>
   Option.bind (lB N r13 r14 r15 r16 x4 x5 N (#v[0, 0, 0]) 0) fun p17 =>
   Option.bind (eK 0 3) fun _ =>
   Option.bind (p17.toList[(Int.toNat 0)]?) fun e34 =>
   Option.bind (eK 1 3) fun _ =>
   Option.bind (p17.toList[(Int.toNat 1)]?) fun e36 =>
   Option.bind (eK 2 3) fun _ =>
   Option.bind (p17.toList[(Int.toNat 2)]?) fun e38 =>
   some ((aB.mk (I64 (Int.tdiv e34 255)) (I64 (Int.tdiv e36 255)) (I64 (Int.tdiv e38 255)), 0))))

theorem aEU {N a0 a1 a2 r} (h : rK N a0 a1 a2 = some r) : FnM Tryz.prog 227 [] [(aD.enc a0), (j64 a1), (j64 a2)] (.tup [(aB.enc r.1), (j64 r.2)]) [] := by
 unfold rK at h
 refine At.f aF2 hT hmo Tryz.func227 rfl h ?_
 refine At.b 4 (fun _ e => aL [] (sD e)) fun r1 => ?_
 refine At.c 3 ?_ ?_
 ·apply rt; exact At.r 4
 ·refine lx ?_; intro x2
  refine lx ?_; intro x3
  refine At.c 10 ?_ ?_
  ·apply rt; exact At.r 3
  ·refine lx ?_; intro x4
   refine lx ?_; intro x5
   refine At.d2 0 [false, false] dC0 (dS1 10 ⟨(.ref 1 [] 0), 1, .var (j64 0), .dead⟩ [[.var (.st 3 [(j64 0), (j64 0), (j64 0)]), .dead, .dead], [.var (.st 3 [(j64 0), (j64 0), (j64 0)]), .dead, .var (j64 0)]] ⟨aW hT 1 (by kernel_rfl) (by kernel_rfl) (by kernel_rfl), aW hT 1 (by kernel_rfl) (by kernel_rfl) (by kernel_rfl), trivial⟩ (dS1 11 ⟨(.ref 2 [] 0), 2, .var (j64 0), .dead⟩ [[.var (.st 3 [(j64 0), (j64 0), (j64 0)]), .dead, .dead], [.var (.st 3 [(j64 0), (j64 0), (j64 0)]), .var (j64 0), .dead]] ⟨aW hT 2 (by kernel_rfl) (by kernel_rfl) (by kernel_rfl), aW hT 2 (by kernel_rfl) (by kernel_rfl) (by kernel_rfl), trivial⟩ dS0)) ?_
   refine At.d 0 dE0 dF0 ?_
   refine At.gz 0 1 ((j64 x4)) ?_
   refine At.gz 0 2 ((j64 x5)) ?_
   refine At.o 0 (pX (x := (.fn (.func 258) [] [(.im (aD.enc a0)), (.im (j64 x4)), (.im (j64 x5))])) (by kernel_rfl) (by kernel_rfl)) ?_
   refine lx ?_; intro x6
   refine lx ?_; intro x7
   refine lx ?_; intro x8
   refine lx ?_; intro x9
   refine lx ?_; intro x10
   refine lx ?_; intro x11
   refine lx ?_; intro x12
   refine At.b 21 (fun _ e => aL [] (lE e)) fun r13 => ?_
   refine At.b 1 (fun _ e => aL [] (lE e)) fun r14 => ?_
   refine At.b 1 (fun _ e => aL [] (lE e)) fun r15 => ?_
   refine At.b 1 (fun _ e => aL [] (lE e)) fun r16 => ?_
   refine At.L 6 [6, 16] 6 (fun p17 => ([], [(5, .var (eA 3 1 j64 p17))], [])) (fun p17 J k => ∃ s18 s19, lB N r13 r14 r15 r16 x4 x5 k s18 s19 = some p17 ∧ J [6, 14, 16, 78] 6 [(79, (j64 s19))] [(5, .var (eA 3 1 j64 s18))] []) N (fun _ h => ⟨_, _, h, jr⟩) (fun p17 k s hI => ?_) fun p17 => ?_
   ·obtain ⟨s18, s19, h, hj⟩ := hI
    cases k with
    | zero => cases h
    | succ k =>
     refine At.jr hj ?_ h
     refine At.c 1 ?_ ?_
     ·refine At.b 1 (fun _ e => zD hT (eA 3 1 j64) (#v[r13, r14, r15, r16]) e (by kernel_rfl) (by kernel_rfl)) fun e20 => ?_
      refine At.L 4 [6, 14, 16, 78, 79] 7 (fun p21 => ([], [(5, .var (eA 3 1 j64 p21))], [])) (fun p21 J k => ∃ s22 s23, lL N e20 s19 x4 x5 k s22 s23 = some p21 ∧ J [6, 14, 16, 17, 18, 78, 79] 7 [(83, (j64 s23))] [(5, .var (eA 3 1 j64 s22))] []) N (fun _ h => ⟨_, _, h, jr⟩) (fun p21 k s hI => ?_) fun p21 => ?_
      ·obtain ⟨s22, s23, h, hj⟩ := hI
       cases k with
       | zero => cases h
       | succ k =>
        refine At.jr hj ?_ h
        refine At.c 1 ?_ ?_
        ·refine bi fun u24 hu24 => ?_
         refine bi fun e25 he25 => ?_
         refine bi fun u26 hu26 => ?_
         refine bi fun e27 he27 => ?_
         refine bi fun u28 hu28 => ?_
         refine bi fun e29 he29 => ?_
         refine lx ?_; intro x30
         refine bi fun u31 hu31 => ?_
         refine bi fun e32 he32 => ?_
         refine At.d 2 (dE1 1 (fun _ => bD hT (k := 1) 5 [] 0 hu24) (dEL hT 2 (j64 e25) j64 0 he25 (dE1 4 (fun _ => bD hT (k := 1) 6 [] 0 hu26) (dEL hT 5 (j64 e27) j64 0 he27 (dE1 7 (fun _ => bD hT (k := 1) 3 [] 0 hu28) (dEL hT 8 (j64 e29) j64 0 he29 (dE1 11 (fun _ => bD hT (k := 1) 5 [] 0 hu31) dE0))))))) (dF 12 (.v (.bool false)) [(5, .var (eA 3 1 j64 (s22.setIfInBounds s23.toNat x30)))] [] (bO (nB hT j64 0 s22 he32 x30 (by kernel_rfl) (by kernel_rfl) (H' := [.var (.st 3 [(j64 0), (j64 0), (j64 0)]), .dead, .dead, .var (.arr 4 1 [(j64 (I64 ((I64 (65536 - (iA .i64 x4 65535))) * (I64 (65536 - (iA .i64 x5 65535)))))), (j64 ((I64 ((iA .i64 x4 65535) * (I64 (65536 - (iA .i64 x5 65535))))))), (j64 ((I64 ((I64 (65536 - (iA .i64 x4 65535))) * (iA .i64 x5 65535))))), (j64 ((I64 ((iA .i64 x4 65535) * (iA .i64 x5 65535)))))]), .var (.arr 12 3 [(eA 3 1 j64 r13), (eA 3 1 j64 r14), (eA 3 1 j64 r15), (eA 3 1 j64 r16)]), .var (eA 3 1 j64 (s22.setIfInBounds s23.toNat x30)), .var (eA 3 1 j64 e20)]))) dF0) ?_
         exact fun h => At.k 2 ⟨_, _, h, jr⟩
        ·apply rt; exact At.x 0
      ·exact fun h => At.k 2 ⟨_, _, h, jr⟩
     ·apply rt; exact At.x 0
   ·refine At.b 0 (fun _ e => bD hT (k := 1) 5 [] 0 e) fun u33 => ?_
    refine At.b 0 (fun _ e => oR hT j64 0 e) fun e34 => ?_
    refine At.b 1 (fun _ e => bD hT (k := 1) 5 [] 0 e) fun u35 => ?_
    refine At.b 0 (fun _ e => oR hT j64 0 e) fun e36 => ?_
    refine At.b 1 (fun _ e => bD hT (k := 1) 5 [] 0 e) fun u37 => ?_
    refine At.b 0 (fun _ e => oR hT j64 0 e) fun e38 => ?_
    apply rt; exact At.r 4

def aEb : Nat → Bool := imL [5, 7, 8]

def lR (N : Nat) (a0 : (Vector Int 3)) (a1 : (List aD)) (a2 : (Vector (Vector Int 2) 3)) (a3 : aT) (a4 : Int) : Option (aB) :=
 Option.bind (qL N a0 65535) fun r1 =>
 Option.bind (uY N a1 a4) fun r2 =>
 cond (!r2.2) (
  some r1) (
  Option.bind (uO N a3 a2) fun r3 =>
  aR (jC (iN r3.1 0) 65535) fun x4 =>
  aR (jC (iN r3.2 0) 65535) fun x5 =>
  Option.bind (rK N r2.1 x4 x5) fun r6 =>
  cond (r6.2 != 0) (
   some r1) (
   Option.bind (iD N ([r1, r6.1])) fun r7 =>
   some r7))

theorem aAH {N a0 a1 a2 a3 a4 r} (h : lR N a0 a1 a2 a3 a4 = some r) : FnM Tryz.prog 164 [] [(eA 3 1 j64 a0), (eL 2 aD.enc a1), (eA 6 2 (eA 2 1 j64) a2), (aT.enc a3), (j64 a4)] (aB.enc r) [] := by
 unfold lR at h
 refine At.f aEb hT hmo Tryz.func164 rfl h ?_
 refine At.b 5 (fun _ e => aL [] (aBl e)) fun r1 => ?_
 refine At.b 4 (fun _ e => aL [] (aGK e)) fun r2 => ?_
 refine At.c 8 ?_ ?_
 ·apply rt; exact At.r 2
 ·refine At.b 2 (fun _ e => aL [] (aGH e)) fun r3 => ?_
  refine lx ?_; intro x4
  refine lx ?_; intro x5
  refine At.b 12 (fun _ e => aL [] (aEU e)) fun r6 => ?_
  refine At.c 8 ?_ ?_
  ·apply rt; exact At.r 2
  ·refine At.o 2 (cM hT (x := (.sl 3 2 [(aB.enc r1), (aB.enc r6.1)]))) ?_
   refine At.b 0 (fun _ e => aL [] (pS e)) fun r7 => ?_
   apply rt; exact At.r 1

def mP (N : Nat) (a0 : Int) : Option (aO) :=
 Option.bind (fS N a0 a0) fun r1 =>
 some r1

theorem wT {N a0 r} (h : mP N a0 = some r) : FnM Tryz.prog 228 [] [(j64 a0)] (aO.enc r) [] := by
 unfold mP at h
 refine At.f cU hT hmo Tryz.func228 rfl h ?_
 refine At.b 3 (fun _ e => aL [] (jT e)) fun r1 => ?_
 apply rt; exact At.r 1

def aHD : Nat → Bool := imL [1]

def pY (N : Nat) (a0 : aB) : Option (Int) :=
 Option.bind (mP N a0.gX) fun r1 =>
 Option.bind (mP N a0.gY) fun r2 =>
 Option.bind (mP N a0.gZ) fun r3 =>
 Option.bind (tT N ([r1, r2, r3])) fun r4 =>
 cond (!r4.2) (
  some 9223372036854775807) (
  Option.bind (rH N r4.1) fun r5 =>
  aR (jC r5 9223372036854775807) fun x6 =>
  some (I64 x6))

theorem aCG {N a0 r} (h : pY N a0 = some r) : FnM Tryz.prog 165 [] [(aB.enc a0)] (j64 r) [] := by
 unfold pY at h
 refine At.f aHD hT hmo Tryz.func165 rfl h ?_
 refine bi fun r1 hr1 => ?_
 refine bi fun r2 hr2 => ?_
 refine bi fun r3 hr3 => ?_
 refine bi fun r4 hr4 => ?_
 refine At.d 3 (dE2 3 (aO.enc r1) (fun _ => aN (wT hr1)) (dE2 7 (aO.enc r2) (fun _ => aN (wT hr2)) (dE2 11 (aO.enc r3) (fun _ => aN (wT hr3)) (dE1 12 (fun _ => cM hT (x := (.sl 2 3 [(aO.enc r1), (aO.enc r2), (aO.enc r3)]))) (dE2 13 (.tup [(aO.enc r4.1), (eB r4.2)]) (fun _ => aN (aBK hr4)) dE0))))) dF0 ?_
 refine At.c 2 ?_ ?_
 ·apply rt; exact At.r 1
 ·refine At.b 1 (fun _ e => aL [] (aCk e)) fun r5 => ?_
  refine lx ?_; intro x6
  apply rt; exact At.r 3

def sR (N : Nat) (b4 : (List (List aD))) (a1 : aK) (a2 : aB) (a3 : aB) (a4 : Int) (a5 : Bool) (a6 : aH) (a7 : aE) (a8 : aI) (a9 : aB) (a10 : aF) (a11 : aA) (a12 : aM) : Option (aH × Int × Int × aV × Bool) :=
 Option.bind (cond (a4 == 0) (some 9) (some 4)) fun p1 =>
 Option.bind (nE N a1.go a1.gd p1 a1.gE2 a12) fun r2 =>
 Option.bind (cond a8.gT (some (I64 (a10.gK + 4))) (some a10.gK)) fun p3 =>
 cond (decide (r2.2.1 < 0)) (
  some ((a6, p3, r2.1, aV.mk 0 (aC.mk 0 0 0) (aB.mk 0 0 0) (aB.mk 0 0 0) (aQ.mk 0 (#v[0, 0, 0]) 0) false, false))) (
  Option.bind (idx a7.gQ r2.2.1) fun e4 =>
  Option.bind (eK 1 3) fun _ =>
  Option.bind (e4.gP.toList[(Int.toNat 1)]?) fun e6 =>
  Option.bind (eK 0 3) fun _ =>
  Option.bind (e4.gP.toList[(Int.toNat 0)]?) fun e8 =>
  Option.bind (oT N e6 e8) fun r9 =>
  Option.bind (eK 2 3) fun _ =>
  Option.bind (e4.gP.toList[(Int.toNat 2)]?) fun e11 =>
  Option.bind (eK 0 3) fun _ =>
  Option.bind (e4.gP.toList[(Int.toNat 0)]?) fun e13 =>
  Option.bind (oT N e11 e13) fun r14 =>
  Option.bind (rA N r9 r14) fun r15 =>
  Option.bind (fM N r15) fun r16 =>
  Option.bind (Option.bind (rJ N a1.go a1.gd r2.2.2) fun r18 =>
  Option.bind (kL N r16 a1.gd) fun r19 =>
  Option.bind (idx a7.gA3 e4.gC1) fun e20 =>
  cond (a4 == 0) (
   aR ((iA .u8 e4.gC5 8) != 0) fun x21 =>
   some (aV.mk r2.2.1 r18 r19 (aB.mk 0 0 0) e20 x21)) (
   some (aV.mk r2.2.1 r18 r19 (aB.mk 0 0 0) e20 false))) fun p17 =>
  Option.bind (cond (decide (e4.gB2 ≥ 0)) (
   Option.bind (idx b4 e4.gB2) fun e23 =>
   cond (!a8.gT) (some ((I64 (p3 + 4), e23))) (some ((p3, e23)))) (
   some ((p3, [])))) fun p22 =>
  Option.bind (lR N p17.gA6.gA2 p22.2 e4.gUv r2.2.2 a4) fun r24 =>
  Option.bind (aR (cond (a4 == 0) (!a5) false) fun x26 =>
  cond x26 (
   Option.bind (nO N p17.gat) fun r27 =>
   Option.bind (nO N a1.go) fun r28 =>
   Option.bind (uI N r27 r28) fun r29 =>
   Option.bind (pY N r29) fun r30 =>
   cond p17.gB7 (
    some (aH.mk (aB.mk 0 0 0) 0 r30 p17.gn e4.gB3)) (
    some (aH.mk (aB.mk 0 0 0) 1 r30 p17.gn e4.gB3))) (
   some a6)) fun p25 =>
  some ((p25, p22.1, r2.1, aV.mk p17.gi p17.gat p17.gn r24 p17.gA6 p17.gB7, true)))

theorem aBV {N b4 a1 a2 a3 a4 a5 a6 a7 a8 a9 a10 a11 a12 r} (h : sR N b4 a1 a2 a3 a4 a5 a6 a7 a8 a9 a10 a11 a12 = some r) : FnM Tryz.prog 85 [.var (.st 26 [(aK.enc a1), (.ref 1 [] 0), (.ref 2 [] 0), (aB.enc a2), (aB.enc a3), (j64 a4), (eB a5), (aH.enc a6)]), .var (.st 38 [(aE.enc a7), (aI.enc a8), (.ifc 91 (.ref 3 [] 0)), (eO 4 1 (eL 2 aD.enc) b4), (aB.enc a9), (aF.enc a10)]), .var (aA.enc a11), .var (aM.enc a12), .tail (b4.length * 1)] [(.ref 0 [] 0)] (.tup [(aV.enc r.2.2.2.1), (eB r.2.2.2.2)]) [.var (.st 26 [(aK.enc a1), (.ref 1 [] 0), (.ref 2 [] 0), (aB.enc a2), (aB.enc a3), (j64 a4), (eB a5), (aH.enc r.1)]), .var (.st 38 [(aE.enc a7), (aI.enc a8), (.ifc 91 (.ref 3 [] 0)), (eO 4 1 (eL 2 aD.enc) b4), (aB.enc a9), (.st 3 [(j64 a10.gG), (j64 r.2.1), (j64 (I64 (a10.gE + 1)))])]), .var (aA.enc a11), .var (.st 5 [(bI.enc a12.gM), (eB a12.gA), (eL 19 aG.enc a12.gl), (j64 r.2.2.1)]), .tail (b4.length * 1)] := by
 unfold sR at h
 refine At.f cU hT hmo Tryz.func85 rfl h ?_
 refine At.J 3 1 [0, 2] 6 (fun p1 => ([(4, (k8 p1))], [], [])) (fun p1 => ?_) fun p1 => ?_
 ·refine At.c 5 ?_ ?_
  ·apply rt; exact At.jn 1
  ·apply rt; exact At.jn 0
 ·refine bi fun r2 hr2 => ?_
  refine At.d2 0 [false] dC0 (dS1 25 ⟨(.tup [(j64 r2.2.1), (aT.enc r2.2.2)]), 3, .var (.st 5 [(bI.enc a12.gM), (eB a12.gA), (eL 19 aG.enc a12.gl), (j64 r2.1)]), .var (aM.enc a12)⟩ [[.var (.st 26 [(aK.enc a1), (.ref 1 [] 0), (.ref 2 [] 0), (aB.enc a2), (aB.enc a3), (j64 a4), (eB a5), (aH.enc a6)]), .var (.st 38 [(aE.enc a7), (aI.enc a8), (.ifc 91 (.ref 3 [] 0)), (eO 4 1 (eL 2 aD.enc) b4), (aB.enc a9), (aF.enc a10)]), .var (aA.enc a11), .var (aM.enc a12), .tail (b4.length * 1), .var aI4, .dead], [.var (.st 26 [(aK.enc a1), (.ref 1 [] 0), (.ref 2 [] 0), (aB.enc a2), (aB.enc a3), (j64 a4), (eB a5), (aH.enc a6)]), .var (.st 38 [(aE.enc a7), (aI.enc a8), (.ifc 91 (.ref 3 [] 0)), (eO 4 1 (eL 2 aD.enc) b4), (aB.enc a9), (aF.enc a10)]), .var (aA.enc a11), .var (aM.enc a12), .tail (b4.length * 1), .var aI4, .var (.st 4 [(j64 0), (j64 0), (j64 0), (j64 0)])]] ⟨bO (aL [3] (rT hr2)), bO (aL [3] (rT hr2)), trivial⟩ (dS1 29 ⟨(.ref 6 [] 0), 6, .var (.st 4 [(j64 0), (j64 0), (j64 0), (j64 0)]), .dead⟩ [[.var (.st 26 [(aK.enc a1), (.ref 1 [] 0), (.ref 2 [] 0), (aB.enc a2), (aB.enc a3), (j64 a4), (eB a5), (aH.enc a6)]), .var (.st 38 [(aE.enc a7), (aI.enc a8), (.ifc 91 (.ref 3 [] 0)), (eO 4 1 (eL 2 aD.enc) b4), (aB.enc a9), (aF.enc a10)]), .var (aA.enc a11), .var (aM.enc a12), .tail (b4.length * 1), .var aI4, .dead], [.var (.st 26 [(aK.enc a1), (.ref 1 [] 0), (.ref 2 [] 0), (aB.enc a2), (aB.enc a3), (j64 a4), (eB a5), (aH.enc a6)]), .var (.st 38 [(aE.enc a7), (aI.enc a8), (.ifc 91 (.ref 3 [] 0)), (eO 4 1 (eL 2 aD.enc) b4), (aB.enc a9), (aF.enc a10)]), .var (aA.enc a11), .var (.st 5 [(bI.enc a12.gM), (eB a12.gA), (eL 19 aG.enc a12.gl), (j64 r2.1)]), .tail (b4.length * 1), .var aI4, .dead]] ⟨aW hT 6 (by kernel_rfl) (by kernel_rfl) (by kernel_rfl), aW hT 6 (by kernel_rfl) (by kernel_rfl) (by kernel_rfl), trivial⟩ dS0)) ?_
  refine At.J 13 1 [0, 2, 5, 6] 7 (fun p3 => ([], [(1, .var (.st 38 [(aE.enc a7), (aI.enc a8), (.ifc 91 (.ref 3 [] 0)), (eO 4 1 (eL 2 aD.enc) b4), (aB.enc a9), (.st 3 [(j64 a10.gG), (j64 p3), (j64 (I64 (a10.gE + 1)))])]))], [])) (fun p3 => ?_) fun p3 => ?_
  ·refine At.c 8 ?_ ?_
   ·apply rt; exact At.jn 13
   ·apply rt; exact At.jn 0
  ·refine At.c 2 ?_ ?_
   ·apply rt; exact At.r 3
   ·refine At.b 9 (fun _ e => cA hT aG.enc e) fun e4 => ?_
    refine bi fun u5 hu5 => ?_
    refine bi fun e6 he6 => ?_
    refine bi fun u7 hu7 => ?_
    refine bi fun e8 he8 => ?_
    refine bi fun r9 hr9 => ?_
    refine bi fun u10 hu10 => ?_
    refine bi fun e11 he11 => ?_
    refine bi fun u12 hu12 => ?_
    refine bi fun e13 he13 => ?_
    refine bi fun r14 hr14 => ?_
    refine bi fun r15 hr15 => ?_
    refine bi fun r16 hr16 => ?_
    refine At.d 3 (dE1 1 (fun _ => bD hT (k := 3) 7 [0] 0 hu5) (dEL hT 2 (aC.enc e6) aC.enc 1 he6 (dE1 4 (fun _ => bD hT (k := 3) 7 [0] 0 hu7) (dEL hT 5 (aC.enc e8) aC.enc 1 he8 (dE2 6 (aC.enc r9) (fun _ => aN (rI hr9)) (dE1 8 (fun _ => bD hT (k := 3) 7 [0] 0 hu10) (dEL hT 9 (aC.enc e11) aC.enc 1 he11 (dE1 11 (fun _ => bD hT (k := 3) 7 [0] 0 hu12) (dEL hT 12 (aC.enc e13) aC.enc 1 he13 (dE2 13 (aC.enc r14) (fun _ => aN (rI hr14)) (dE2 14 (aC.enc r15) (fun _ => aN (xE hr15)) (dE2 15 (aB.enc r16) (fun _ => aN (kO hr16)) dE0)))))))))))) dF0 ?_
    refine At.J 0 0 [0, 2, 6, 7] 9 (fun p17 => ([], [(5, .var (aV.enc p17))], [])) (fun p17 => ?_) fun p17 => ?_
    ·refine bi fun r18 hr18 => ?_
     refine bi fun r19 hr19 => ?_
     refine bi fun e20 he20 => ?_
     refine boI (fun hc37 => ?_) (fun hc37 => ?_)
     ·refine lx ?_; intro x21
      refine At.d 0 (dE2 12 (aC.enc r18) (fun _ => aN (xB hr18)) (dE2 19 (aB.enc r19) (fun _ => aN (qW hr19)) (dE1 30 (fun _ => cA hT aQ.enc he20) (dE1 37 (fun _ => cT hc37 rfl (cN hT (im := false) (by kernel_rfl))) dE0)))) dF0 ?_
      apply rt; exact At.jn 0
     ·refine At.d 0 (dE2 12 (aC.enc r18) (fun _ => aN (xB hr18)) (dE2 19 (aB.enc r19) (fun _ => aN (qW hr19)) (dE1 30 (fun _ => cA hT aQ.enc he20) (dE1 37 (fun _ => cT hc37 rfl (cN hT (im := false) (by kernel_rfl))) dE0)))) dF0 ?_
      apply rt; exact At.jn 0
    ·refine At.J 1 1 [0, 2, 6, 7] 9 (fun p22 => ([(9, (eL 2 aD.enc p22.2))], [(1, .var (.st 38 [(aE.enc a7), (aI.enc a8), (.ifc 91 (.ref 3 [] 0)), (eO 4 1 (eL 2 aD.enc) b4), (aB.enc a9), (.st 3 [(j64 a10.gG), (j64 p22.1), (j64 (I64 (a10.gE + 1)))])]))], [])) (fun p22 => ?_) fun p22 => ?_
     ·refine At.c 3 ?_ ?_
      ·refine bi fun e23 he23 => ?_
       refine At.d 0 (dE1 9 (fun _ => cA hT (eL 2 aD.enc) he23) dE0) dF0 ?_
       refine At.c 9 ?_ ?_
       ·apply rt; exact At.jn 13
       ·apply rt; exact At.jn 0
      ·apply rt; exact At.jn 0
     ·refine bi fun r24 hr24 => ?_
      refine At.d 0 (dE2 11 (aB.enc r24) (fun _ => aN (aAH hr24)) dE0) dF0 ?_
      refine At.J 0 1 [2] 9 (fun p25 => ([], [(0, .var (.st 26 [(aK.enc a1), (.ref 1 [] 0), (.ref 2 [] 0), (aB.enc a2), (aB.enc a3), (j64 a4), (eB a5), (aH.enc p25)]))], [])) (fun p25 => ?_) fun p25 => ?_
      ·refine lx ?_; intro x26
       refine At.c 12 ?_ ?_
       ·refine bi fun r27 hr27 => ?_
        refine bi fun r28 hr28 => ?_
        refine bi fun r29 hr29 => ?_
        refine bi fun r30 hr30 => ?_
        refine At.d 0 (dE2 3 (aB.enc r27) (fun _ => aN (qE hr27)) (dE2 9 (aB.enc r28) (fun _ => aN (qE hr28)) (dE2 10 (aB.enc r29) (fun _ => aN (aAt hr29)) (dE2 11 (j64 r30) (fun _ => aN (aCG hr30)) dE0)))) dF0 ?_
        refine At.c 2 ?_ ?_
        ·apply rt; exact At.jn 5
        ·apply rt; exact At.jn 0
       ·apply rt; exact At.jn 0
      ·apply rt; exact At.r 3

def lU (N : Nat) (b4 : (List (List aD))) (a1 : (List aB)) (a2 : aK) (a3 : aB) (a4 : aB) (a5 : Int) (a6 : Bool) (a7 : aH) (a8 : aE) (a9 : aI) (a10 : aB) (a11 : aF) (a12 : aA) (a13 : aM) : Option (aB) :=
 cond (!a6) (
  Option.bind (yV 24 (([a3] : List aB)) a1) fun z1 =>
  Option.bind (iD N z1) fun r2 =>
  Option.bind (lI N ([a4, r2])) fun r3 =>
  some r3) (
  some a4)

theorem rX {N b4 a1 a2 a3 a4 a5 a6 a7 a8 a9 a10 a11 a12 a13 r} (h : lU N b4 a1 a2 a3 a4 a5 a6 a7 a8 a9 a10 a11 a12 a13 = some r) : FnM Tryz.prog 86 [.var (.st 26 [(aK.enc a2), (.ref 1 [] 0), (.ref 2 [] 0), (aB.enc a3), (aB.enc a4), (j64 a5), (eB a6), (aH.enc a7)]), .var (.st 38 [(aE.enc a8), (aI.enc a9), (.ifc 91 (.ref 3 [] 0)), (eO 4 1 (eL 2 aD.enc) b4), (aB.enc a10), (aF.enc a11)]), .var (aA.enc a12), .var (aM.enc a13), .tail (b4.length * 1)] [(.ref 0 [] 0), (eL 3 aB.enc a1)] (.tup []) [.var (.st 26 [(aK.enc a2), (.ref 1 [] 0), (.ref 2 [] 0), (aB.enc a3), (aB.enc r), (j64 a5), (eB a6), (aH.enc a7)]), .var (.st 38 [(aE.enc a8), (aI.enc a9), (.ifc 91 (.ref 3 [] 0)), (eO 4 1 (eL 2 aD.enc) b4), (aB.enc a10), (aF.enc a11)]), .var (aA.enc a12), .var (aM.enc a13), .tail (b4.length * 1)] := by
 unfold lU at h
 refine At.f cU hT hmo Tryz.func86 rfl h ?_
 refine At.c 5 ?_ ?_
 ·refine bi fun z1 hz1 => ?_
  refine bi fun r2 hr2 => ?_
  refine bi fun r3 hr3 => ?_
  refine At.d 0 (dE2 12 (aB.enc r2) (fun _ => aN (pS hr2)) (dE1 13 (fun _ => cM hT (x := (.sl 3 2 [(aB.enc a4), (aB.enc r2)]))) (dE2 14 (aB.enc r3) (fun _ => aN (wA hr3)) dE0))) (dF 9 (eO 5 3 aB.enc (([a3] : List aB))) [] [.tail ((([a3] : List aB)).length * 3)] (bO (yN hT aB.enc (k := 3) ([a3] : List aB) (by kernel_rfl) (by kernel_rfl))) (dF 11 (eO 5 3 aB.enc z1) [(5, .tail (z1.length * 3))] [] (bO (sB hT aB.enc (id := 5) (k := 3) hz1)) dF0)) ?_
  apply rt; exact At.z 0
 ·apply rt; exact At.z 0

def fA (N : Nat) (b4 : (List (List aD))) (a1 : Bool) (a2 : aK) (a3 : aB) (a4 : aB) (a5 : Int) (a6 : Bool) (a7 : aH) (a8 : aE) (a9 : aI) (a10 : aB) (a11 : aF) (a12 : aA) (a13 : aM) : Option (Unit) :=
 some (())

theorem iS {N b4 a1 a2 a3 a4 a5 a6 a7 a8 a9 a10 a11 a12 a13 r} (h : fA N b4 a1 a2 a3 a4 a5 a6 a7 a8 a9 a10 a11 a12 a13 = some r) : FnM Tryz.prog 87 [.var (.st 26 [(aK.enc a2), (.ref 1 [] 0), (.ref 2 [] 0), (aB.enc a3), (aB.enc a4), (j64 a5), (eB a6), (aH.enc a7)]), .var (.st 38 [(aE.enc a8), (aI.enc a9), (.ifc 91 (.ref 3 [] 0)), (eO 4 1 (eL 2 aD.enc) b4), (aB.enc a10), (aF.enc a11)]), .var (aA.enc a12), .var (aM.enc a13), .tail (b4.length * 1)] [(.ref 0 [] 0), (eB a1)] (.tup []) [.var (.st 26 [(aK.enc a2), (.ref 1 [] 0), (.ref 2 [] 0), (aB.enc a3), (aB.enc a4), (j64 a5), (eB (cond a6 true a1)), (aH.enc a7)]), .var (.st 38 [(aE.enc a8), (aI.enc a9), (.ifc 91 (.ref 3 [] 0)), (eO 4 1 (eL 2 aD.enc) b4), (aB.enc a10), (aF.enc a11)]), .var (aA.enc a12), .var (aM.enc a13), .tail (b4.length * 1)] := by
 unfold fA at h
 refine At.f cU hT hmo Tryz.func87 rfl h ?_
 apply rt; exact At.z 11

def hQ (N : Nat) (a0 : Int) (a1 : Int) (a2 : Int) (a3 : (Vector Int 2)) : Option (Int) :=
 Option.bind (idx a3.toList 0) fun e1 =>
 Option.bind (iG N a1 (I64 e1) 4294967296) fun r2 =>
 Option.bind (idx a3.toList 1) fun e3 =>
 Option.bind (iG N a2 (I64 e3) 4294967296) fun r4 =>
 aR (I64 ((I64 (a0 + r2)) + r4)) fun x5 =>
 some x5

theorem qZ {N a0 a1 a2 a3 r} (h : hQ N a0 a1 a2 a3 = some r) : FnM Tryz.prog 260 [] [(j64 a0), (j64 a1), (j64 a2), (.im (eA 2 1 k32 a3))] (j64 r) [] := by
 unfold hQ at h
 refine At.f cU hT hmo Tryz.func260 rfl h ?_
 refine bi fun e1 he1 => ?_
 refine bi fun r2 hr2 => ?_
 refine bi fun e3 he3 => ?_
 refine bi fun r4 hr4 => ?_
 refine lx ?_; intro x5
 refine At.d 1 (dE1 2 (fun _ => dK hT (N := 2) (k := 1) k32 a3 he1) (dE2 5 (j64 r2) (fun _ => aN (rW hr2)) (dE1 8 (fun _ => dK hT (N := 2) (k := 1) k32 a3 he3) (dE2 11 (j64 r4) (fun _ => aN (rW hr4)) dE0)))) dF0 ?_
 apply rt; exact At.r 0

def aHp : Nat → Bool := imL [2, 3]

def vE (N : Nat) (a0 : aP) (a1 : (Vector Int 2)) : Option (aC) :=
 cond (a0.gA0 != 1) (
  some a0.gAt) (
  Option.bind (hQ N a0.gAt.gX a0.gU.gX a0.gV.gX a1) fun r1 =>
  Option.bind (hQ N a0.gAt.gY a0.gU.gY a0.gV.gY a1) fun r2 =>
  Option.bind (hQ N a0.gAt.gZ a0.gU.gZ a0.gV.gZ a1) fun r3 =>
  some (aC.mk r1 r2 r3))

theorem aGC {N a0 a1 r} (h : vE N a0 a1 = some r) : FnM Tryz.prog 230 [] [(aP.enc a0), (eA 2 1 k32 a1)] (aC.enc r) [] := by
 unfold vE at h
 refine At.f aHp hT hmo Tryz.func230 rfl h ?_
 refine At.c 6 ?_ ?_
 ·apply rt; exact At.r 3
 ·refine At.o 0 (pX (x := (.fn (.func 260) [] [(.im (eA 2 1 k32 a1))])) (by kernel_rfl) (by kernel_rfl)) ?_
  refine bi fun r1 hr1 => ?_
  refine bi fun r2 hr2 => ?_
  refine bi fun r3 hr3 => ?_
  refine At.d 1 (dE2 10 (j64 r1) (fun _ => aN (qZ hr1)) (dE2 21 (j64 r2) (fun _ => aN (qZ hr2)) (dE2 32 (j64 r3) (fun _ => aN (qZ hr3)) dE0))) dF0 ?_
  apply rt; exact At.r 0

def sZ (N : Nat) (a0 : Int) : Option (Int) :=
 aR (shr .u32 (U32 (a0 * 32769)) 16) fun x1 =>
 some x1

theorem aBM {N a0 r} (h : sZ N a0 = some r) : FnM Tryz.prog 232 [] [(k32 a0)] (k32 r) [] := by
 unfold sZ at h
 refine At.f cU hT hmo Tryz.func232 rfl h ?_
 refine lx ?_; intro x1
 apply rt; exact At.r 5

def nI (N : Nat) (a0 : Int) : Option (Int) :=
 aR (I64 ((jC (I64 a0) 32768) - 16384)) fun x1 =>
 some x1

theorem aAG {N a0 r} (h : nI N a0 = some r) : FnM Tryz.prog 261 [] [(k32 a0)] (j64 r) [] := by
 unfold nI at h
 refine At.f cU hT hmo Tryz.func261 rfl h ?_
 refine lx ?_; intro x1
 apply rt; exact At.r 6

def kU (N : Nat) (a0 : Int) : Option (Int) :=
 cond (decide (a0 < 0)) (some (I64 (0 - a0))) (some a0)

theorem tJ {N a0 r} (h : kU N a0 = some r) : FnM Tryz.prog 262 [] [(j64 a0)] (j64 r) [] := by
 unfold kU at h
 refine At.f cU hT hmo Tryz.func262 rfl h ?_
 refine At.c 3 ?_ ?_
 ·apply rt; exact At.r 3
 ·apply rt; exact At.r 2

def qF (N : Nat) (a0 : Int) (a1 : Int) : Option (Int) :=
 cond (decide (a1 < 0)) (some (I64 (0 - a0))) (some a0)

theorem aBb {N a0 a1 r} (h : qF N a0 a1 = some r) : FnM Tryz.prog 270 [] [(j64 a0), (j64 a1)] (j64 r) [] := by
 unfold qF at h
 refine At.f cU hT hmo Tryz.func270 rfl h ?_
 refine At.c 3 ?_ ?_
 ·apply rt; exact At.r 3
 ·apply rt; exact At.r 2

def wJ (N : Nat) (a0 : Int) (a1 : Int) : Option (Int × Int) :=
 Option.bind (kU N a1) fun r1 =>
 Option.bind (qF N (I64 (16384 - r1)) a0) fun r2 =>
 Option.bind (kU N a0) fun r3 =>
 Option.bind (qF N (I64 (16384 - r3)) a1) fun r4 =>
 some ((r2, r4))

theorem aHe {N a0 a1 r} (h : wJ N a0 a1 = some r) : FnM Tryz.prog 263 [] [(j64 a0), (j64 a1)] (.tup [(j64 r.1), (j64 r.2)]) [] := by
 unfold wJ at h
 refine At.f cU hT hmo Tryz.func263 rfl h ?_
 refine At.b 5 (fun _ e => aL [] (tJ e)) fun r1 => ?_
 refine At.b 2 (fun _ e => aL [] (aBb e)) fun r2 => ?_
 refine At.b 2 (fun _ e => aL [] (tJ e)) fun r3 => ?_
 refine At.b 2 (fun _ e => aL [] (aBb e)) fun r4 => ?_
 apply rt; exact At.r 2

def sX (N : Nat) (a0 : Int) : Option (aC) :=
 Option.bind (nI N (shr .u32 a0 16)) fun r1 =>
 Option.bind (nI N (iA .u32 a0 65535)) fun r2 =>
 Option.bind (kU N r1) fun r3 =>
 Option.bind (kU N r2) fun r4 =>
 aR (I64 ((I64 (16384 - r3)) - r4)) fun x5 =>
 Option.bind (cond (decide (x5 < 0)) (
  Option.bind (wJ N r1 r2) fun r7 =>
  some ((r7.1, r7.2))) (
  some ((r1, r2)))) fun p6 =>
 some (aC.mk p6.1 p6.2 x5)

theorem aFV {N a0 r} (h : sX N a0 = some r) : FnM Tryz.prog 233 [] [(k32 a0)] (aC.enc r) [] := by
 unfold sX at h
 refine At.f cU hT hmo Tryz.func233 rfl h ?_
 refine At.b 5 (fun _ e => aL [] (aAG e)) fun r1 => ?_
 refine At.b 3 (fun _ e => aL [] (aAG e)) fun r2 => ?_
 refine At.b 3 (fun _ e => aL [] (tJ e)) fun r3 => ?_
 refine At.b 2 (fun _ e => aL [] (tJ e)) fun r4 => ?_
 refine lx ?_; intro x5
 refine At.J 2 1 [2, 6] 1 (fun p6 => ([(4, (j64 p6.1)), (5, (j64 p6.2))], [], [])) (fun p6 => ?_) fun p6 => ?_
 ·refine At.c 2 ?_ ?_
  ·refine At.b 2 (fun _ e => aL [] (aHe e)) fun r7 => ?_
   apply rt; exact At.jn 5
  ·apply rt; exact At.jn 0
 ·apply rt; exact At.r 5

def rQ (N : Nat) (a0 : Int) : Option (aC) :=
 Option.bind (sZ N (shr .u32 a0 16)) fun r1 =>
 Option.bind (sZ N (iA .u32 a0 65535)) fun r2 =>
 aR (bor .u32 (shl .u32 r1 16) r2) fun x3 =>
 Option.bind (sX N x3) fun r4 =>
 some r4

theorem aAr {N a0 r} (h : rQ N a0 = some r) : FnM Tryz.prog 169 [] [(k32 a0)] (aC.enc r) [] := by
 unfold rQ at h
 refine At.f cU hT hmo Tryz.func169 rfl h ?_
 refine At.b 5 (fun _ e => aL [] (aBM e)) fun r1 => ?_
 refine At.b 4 (fun _ e => aL [] (aBM e)) fun r2 => ?_
 refine lx ?_; intro x3
 refine At.b 1 (fun _ e => aL [] (aFV e)) fun r4 => ?_
 apply rt; exact At.r 1

def aDo : Nat → Bool := imL [3, 4, 5]

def pA (N : Nat) (a0 : tX) (a1 : aC) (a2 : aB) : Option (aC × Int) :=
 Option.bind (fM N a0.gD2) fun r1 =>
 Option.bind (qJ N a2 r1) fun r2 =>
 cond (decide (r2 < 0)) (
  Option.bind (sG N r2) fun r3 =>
  Option.bind (sG N r2) fun r4 =>
  Option.bind (lF N ([r3, r4])) fun r5 =>
  some ((aC.mk (I64 (0 - a0.gD2.gX)) (I64 (0 - a0.gD2.gY)) (I64 (0 - a0.gD2.gZ)), r5))) (
  Option.bind (lF N ([r2, r2])) fun r6 =>
  some ((a0.gD2, r6)))

theorem aDD {N a0 a1 a2 r} (h : pA N a0 a1 a2 = some r) : FnM Tryz.prog 309 [] [(tX.enc a0), (aC.enc a1), (aB.enc a2)] (.tup [(aC.enc r.1), (j64 r.2)]) [] := by
 unfold pA at h
 refine At.f aDo hT hmo Tryz.func309 rfl h ?_
 refine bi fun r1 hr1 => ?_
 refine bi fun r2 hr2 => ?_
 refine At.d 5 (dE2 3 (aB.enc r1) (fun _ => aN (kO hr1)) (dE2 4 (j64 r2) (fun _ => aN (vO hr2)) dE0)) dF0 ?_
 refine At.c 2 ?_ ?_
 ·refine bi fun r3 hr3 => ?_
  refine bi fun r4 hr4 => ?_
  refine bi fun r5 hr5 => ?_
  refine At.d 0 (dE2 14 (j64 r3) (fun _ => aN (aAa hr3)) (dE2 16 (j64 r4) (fun _ => aN (aAa hr4)) (dE1 17 (fun _ => cM hT (x := (.sl 1 2 [(j64 r3), (j64 r4)]))) (dE2 18 (j64 r5) (fun _ => aN (tQ hr5)) dE0)))) dF0 ?_
  apply rt; exact At.r 0
 ·refine bi fun r6 hr6 => ?_
  refine At.d 0 (dE1 4 (fun _ => cM hT (x := (.sl 1 2 [(j64 r2), (j64 r2)]))) (dE2 5 (j64 r6) (fun _ => aN (tQ hr6)) dE0)) dF0 ?_
  apply rt; exact At.r 0


def aDO : Nat → Bool := imL [3, 4, 5]

def nP (N : Nat) (a0 : uL) (a1 : aC) (a2 : aB) : Option (aC × Int) :=
 Option.bind (oT N a0.gE8 a1) fun r1 =>
 Option.bind (fM N r1) fun r2 =>
 Option.bind (qJ N a2 r2) fun r3 =>
 aR (aC.eq r1 (aC.mk 0 0 0)) fun x4 =>
 aR (cond x4 true (decide (r3 ≤ 0))) fun x5 =>
 cond x5 (
  some ((aC.mk 0 0 0, 0))) (
  Option.bind (uK N r1 r1) fun r6 =>
  Option.bind (iG N r3 1048576 r6) fun r7 =>
  some ((r1, r7)))

theorem aCN {N a0 a1 a2 r} (h : nP N a0 a1 a2 = some r) : FnM Tryz.prog 308 [] [(uL.enc a0), (aC.enc a1), (aB.enc a2)] (.tup [(aC.enc r.1), (j64 r.2)]) [] := by
 unfold nP at h
 refine At.f aDO hT hmo Tryz.func308 rfl h ?_
 refine At.b 8 (fun _ e => aL [] (rI e)) fun r1 => ?_
 refine bi fun r2 hr2 => ?_
 refine bi fun r3 hr3 => ?_
 refine At.d 1 (dE2 2 (aB.enc r2) (fun _ => aN (kO hr2)) (dE2 3 (j64 r3) (fun _ => aN (vO hr3)) dE0)) dF0 ?_
 refine At.o 2 (aEj aAd (r1 : aC) (aC.mk 0 0 0 : aC) (by kernel_rfl) (by kernel_rfl) (fun _ => rfl) (fun _ => rfl) (by kernel_rfl) (by kernel_rfl)) ?_
 refine lx ?_; intro x4
 refine lx ?_; intro x5
 refine At.c 4 ?_ ?_
 ·apply rt; exact At.r 3
 ·refine bi fun r6 hr6 => ?_
  refine bi fun r7 hr7 => ?_
  refine At.d 0 (dE2 4 (j64 r6) (fun _ => aN (yQ hr6)) (dE2 5 (j64 r7) (fun _ => aN (rW hr7)) dE0)) dF0 ?_
  apply rt; exact At.r 0

def aGJ : Nat → Bool := imL [4, 5, 6, 7]

def oN (N : Nat) (a0 : aP) (a1 : aC) (a2 : aB) (a3 : (Vector Int 2)) : Option (jJ) :=
 Option.bind (Option.bind (oM N a0) fun r2 =>
 cond (r2 != 0) (
  some true) (
  Option.bind (sE N a1 (aC.mk 1 0 0)) fun r3 =>
  some (!r3))) fun p1 =>
 cond p1 (
  some (jJ.mk (aC.mk 0 0 0) false true (aB.mk 0 0 0))) (
  Option.bind (vE N a0 a3) fun r4 =>
  cond (a0.gA0 == 2) (
   Option.bind (idx a3.toList 0) fun e5 =>
   Option.bind (rQ N e5) fun r6 =>
   Option.bind (pA N (tX.mk r6) a1 a2) fun r7 =>
   cond (r7.2 == 0) (
    some (jJ.mk (aC.mk 0 0 0) false true (aB.mk 0 0 0))) (
    Option.bind (oF N a0) fun r8 =>
    Option.bind (fD N r8 r7.2) fun r9 =>
    some (jJ.mk r7.1 true false r9))) (
   Option.bind (nP N (uL.mk r4) a1 a2) fun r10 =>
   cond (aC.eq r10.1 (aC.mk 0 0 0)) (
    some (jJ.mk (aC.mk 0 0 0) false true (aB.mk 0 0 0))) (
    Option.bind (oF N a0) fun r11 =>
    Option.bind (fD N r11 r10.2) fun r12 =>
    some (jJ.mk r10.1 false false r12))))

theorem aBL {N a0 a1 a2 a3 r} (h : oN N a0 a1 a2 a3 = some r) : FnM Tryz.prog 166 [] [(aP.enc a0), (aC.enc a1), (aB.enc a2), (eA 2 1 k32 a3)] (jJ.enc r) [] := by
 unfold oN at h
 refine At.f aGJ hT hmo Tryz.func166 rfl h ?_
 refine At.J 8 0 [4, 5, 6, 7, 8, 9] 2 (fun p1 => ([(24, (eB p1))], [], [])) (fun p1 => ?_) fun p1 => ?_
 ·refine At.b 1 (fun _ e => aL [] (aBI e)) fun r2 => ?_
  refine At.s 19 2 ?_ ?_
  ·refine At.g [19] 5 ?_
   apply rt; exact At.jn 0
  ·refine At.g [19] 2 ?_
   refine At.b 0 (fun _ e => aL [] (xY e)) fun r3 => ?_
   refine At.g [19] 2 ?_
   apply rt; exact At.jn 0
 ·refine At.c 0 ?_ ?_
  ·apply rt; exact At.r 2
  ·refine At.b 2 (fun _ e => aL [] (aGC e)) fun r4 => ?_
   refine At.o 1 (aBy hT (t := 309) (x := (.st 3 [(aC.enc r4)])) (by kernel_rfl) (by kernel_rfl)) ?_
   refine At.c 4 ?_ ?_
   ·refine At.b 0 (fun _ e => dK hT (N := 2) (k := 1) k32 a3 e) fun e5 => ?_
    refine At.b 1 (fun _ e => aL [] (aAr e)) fun r6 => ?_
    refine At.o 1 (aBy hT (t := 313) (x := (.st 3 [(aC.enc r6)])) (by kernel_rfl) (by kernel_rfl)) ?_
    refine At.b 4 (fun _ e => aL [] (aDD e)) fun r7 => ?_
    refine At.o 7 (aLH hT (t := 313) (u := 313) (x := (.st 3 [(aC.enc r6)])) (y := (.tup [(.st 3 [(aC.enc r6)]), (eB true)])) (by kernel_rfl) (by kernel_rfl)) ?_
    refine At.c 10 ?_ ?_
    ·apply rt; exact At.r 2
    ·refine bi fun r8 hr8 => ?_
     refine bi fun r9 hr9 => ?_
     refine At.d 0 (dE2 2 (aB.enc r8) (fun _ => aN (yD hr8)) (dE2 4 (aB.enc r9) (fun _ => aN (jI hr9)) dE0)) dF0 ?_
     apply rt; exact At.r 0
   ·refine At.b 3 (fun _ e => aL [] (aCN e)) fun r10 => ?_
    refine At.o 7 (aLH hT (t := 309) (u := 313) (x := (.st 3 [(aC.enc r4)])) (y := (.tup [(.st 3 [(.st 3 [(j64 0), (j64 0), (j64 0)])]), (eB false)])) (by kernel_rfl) (by kernel_rfl)) ?_
    refine At.o 10 (aEj aAd (r10.1 : aC) (aC.mk 0 0 0 : aC) (by kernel_rfl) (by kernel_rfl) (fun _ => rfl) (fun _ => rfl) (by kernel_rfl) (by kernel_rfl)) ?_
    refine At.c 0 ?_ ?_
    ·apply rt; exact At.r 2
    ·refine bi fun r11 hr11 => ?_
     refine bi fun r12 hr12 => ?_
     refine At.d 0 (dE2 2 (aB.enc r11) (fun _ => aN (yD hr11)) (dE2 4 (aB.enc r12) (fun _ => aN (jI hr12)) dE0)) dF0 ?_
     apply rt; exact At.r 0

def aAs : Nat → Bool := imL [7, 8]

def nD (N : Nat) (s17 : (List Int)) (a0 : aC) (a1 : aC) (a2 : Int) (a3 : Int) (a5 : aM) (a4 : Bool) : Nat → Int → Int → Option (Sum (Int) (Int × Bool))
 | 0, _, _ => none
 | k + 1, s19, s20 =>
  aR (decide (s20 < ((s17.length : Int)))) fun x21 =>
  cond x21 (
   Option.bind (idx s17 s20) fun e22 =>
   Option.bind (kN N a0 a1 a2 a3 e22 (aM.mk a5.gM a5.gA a5.gl (I64 (s19 + 1)))) fun r23 =>
   Option.bind (cond r23.2 (
    aR (decide (r23.1.gB9 < r23.1.gB1)) fun x25 =>
    some (cond (!a4) true x25)) (
    some false)) fun p24 =>
   cond p24 (
    some (Sum.inr ((I64 (s19 + 1), true)))) (
    nD N s17 a0 a1 a2 a3 a5 a4 k (I64 (s19 + 1)) (I64 (s20 + 1)))) (
   some (Sum.inl s19))

def hO (N : Nat) (a5 : aM) (a0 : aC) (a1 : aC) (a2 : Int) (a3 : Int) (a4 : Bool) : Nat → (List Int) → Int → Nat → Option (Sum ((List Int) × Int) (Int × Bool))
 | 0, _, _, _ => none
 | k + 1, s6, s7, s8 =>
  aR (decide (((s8 : Int)) > 0)) fun x9 =>
  cond x9 (
   Option.bind (wV s6.length 0 s8 (I64 (((s8 : Int)) - 1))) fun _ =>
   Option.bind (s6[((I64 (((s8 : Int)) - 1)).toNat)]?) fun e11 =>
   Option.bind (idx a5.gM.gC4 e11) fun e12 =>
   Option.bind (aHo s6.length 0 s8 0 (I64 (((s8 : Int)) - 1))) fun _ =>
   Option.bind (yZ N e12.gLo e12.gHi a0 a1) fun r14 =>
   cond (!r14.2) (
    hO N a5 a0 a1 a2 a3 a4 k s6 (I64 (s7 + 1)) ((I64 (((s8 : Int)) - 1)).toNat)) (
    cond (decide (e12.gB8 ≥ 0)) (
     Option.bind (aJT 8 s6 ((I64 (((s8 : Int)) - 1)).toNat) (([e12.gB6, e12.gB8] : List Int))) fun z15 =>
     hO N a5 a0 a1 a2 a3 a4 k z15 (I64 (s7 + 1)) ((I64 (((s8 : Int)) - 1)).toNat + 2)) (
     aR (I64 (e12.gC7 + e12.gD4)) fun x16 =>
     Option.bind (wG a5.gM.gE1 e12.gC7 x16) fun s17 =>
     Option.bind (nD N s17 a0 a1 a2 a3 a5 a4 N (I64 (s7 + 1)) 0) fun o => jU o (fun p18 =>
      hO N a5 a0 a1 a2 a3 a4 k s6 p18 ((I64 (((s8 : Int)) - 1)).toNat)) (fun r => some (Sum.inr r))))) (
   some (Sum.inl ((s6, s7))))

def mD (N : Nat) (a0 : aC) (a1 : aC) (a2 : Int) (a3 : Int) (a4 : Bool) (a5 : aM) : Option (Int × Bool) :=
 Option.bind (Option.bind (pT N a5) fun r2 =>
 aR ((a5.gM.gC4.length : Int)) fun x3 =>
 cond (cond r2 true (x3 == 0)) (
  some true) (
  Option.bind (sE N a0 a1) fun r4 =>
  some (!r4))) fun p1 =>
 cond p1 (
  some ((a5.gD5, false))) (
  Option.bind (hO N a5 a0 a1 a2 a3 a4 N (([0] : List Int)) a5.gD5 ((([0] : List Int)).length)) fun o => jU o (fun p5 =>
   some ((p5.2, false))) (fun r => some r))

theorem lG {N a0 a1 a2 a3 a4 a5 r} (h : mD N a0 a1 a2 a3 a4 a5 = some r) : FnM Tryz.prog 301 [.var (aM.enc a5)] [(.ref 0 [] 0), (aC.enc a0), (aC.enc a1), (k8 a2), (j64 a3), (eB a4)] (eB r.2) [.var (.st 5 [(bI.enc a5.gM), (eB a5.gA), (eL 19 aG.enc a5.gl), (j64 r.1)])] := by
 unfold mD at h
 refine At.f aAs hT hmo Tryz.func301 rfl h ?_
 refine At.J 3 0 [0, 3, 4, 5, 7, 8] 1 (fun p1 => ([(37, (eB p1))], [], [])) (fun p1 => ?_) fun p1 => ?_
 ·refine At.b 1 (fun _ e => aL [0] (wY e)) fun r2 => ?_
  refine lx ?_; intro x3
  refine At.s 32 10 ?_ ?_
  ·refine At.g [32] 5 ?_
   apply rt; exact At.jn 0
  ·refine At.g [32] 2 ?_
   refine At.b 0 (fun _ e => aL [] (xY e)) fun r4 => ?_
   refine At.g [32] 2 ?_
   apply rt; exact At.jn 0
 ·refine At.c 0 ?_ ?_
  ·apply rt; exact At.r 1
  ·refine At.o 0 (aC8 hT j64 (k := 1) ([0] : List Int) (by kernel_rfl) (by kernel_rfl)) ?_
   refine At.gsub 1 13 ?_
   refine At.LS 0 [] 2 (fun p5 => ([], [(0, .var (.st 5 [(bI.enc a5.gM), (eB a5.gA), (eL 19 aG.enc a5.gl), (j64 p5.2)])), (1, .gro 1 (List.map j64 p5.1))], [])) (fun op5 J k => ∃ s6 s7 s8, hO N a5 a0 a1 a2 a3 a4 k s6 s7 s8 = some op5 ∧ J [0, 3, 4, 5, 7, 8] 2 [(13, (.gro 1 1 s6.length (.sub 0 s8)))] [(0, .var (.st 5 [(bI.enc a5.gM), (eB a5.gA), (eL 19 aG.enc a5.gl), (j64 s7)])), (1, .gro 1 (List.map j64 s6))] []) N (fun _ h => ⟨_, _, _, h, jr⟩) (fun op5 g5 k s hI => ?_) fun p5 => ?_
   ·obtain ⟨s6, s7, s8, h, hj⟩ := hI
    cases k with
    | zero => cases h
    | succ k =>
     refine At.jr hj ?_ h
     refine lx ?_; intro x9
     refine At.c 3 ?_ ?_
     ·refine bi fun u10 hu10 => ?_
      refine bi fun e11 he11 => ?_
      refine bi fun e12 he12 => ?_
      refine At.d 0 (dE1 9 (fun _ => jK hT (id := 1) (k := 1) hu10 (by kernel_rfl) (by kernel_rfl)) (dET 10 (j64 e11) [[.var (.st 5 [(bI.enc a5.gM), (eB a5.gA), (eL 19 aG.enc a5.gl), (j64 s7)]), .gro 1 (List.map j64 s6)], [.var (.st 5 [(bI.enc a5.gM), (eB a5.gA), (eL 19 aG.enc a5.gl), (j64 s7)]), .gro 1 (List.map j64 s6), .var cv_8]] ⟨bO (nV hT j64 [] he11 rfl (by kernel_rfl) (by kernel_rfl)), bO (nV hT j64 [] he11 rfl (by kernel_rfl) (by kernel_rfl)), trivial⟩ (dE1 11 (fun _ => cA hT bE.enc he12) dE0))) dF0 ?_
      refine At.b 4 (fun _ e => aEz hT (id := 1) (k := 1) (L := s6.length) (lo0 := 0) (m := s8) e (by kernel_rfl) (by kernel_rfl)) fun s13 => ?_
      refine At.b 15 (fun _ e => aL [] (aDM e)) fun r14 => ?_
      refine At.c 8 ?_ ?_
      ·exact fun h => At.k 0 ⟨_, _, _, h, jr⟩
      ·refine At.c 3 ?_ ?_
       ·refine At.o 5 (cM hT (x := (.sl 1 2 [(j64 e12.gB6), (j64 e12.gB8)]))) ?_
        refine At.b 0 (fun z15 e => aDu hT j64 (id := 1) (k := 1) e (by kernel_rfl) (by kernel_rfl) (H' := [.var (.st 5 [(bI.enc a5.gM), (eB a5.gA), (eL 19 aG.enc a5.gl), (j64 (I64 (s7 + 1)))]), .gro 1 (List.map j64 z15), .var (bE.enc e12), .var (bC.enc r14.1)]) (by kernel_rfl)) fun z15 => ?_
        exact fun h => At.k 1 ⟨_, _, _, h, jr⟩
       ·refine lx ?_; intro x16
        refine bi fun s17 hs17 => ?_
        refine At.d 0 (dE1 12 (fun _ => zL hT (k := 1) j64 hs17) dE0) dF0 ?_
        refine At.LS 0 [0, 3, 4, 5, 7, 8, 13] 4 (fun p18 => ([], [(0, .var (.st 5 [(bI.enc a5.gM), (eB a5.gA), (eL 19 aG.enc a5.gl), (j64 p18)]))], [])) (fun op18 J k => ∃ s19 s20, nD N s17 a0 a1 a2 a3 a5 a4 k s19 s20 = some op18 ∧ J [0, 3, 4, 5, 7, 8, 13, 101, 102] 4 [(103, (j64 s20))] [(0, .var (.st 5 [(bI.enc a5.gM), (eB a5.gA), (eL 19 aG.enc a5.gl), (j64 s19)]))] []) N (fun _ h => ⟨_, _, h, jr⟩) (fun op18 g18 k s hI => ?_) fun p18 => ?_
        ·obtain ⟨s19, s20, h, hj⟩ := hI
         cases k with
         | zero => cases h
         | succ k =>
          refine At.jr hj ?_ h
          refine lx ?_; intro x21
          refine At.c 1 ?_ ?_
          ·refine At.b 0 (fun _ e => cA hT j64 e) fun e22 => ?_
           refine At.b 16 (fun _ e => aL [0] (sO e)) fun r23 => ?_
           refine At.J 6 0 [0, 3, 4, 5, 7, 8, 13, 101, 102, 103] 5 (fun p24 => ([(135, (eB p24))], [], [])) (fun p24 => ?_) fun p24 => ?_
           ·refine At.s 125 2 ?_ ?_
            ·refine lx ?_; intro x25
             refine At.g [125] 10 ?_
             apply rt; exact At.jn 0
            ·refine At.g [125, 128] 10 ?_
             apply rt; exact At.jn 0
           ·refine At.c 0 ?_ ?_
            ·intro e; apply rtS2 g18 g5 e; exact At.r 1
            ·exact fun h => At.k 2 ⟨_, _, h, jr⟩
          ·apply rt; exact At.xs 0
        ·exact fun h => At.k 0 ⟨_, _, _, h, jr⟩
     ·apply rt; exact At.xs 0
   ·apply rt; exact At.r 1

def aA6 : Nat → Bool := imL [3]

def oJ (N : Nat) (x1 : Int) (a8 : aE) (b4 : (List (List aD))) (a2 : aK) (a3 : aB) (a5 : Int) (a6 : Bool) (a7 : aH) (a9 : aI) (a10 : aB) (a11 : aF) (a1 : aV) : Nat → aB → aA → aM → Int → Option (aB × aA × aM)
 | 0, _, _, _, _ => none
 | k + 1, s3, s4, s5, s6 =>
  cond (decide (s6 < x1)) (
   Option.bind (Option.bind (idx a8.gL s6) fun e8 =>
   aR (I64 (8 + (I64 (2 * s6)))) fun x9 =>
   Option.bind (eP N b4 x9 a2 a3 s3 a5 a6 a7 a8 a9 a10 a11 s4 s5) fun r10 =>
   aR (I64 (9 + (I64 (2 * s6)))) fun x11 =>
   Option.bind (eP N b4 x11 a2 a3 s3 a5 a6 a7 a8 a9 a10 a11 (aA.mk r10.1 s4.gA s4.gC s4.gB s4.gD) s5) fun r12 =>
   Option.bind (oN N e8 a1.gat a1.gn (#v[r10.2, r12.2])) fun r13 =>
   aR (cond r13.gE0 (!a9.gT) false) fun x14 =>
   cond x14 (
    some ((s3, aA.mk r12.1 ((aA.mk r10.1 s4.gA s4.gC s4.gB s4.gD).gA) ((aA.mk r10.1 s4.gA s4.gC s4.gB s4.gD).gC) ((aA.mk r10.1 s4.gA s4.gC s4.gB s4.gD).gB) ((aA.mk r10.1 s4.gA s4.gC s4.gB s4.gD).gD), s5.gD5, e8, r13))) (
    Option.bind (Option.bind (mD N a1.gat r13.gE3 2 a1.gi (!r13.gE4) s5) fun r16 =>
    cond (!r16.2) (
     cond (!r13.gE0) (
      some ((r16.1, a1.gA6.gA0 == 0))) (
      some ((r16.1, false)))) (
     some ((r16.1, false)))) fun p15 =>
    cond p15.2 (
     Option.bind (lU N b4 ([a1.gc, r13.gC0]) a2 a3 s3 a5 a6 a7 a8 a9 a10 a11 (aA.mk r12.1 ((aA.mk r10.1 s4.gA s4.gC s4.gB s4.gD).gA) ((aA.mk r10.1 s4.gA s4.gC s4.gB s4.gD).gC) ((aA.mk r10.1 s4.gA s4.gC s4.gB s4.gD).gB) ((aA.mk r10.1 s4.gA s4.gC s4.gB s4.gD).gD)) (aM.mk s5.gM s5.gA s5.gl p15.1)) fun r17 =>
     some ((r17, aA.mk r12.1 ((aA.mk r10.1 s4.gA s4.gC s4.gB s4.gD).gA) ((aA.mk r10.1 s4.gA s4.gC s4.gB s4.gD).gC) ((aA.mk r10.1 s4.gA s4.gC s4.gB s4.gD).gB) ((aA.mk r10.1 s4.gA s4.gC s4.gB s4.gD).gD), p15.1, e8, r13))) (
     some ((s3, aA.mk r12.1 ((aA.mk r10.1 s4.gA s4.gC s4.gB s4.gD).gA) ((aA.mk r10.1 s4.gA s4.gC s4.gB s4.gD).gC) ((aA.mk r10.1 s4.gA s4.gC s4.gB s4.gD).gB) ((aA.mk r10.1 s4.gA s4.gC s4.gB s4.gD).gD), p15.1, e8, r13))))) fun p7 =>
   oJ N x1 a8 b4 a2 a3 a5 a6 a7 a9 a10 a11 a1 k p7.1 p7.2.1 (aM.mk s5.gM s5.gA s5.gl p7.2.2.1) (I64 (s6 + 1))) (
   some ((s3, s4, s5)))

def oO (N : Nat) (r18 : Int × Int) (x19 : Int) (a1 : aV) : Nat → aM → Int → Option (aM)
 | 0, _, _ => none
 | k + 1, s21, s22 =>
  aR (decide (s22 < (I64 (r18.2 - x19)))) fun x23 =>
  cond x23 (
   Option.bind (mD N a1.gat (aC.mk 0 0 0) 2 a1.gi false s21) fun r24 =>
   oO N r18 x19 a1 k (aM.mk s21.gM s21.gA s21.gl r24.1) (I64 (s22 + 1))) (
   some s21)

def qN (N : Nat) (b4 : (List (List aD))) (a1 : aV) (a2 : aK) (a3 : aB) (a4 : aB) (a5 : Int) (a6 : Bool) (a7 : aH) (a8 : aE) (a9 : aI) (a10 : aB) (a11 : aF) (a12 : aA) (a13 : aM) : Option (aB × aA × aM) :=
 aR ((a8.gL.length : Int)) fun x1 =>
 Option.bind (oJ N x1 a8 b4 a2 a3 a5 a6 a7 a9 a10 a11 a1 N a4 a12 a13 0) fun p2 =>
 cond (!a9.gT) (
  some ((p2.1, p2.2.1, p2.2.2))) (
  Option.bind (fX N a9.gI) fun r18 =>
  aR ((a8.gL.length : Int)) fun x19 =>
  Option.bind (oO N r18 x19 a1 N p2.2.2 0) fun p20 =>
  some ((p2.1, p2.2.1, p20)))

theorem aAl {N b4 a1 a2 a3 a4 a5 a6 a7 a8 a9 a10 a11 a12 a13 r} (h : qN N b4 a1 a2 a3 a4 a5 a6 a7 a8 a9 a10 a11 a12 a13 = some r) : FnM Tryz.prog 88 [.var (.st 26 [(aK.enc a2), (.ref 1 [] 0), (.ref 2 [] 0), (aB.enc a3), (aB.enc a4), (j64 a5), (eB a6), (aH.enc a7)]), .var (.st 38 [(aE.enc a8), (aI.enc a9), (.ifc 91 (.ref 3 [] 0)), (eO 4 1 (eL 2 aD.enc) b4), (aB.enc a10), (aF.enc a11)]), .var (aA.enc a12), .var (aM.enc a13), .tail (b4.length * 1)] [(.ref 0 [] 0), (aV.enc a1)] (.tup []) [.var (.st 26 [(aK.enc a2), (.ref 1 [] 0), (.ref 2 [] 0), (aB.enc a3), (aB.enc r.1), (j64 a5), (eB a6), (aH.enc a7)]), .var (.st 38 [(aE.enc a8), (aI.enc a9), (.ifc 91 (.ref 3 [] 0)), (eO 4 1 (eL 2 aD.enc) b4), (aB.enc a10), (aF.enc a11)]), .var (aA.enc r.2.1), .var (aM.enc r.2.2), .tail (b4.length * 1)] := by
 unfold qN at h
 refine At.f aA6 hT hmo Tryz.func88 rfl h ?_
 refine lx ?_; intro x1
 refine At.L 11 [0, 3] 5 (fun p2 => ([], [(0, .var (.st 26 [(aK.enc a2), (.ref 1 [] 0), (.ref 2 [] 0), (aB.enc a3), (aB.enc p2.1), (j64 a5), (eB a6), (aH.enc a7)])), (2, .var (aA.enc p2.2.1)), (3, .var (aM.enc p2.2.2))], [])) (fun p2 J k => ∃ s3 s4 s5 s6, oJ N x1 a8 b4 a2 a3 a5 a6 a7 a9 a10 a11 a1 k s3 s4 s5 s6 = some p2 ∧ J [0, 3, 16, 17] 5 [(18, (j64 s6))] [(0, .var (.st 26 [(aK.enc a2), (.ref 1 [] 0), (.ref 2 [] 0), (aB.enc a3), (aB.enc s3), (j64 a5), (eB a6), (aH.enc a7)])), (2, .var (aA.enc s4)), (3, .var (aM.enc s5))] []) N (fun _ h => ⟨_, _, _, _, h, jr⟩) (fun p2 k s hI => ?_) fun p2 => ?_
 ·obtain ⟨s3, s4, s5, s6, h, hj⟩ := hI
  cases k with
  | zero => cases h
  | succ k =>
   refine At.jr hj ?_ h
   refine At.c 1 ?_ ?_
   ·refine At.J 0 2 [0, 3, 16, 17, 18] 5 (fun p7 => ([], [(0, .var (.st 26 [(aK.enc a2), (.ref 1 [] 0), (.ref 2 [] 0), (aB.enc a3), (aB.enc p7.1), (j64 a5), (eB a6), (aH.enc a7)])), (2, .var (aA.enc p7.2.1)), (3, .var (.st 5 [(bI.enc s5.gM), (eB s5.gA), (eL 19 aG.enc s5.gl), (j64 p7.2.2.1)]))], [.var (aP.enc p7.2.2.2.1), .var (jJ.enc p7.2.2.2.2)])) (fun p7 => ?_) fun p7 => ?_
    ·refine At.b 1 (fun _ e => cA hT aP.enc e) fun e8 => ?_
     refine lx ?_; intro x9
     refine bi fun r10 hr10 => ?_
     refine lx ?_; intro x11
     refine bi fun r12 hr12 => ?_
     refine bi fun r13 hr13 => ?_
     refine At.d2 4 [false] (dC2 16 (jJ.enc r13) (fun _ => aN (aBL hr13)) dC0) (dS1 9 ⟨(k32 r10.2), 2, .var (.st 72 [(aS.enc r10.1), (eB s4.gA), (k64 s4.gC), (j64 s4.gB), (j64 s4.gD)]), .var (aA.enc s4)⟩ [[.var (.st 26 [(aK.enc a2), (.ref 1 [] 0), (.ref 2 [] 0), (aB.enc a3), (aB.enc s3), (j64 a5), (eB a6), (aH.enc a7)]), .var (.st 38 [(aE.enc a8), (aI.enc a9), (.ifc 91 (.ref 3 [] 0)), (eO 4 1 (eL 2 aD.enc) b4), (aB.enc a10), (aF.enc a11)]), .var (aA.enc s4), .var (aM.enc s5), .tail (b4.length * 1), .var (aP.enc e8), .dead], [.var (.st 26 [(aK.enc a2), (.ref 1 [] 0), (.ref 2 [] 0), (aB.enc a3), (aB.enc s3), (j64 a5), (eB a6), (aH.enc a7)]), .var (.st 38 [(aE.enc a8), (aI.enc a9), (.ifc 91 (.ref 3 [] 0)), (eO 4 1 (eL 2 aD.enc) b4), (aB.enc a10), (aF.enc a11)]), .var (aA.enc s4), .var (aM.enc s5), .tail (b4.length * 1), .var (aP.enc e8), .var aMA]] ⟨bO (aL [0, 1, 2, 3, 4] (cQ hr10)), bO (aL [0, 1, 2, 3, 4] (cQ hr10)), trivial⟩ (dS1 14 ⟨(k32 r12.2), 2, .var (.st 72 [(aS.enc r12.1), (eB ((aA.mk r10.1 s4.gA s4.gC s4.gB s4.gD).gA)), (k64 ((aA.mk r10.1 s4.gA s4.gC s4.gB s4.gD).gC)), (j64 ((aA.mk r10.1 s4.gA s4.gC s4.gB s4.gD).gB)), (j64 ((aA.mk r10.1 s4.gA s4.gC s4.gB s4.gD).gD))]), .var (.st 72 [(aS.enc r10.1), (eB s4.gA), (k64 s4.gC), (j64 s4.gB), (j64 s4.gD)])⟩ [[.var (.st 26 [(aK.enc a2), (.ref 1 [] 0), (.ref 2 [] 0), (aB.enc a3), (aB.enc s3), (j64 a5), (eB a6), (aH.enc a7)]), .var (.st 38 [(aE.enc a8), (aI.enc a9), (.ifc 91 (.ref 3 [] 0)), (eO 4 1 (eL 2 aD.enc) b4), (aB.enc a10), (aF.enc a11)]), .var (.st 72 [(aS.enc r10.1), (eB s4.gA), (k64 s4.gC), (j64 s4.gB), (j64 s4.gD)]), .var (aM.enc s5), .tail (b4.length * 1), .var (aP.enc e8), .dead], [.var (.st 26 [(aK.enc a2), (.ref 1 [] 0), (.ref 2 [] 0), (aB.enc a3), (aB.enc s3), (j64 a5), (eB a6), (aH.enc a7)]), .var (.st 38 [(aE.enc a8), (aI.enc a9), (.ifc 91 (.ref 3 [] 0)), (eO 4 1 (eL 2 aD.enc) b4), (aB.enc a10), (aF.enc a11)]), .var (.st 72 [(aS.enc r10.1), (eB s4.gA), (k64 s4.gC), (j64 s4.gB), (j64 s4.gD)]), .var (aM.enc s5), .tail (b4.length * 1), .var (aP.enc e8), .var aMA]] ⟨bO (aL [0, 1, 2, 3, 4] (cQ hr12)), bO (aL [0, 1, 2, 3, 4] (cQ hr12)), trivial⟩ (dS1 17 ⟨(.ref 6 [] 0), 6, .var aMA, .dead⟩ [[.var (.st 26 [(aK.enc a2), (.ref 1 [] 0), (.ref 2 [] 0), (aB.enc a3), (aB.enc s3), (j64 a5), (eB a6), (aH.enc a7)]), .var (.st 38 [(aE.enc a8), (aI.enc a9), (.ifc 91 (.ref 3 [] 0)), (eO 4 1 (eL 2 aD.enc) b4), (aB.enc a10), (aF.enc a11)]), .var (aA.enc s4), .var (aM.enc s5), .tail (b4.length * 1), .var (aP.enc e8), .dead], [.var (.st 26 [(aK.enc a2), (.ref 1 [] 0), (.ref 2 [] 0), (aB.enc a3), (aB.enc s3), (j64 a5), (eB a6), (aH.enc a7)]), .var (.st 38 [(aE.enc a8), (aI.enc a9), (.ifc 91 (.ref 3 [] 0)), (eO 4 1 (eL 2 aD.enc) b4), (aB.enc a10), (aF.enc a11)]), .var (.st 72 [(aS.enc r12.1), (eB ((aA.mk r10.1 s4.gA s4.gC s4.gB s4.gD).gA)), (k64 ((aA.mk r10.1 s4.gA s4.gC s4.gB s4.gD).gC)), (j64 ((aA.mk r10.1 s4.gA s4.gC s4.gB s4.gD).gB)), (j64 ((aA.mk r10.1 s4.gA s4.gC s4.gB s4.gD).gD))]), .var (aM.enc s5), .tail (b4.length * 1), .var (aP.enc e8), .dead], [.var (.st 26 [(aK.enc a2), (.ref 1 [] 0), (.ref 2 [] 0), (aB.enc a3), (aB.enc s3), (j64 a5), (eB a6), (aH.enc a7)]), .var (.st 38 [(aE.enc a8), (aI.enc a9), (.ifc 91 (.ref 3 [] 0)), (eO 4 1 (eL 2 aD.enc) b4), (aB.enc a10), (aF.enc a11)]), .var (.st 72 [(aS.enc r10.1), (eB s4.gA), (k64 s4.gC), (j64 s4.gB), (j64 s4.gD)]), .var (aM.enc s5), .tail (b4.length * 1), .var (aP.enc e8), .dead], [.var (.st 26 [(aK.enc a2), (.ref 1 [] 0), (.ref 2 [] 0), (aB.enc a3), (aB.enc s3), (j64 a5), (eB a6), (aH.enc a7)]), .var (.st 38 [(aE.enc a8), (aI.enc a9), (.ifc 91 (.ref 3 [] 0)), (eO 4 1 (eL 2 aD.enc) b4), (aB.enc a10), (aF.enc a11)]), .var (.st 72 [(aS.enc r12.1), (eB ((aA.mk r10.1 s4.gA s4.gC s4.gB s4.gD).gA)), (k64 ((aA.mk r10.1 s4.gA s4.gC s4.gB s4.gD).gC)), (j64 ((aA.mk r10.1 s4.gA s4.gC s4.gB s4.gD).gB)), (j64 ((aA.mk r10.1 s4.gA s4.gC s4.gB s4.gD).gD))]), .var (aM.enc s5), .tail (b4.length * 1), .var (aP.enc e8), .dead]] ⟨aW hT 6 (by kernel_rfl) (by kernel_rfl) (by kernel_rfl), aW hT 6 (by kernel_rfl) (by kernel_rfl) (by kernel_rfl), aW hT 6 (by kernel_rfl) (by kernel_rfl) (by kernel_rfl), aW hT 6 (by kernel_rfl) (by kernel_rfl) (by kernel_rfl), trivial⟩ dS0))) ?_
     refine lx ?_; intro x14
     refine At.c 13 ?_ ?_
     ·apply rt; exact At.jn 0
     ·refine At.J 0 0 [0, 3, 6, 16, 17, 18] 7 (fun p15 => ([(81, (eB p15.2))], [(3, .var (.st 5 [(bI.enc s5.gM), (eB s5.gA), (eL 19 aG.enc s5.gl), (j64 p15.1)]))], [])) (fun p15 => ?_) fun p15 => ?_
      ·refine bi fun r16 hr16 => ?_
       refine boI (fun hc18 => ?_) (fun hc18 => ?_)
       ·refine boI (fun hc23 => ?_) (fun hc23 => ?_)
        ·refine At.d 0 (dE1 18 (fun _ => cT hc18 rfl (cN hT (im := false) (by kernel_rfl))) (dE1 23 (fun _ => cT hc23 rfl (cN hT (im := false) (by kernel_rfl))) dE0)) (dF 16 (eB r16.2) [(3, .var (.st 5 [(bI.enc s5.gM), (eB s5.gA), (eL 19 aG.enc s5.gl), (j64 r16.1)]))] [] (bO (aL [3] (lG hr16))) dF0) ?_
         apply rt; exact At.jn 0
        ·refine At.d 0 (dE1 18 (fun _ => cT hc18 rfl (cN hT (im := false) (by kernel_rfl))) (dE1 23 (fun _ => cT hc23 rfl (cN hT (im := false) (by kernel_rfl))) dE0)) (dF 16 (eB r16.2) [(3, .var (.st 5 [(bI.enc s5.gM), (eB s5.gA), (eL 19 aG.enc s5.gl), (j64 r16.1)]))] [] (bO (aL [3] (lG hr16))) dF0) ?_
         apply rt; exact At.jn 0
       ·refine At.d 0 (dE1 18 (fun _ => cT hc18 rfl (cN hT (im := false) (by kernel_rfl))) dE0) (dF 16 (eB r16.2) [(3, .var (.st 5 [(bI.enc s5.gM), (eB s5.gA), (eL 19 aG.enc s5.gl), (j64 r16.1)]))] [] (bO (aL [3] (lG hr16))) dF0) ?_
        apply rt; exact At.jn 0
      ·refine At.c 0 ?_ ?_
       ·refine At.o 5 (cM hT (x := (.sl 3 2 [(aB.enc a1.gc), (aB.enc r13.gC0)]))) ?_
        refine At.b 0 (fun _ e => aL [0, 1, 2, 3, 4] (rX e)) fun r17 => ?_
        apply rt; exact At.jn 0
       ·apply rt; exact At.jn 0
    ·exact fun h => At.k 2 ⟨_, _, _, _, h, jr⟩
   ·apply rt; exact At.x 0
 ·refine At.c 9 ?_ ?_
  ·apply rt; exact At.r 0
  ·refine At.b 8 (fun _ e => aL [] (pI e)) fun r18 => ?_
   refine lx ?_; intro x19
   refine At.L 17 [] 5 (fun p20 => ([], [(3, .var (aM.enc p20))], [])) (fun p20 J k => ∃ s21 s22, oO N r18 x19 a1 k s21 s22 = some p20 ∧ J [0, 3, 121] 5 [(122, (j64 s22))] [(3, .var (aM.enc s21))] []) N (fun _ h => ⟨_, _, h, jr⟩) (fun p20 k s hI => ?_) fun p20 => ?_
   ·obtain ⟨s21, s22, h, hj⟩ := hI
    cases k with
    | zero => cases h
    | succ k =>
     refine At.jr hj ?_ h
     refine lx ?_; intro x23
     refine At.c 1 ?_ ?_
     ·refine bi fun r24 hr24 => ?_
      refine At.d 0 dE0 (dF 12 (eB r24.2) [(3, .var (.st 5 [(bI.enc s21.gM), (eB s21.gA), (eL 19 aG.enc s21.gl), (j64 r24.1)]))] [] (bO (aL [3] (lG hr24))) dF0) ?_
      exact fun h => At.k 2 ⟨_, _, h, jr⟩
     ·apply rt; exact At.x 0
   ·apply rt; exact At.z 0

def aCi : Nat → Bool := imL [3, 4]

def nR (N : Nat) (a0 : aB) (a1 : aB) (a2 : Int) : Option (cI) :=
 Option.bind (rQ N a2) fun r1 =>
 Option.bind (fM N r1) fun r2 =>
 Option.bind (qJ N a1 r2) fun r3 =>
 Option.bind (cond (decide (r3 < 0)) (
  Option.bind (sG N r3) fun r5 =>
  some ((aC.mk (I64 (0 - r1.gX)) (I64 (0 - r1.gY)) (I64 (0 - r1.gZ)), r5))) (
  some ((r1, r3)))) fun p4 =>
 cond (p4.2 == 0) (
  some (cI.mk (aC.mk 0 0 0) (aB.mk 0 0 0) true)) (
  Option.bind (lF N ([p4.2, p4.2])) fun r6 =>
  Option.bind (fD N a0 r6) fun r7 =>
  some (cI.mk p4.1 r7 false))

theorem aCJ {N a0 a1 a2 r} (h : nR N a0 a1 a2 = some r) : FnM Tryz.prog 167 [] [(aB.enc a0), (aB.enc a1), (k32 a2)] (cI.enc r) [] := by
 unfold nR at h
 refine At.f aCi hT hmo Tryz.func167 rfl h ?_
 refine At.b 4 (fun _ e => aL [] (aAr e)) fun r1 => ?_
 refine bi fun r2 hr2 => ?_
 refine bi fun r3 hr3 => ?_
 refine At.d 2 (dE2 2 (aB.enc r2) (fun _ => aN (kO hr2)) (dE2 3 (j64 r3) (fun _ => aN (vO hr3)) dE0)) dF0 ?_
 refine At.J 0 1 [3, 6, 7] 2 (fun p4 => ([(8, (j64 p4.2))], [(1, .var (aC.enc p4.1))], [])) (fun p4 => ?_) fun p4 => ?_
 ·refine At.c 2 ?_ ?_
  ·refine bi fun r5 hr5 => ?_
   refine At.d 0 (dE2 11 (j64 r5) (fun _ => aN (aAa hr5)) dE0) dF0 ?_
   apply rt; exact At.jn 0
  ·apply rt; exact At.jn 0
 ·refine At.c 2 ?_ ?_
  ·apply rt; exact At.r 2
  ·refine bi fun r6 hr6 => ?_
   refine bi fun r7 hr7 => ?_
   refine At.d 0 (dE1 4 (fun _ => cM hT (x := (.sl 1 2 [(j64 p4.2), (j64 p4.2)]))) (dE2 5 (j64 r6) (fun _ => aN (tQ hr6)) (dE2 6 (aB.enc r7) (fun _ => aN (jI hr7)) dE0))) dF0 ?_
   apply rt; exact At.r 0

def aDx : Nat → Bool := imL [2, 3]

def kE (N : Nat) (a0 : aB) (a1 : aC) : Option (aB) :=
 Option.bind (fM N a1) fun r1 =>
 Option.bind (qJ N a0 r1) fun r2 =>
 Option.bind (lF N ([r2, r2])) fun r3 =>
 Option.bind (fD N a0 r3) fun r4 =>
 Option.bind (uI N r1 r4) fun r5 =>
 some r5

theorem uV {N a0 a1 r} (h : kE N a0 a1 = some r) : FnM Tryz.prog 168 [] [(aB.enc a0), (aC.enc a1)] (aB.enc r) [] := by
 unfold kE at h
 refine At.f aDx hT hmo Tryz.func168 rfl h ?_
 refine At.b 4 (fun _ e => aL [] (kO e)) fun r1 => ?_
 refine At.b 4 (fun _ e => aL [] (vO e)) fun r2 => ?_
 refine bi fun r3 hr3 => ?_
 refine bi fun r4 hr4 => ?_
 refine bi fun r5 hr5 => ?_
 refine At.d 1 (dE1 4 (fun _ => cM hT (x := (.sl 1 2 [(j64 r2), (j64 r2)]))) (dE2 5 (j64 r3) (fun _ => aN (tQ hr3)) (dE2 6 (aB.enc r4) (fun _ => aN (jI hr4)) (dE2 7 (aB.enc r5) (fun _ => aN (aAt hr5)) dE0)))) dF0 ?_
 apply rt; exact At.r 0

def aEi : Nat → Bool := imL [2, 3]

def jR (N : Nat) (a0 : aB) (a1 : aB) : Option (cI) :=
 Option.bind (sA N a0) fun r1 =>
 cond (r1.2 != 0) (
  some (cI.mk (aC.mk 0 0 0) (aB.mk 0 0 0) true)) (
  some (cI.mk r1.1 a1 false))

theorem sL {N a0 a1 r} (h : jR N a0 a1 = some r) : FnM Tryz.prog 171 [] [(aB.enc a0), (aB.enc a1)] (cI.enc r) [] := by
 unfold jR at h
 refine At.f aEi hT hmo Tryz.func171 rfl h ?_
 refine At.b 4 (fun _ e => aL [] (aB6 e)) fun r1 => ?_
 refine At.c 8 ?_ ?_
 ·apply rt; exact At.r 2
 ·apply rt; exact At.r 4

def aDE : Nat → Bool := imL [5, 6, 7, 8, 9]

def jL (N : Nat) (a0 : aQ) (a1 : aB) (a2 : aB) (a3 : aC) (a4 : (Vector Int 2)) : Option (cI) :=
 cond (a0.gA0 == 0) (
  Option.bind (idx a4.toList 0) fun e1 =>
  Option.bind (nR N a1 a2 e1) fun r2 =>
  some r2) (
  cond (a0.gA0 == 2) (
   Option.bind (jG N a0.gC6) fun r3 =>
   Option.bind (jG N 65535) fun r4 =>
   Option.bind (pH N r3 r4) fun r5 =>
   Option.bind (kE N a2 a3) fun r6 =>
   Option.bind (idx a4.toList 0) fun e7 =>
   Option.bind (rQ N e7) fun r8 =>
   Option.bind (fM N r8) fun r9 =>
   Option.bind (fD N r9 r5) fun r10 =>
   Option.bind (lI N ([r6, r10])) fun r11 =>
   Option.bind (qJ N a2 r11) fun r12 =>
   cond (decide (r12 ≤ 0)) (
    some (cI.mk (aC.mk 0 0 0) (aB.mk 0 0 0) true)) (
    Option.bind (jR N r11 a1) fun r13 =>
    some r13)) (
   cond (a0.gA0 == 3) (
    Option.bind (idx a4.toList 1) fun e14 =>
    Option.bind (pN N e14 65536) fun r15 =>
    aR (decide (r15 ≥ a0.gC6)) fun x16 =>
    cond x16 (
     Option.bind (fM N a3) fun r17 =>
     Option.bind (jR N r17 a1) fun r18 =>
     some r18) (
     Option.bind (kE N a2 a3) fun r19 =>
     Option.bind (jR N r19 a1) fun r20 =>
     some r20)) (
    cond (a0.gA0 == 1) (
     Option.bind (kE N a2 a3) fun r21 =>
     Option.bind (jR N r21 a1) fun r22 =>
     some r22) (
     some (cI.mk (aC.mk 0 0 0) (aB.mk 0 0 0) true)))))

theorem yK {N a0 a1 a2 a3 a4 r} (h : jL N a0 a1 a2 a3 a4 = some r) : FnM Tryz.prog 89 [] [(aQ.enc a0), (aB.enc a1), (aB.enc a2), (aC.enc a3), (eA 2 1 k32 a4)] (cI.enc r) [] := by
 unfold jL at h
 refine At.f aDE hT hmo Tryz.func89 rfl h ?_
 refine At.c 10 ?_ ?_
 ·refine At.b 2 (fun _ e => dK hT (N := 2) (k := 1) k32 a4 e) fun e1 => ?_
  refine At.b 1 (fun _ e => aL [] (aCJ e)) fun r2 => ?_
  apply rt; exact At.r 1
 ·refine At.c 2 ?_ ?_
  ·refine At.b 2 (fun _ e => aL [] (kK e)) fun r3 => ?_
   refine At.b 0 (fun _ e => aL [] (kK e)) fun r4 => ?_
   refine At.b 0 (fun _ e => aL [] (tL e)) fun r5 => ?_
   refine bi fun r6 hr6 => ?_
   refine bi fun e7 he7 => ?_
   refine bi fun r8 hr8 => ?_
   refine bi fun r9 hr9 => ?_
   refine bi fun r10 hr10 => ?_
   refine bi fun r11 hr11 => ?_
   refine At.d 1 (dE2 2 (aB.enc r6) (fun _ => aN (uV hr6)) (dE1 3 (fun _ => dK hT (N := 2) (k := 1) k32 a4 he7) (dE2 5 (aC.enc r8) (fun _ => aN (aAr hr8)) (dE2 6 (aB.enc r9) (fun _ => aN (kO hr9)) (dE2 8 (aB.enc r10) (fun _ => aN (jI hr10)) (dE1 9 (fun _ => cM hT (x := (.sl 3 2 [(aB.enc r6), (aB.enc r10)]))) (dE2 10 (aB.enc r11) (fun _ => aN (wA hr11)) dE0))))))) dF0 ?_
   refine At.b 2 (fun _ e => aL [] (vO e)) fun r12 => ?_
   refine At.c 1 ?_ ?_
   ·apply rt; exact At.r 2
   ·refine At.b 2 (fun _ e => aL [] (sL e)) fun r13 => ?_
    apply rt; exact At.r 1
  ·refine At.c 2 ?_ ?_
   ·refine bi fun e14 he14 => ?_
    refine bi fun r15 hr15 => ?_
    refine lx ?_; intro x16
    refine At.d 0 (dE1 0 (fun _ => dK hT (N := 2) (k := 1) k32 a4 he14) (dE2 2 (j64 r15) (fun _ => aN (aA1 hr15)) dE0)) dF0 ?_
    refine At.c 0 ?_ ?_
    ·refine bi fun r17 hr17 => ?_
     refine bi fun r18 hr18 => ?_
     refine At.d 0 (dE2 1 (aB.enc r17) (fun _ => aN (kO hr17)) (dE2 3 (cI.enc r18) (fun _ => aN (sL hr18)) dE0)) dF0 ?_
     apply rt; exact At.r 0
    ·refine bi fun r19 hr19 => ?_
     refine bi fun r20 hr20 => ?_
     refine At.d 0 (dE2 2 (aB.enc r19) (fun _ => aN (uV hr19)) (dE2 4 (cI.enc r20) (fun _ => aN (sL hr20)) dE0)) dF0 ?_
     apply rt; exact At.r 0
   ·refine At.c 2 ?_ ?_
    ·refine bi fun r21 hr21 => ?_
     refine bi fun r22 hr22 => ?_
     refine At.d 0 (dE2 2 (aB.enc r21) (fun _ => aN (uV hr21)) (dE2 4 (cI.enc r22) (fun _ => aN (sL hr22)) dE0)) dF0 ?_
     apply rt; exact At.r 0
    ·apply rt; exact At.r 2


def zR (N : Nat) (a0 : Int) (a1 : Int) (a2 : Int) : Option (Int) :=
 some (jC (iN a0 a1) a2)

theorem aHT {N a0 a1 a2 r} (h : zR N a0 a1 a2 = some r) : FnM Tryz.prog 174 [] [(j64 a0), (j64 a1), (j64 a2)] (j64 r) [] := by
 unfold zR at h
 refine At.f cU hT hmo Tryz.func174 rfl h ?_
 apply rt; exact At.r 7

def fP (N : Nat) (a0 : Int) (a1 : Int) : Option (Int) :=
 Option.bind (pH N a0 a1) fun r1 =>
 some r1

theorem oD {N a0 a1 r} (h : fP N a0 a1 = some r) : FnM Tryz.prog 175 [] [(j64 a0), (.im (j64 a1))] (j64 r) [] := by
 unfold fP at h
 refine At.f cU hT hmo Tryz.func175 rfl h ?_
 refine At.b 3 (fun _ e => aL [] (tL e)) fun r1 => ?_
 apply rt; exact At.r 1

def aCg : Nat → Bool := imL [2]

def iL (N : Nat) (a0 : aB) (a1 : Int) : Option (aB × Bool) :=
 Option.bind (vS N a0) fun r1 =>
 Option.bind (zR N r1 268435456 4294967296) fun r2 =>
 Option.bind (oL N a1) fun r3 =>
 cond (decide (r3 ≥ r2)) (
  some ((aB.mk 0 0 0, false))) (
  Option.bind (fP N a0.gX r2) fun r4 =>
  Option.bind (fP N a0.gY r2) fun r5 =>
  Option.bind (fP N a0.gZ r2) fun r6 =>
  some ((aB.mk r4 r5 r6, true)))

theorem wX {N a0 a1 r} (h : iL N a0 a1 = some r) : FnM Tryz.prog 91 [] [(aB.enc a0), (k32 a1)] (.tup [(aB.enc r.1), (eB r.2)]) [] := by
 unfold iL at h
 refine At.f aCg hT hmo Tryz.func91 rfl h ?_
 refine At.b 4 (fun _ e => aL [] (aEF e)) fun r1 => ?_
 refine At.b 0 (fun _ e => aL [] (aHT e)) fun r2 => ?_
 refine bi fun r3 hr3 => ?_
 refine At.d 2 (dE2 1 (j64 r3) (fun _ => aN (yI hr3)) dE0) dF0 ?_
 refine At.c 0 ?_ ?_
 ·apply rt; exact At.r 3
 ·refine At.gz 0 1 ((j64 r2)) ?_
  refine At.o 0 (pX (x := (.fn (.func 175) [] [(.im (j64 r2))])) (by kernel_rfl) (by kernel_rfl)) ?_
  refine bi fun r4 hr4 => ?_
  refine bi fun r5 hr5 => ?_
  refine bi fun r6 hr6 => ?_
  refine At.d 1 (dE2 3 (j64 r4) (fun _ => aN (oD hr4)) (dE2 7 (j64 r5) (fun _ => aN (oD hr5)) (dE2 11 (j64 r6) (fun _ => aN (oD hr6)) dE0))) dF0 ?_
  apply rt; exact At.r 0

def sQ (N : Nat) (b4 : (List (List aD))) (a1 : aK) (a2 : aB) (a3 : aB) (a4 : Int) (a5 : Bool) (a6 : aH) (a7 : aE) (a8 : aI) (a9 : aB) (a10 : aF) (a11 : aA) (a12 : aM) : Option (aK × aB × aB × Bool × aH × Int × aA × aM) :=
 Option.bind (sR N b4 a1 a2 a3 a4 a5 a6 a7 a8 a9 a10 a11 a12) fun r1 =>
 Option.bind (cond (!r1.2.2.2.2) (
  Option.bind (lU N b4 ([a9]) a1 a2 a3 a4 a5 r1.1 a7 a8 a9 (aF.mk a10.gG r1.2.1 (I64 (a10.gE + 1))) a11 (aM.mk a12.gM a12.gA a12.gl r1.2.2.1)) fun r3 =>
  Option.bind (fA N b4 true a1 a2 r3 a4 a5 r1.1 a7 a8 a9 (aF.mk a10.gG r1.2.1 (I64 (a10.gE + 1))) a11 (aM.mk a12.gM a12.gA a12.gl r1.2.2.1)) fun r4 =>
  some ((r3, cond a5 true true))) (
  some ((a3, a5)))) fun p2 =>
 Option.bind (fA N b4 r1.2.2.2.1.gB7 a1 a2 p2.1 a4 p2.2 r1.1 a7 a8 a9 (aF.mk a10.gG r1.2.1 (I64 (a10.gE + 1))) a11 (aM.mk a12.gM a12.gA a12.gl r1.2.2.1)) fun r5 =>
 Option.bind (aR (r1.2.2.2.1.gA6.gA0 == 4) fun x7 =>
 cond x7 (
  Option.bind (lU N b4 ([r1.2.2.2.1.gc]) a1 a2 p2.1 a4 (cond p2.2 true r1.2.2.2.1.gB7) r1.1 a7 a8 a9 (aF.mk a10.gG r1.2.1 (I64 (a10.gE + 1))) a11 (aM.mk a12.gM a12.gA a12.gl r1.2.2.1)) fun r8 =>
  Option.bind (fA N b4 true a1 a2 r8 a4 ((cond p2.2 true r1.2.2.2.1.gB7)) r1.1 a7 a8 a9 (aF.mk a10.gG r1.2.1 (I64 (a10.gE + 1))) a11 (aM.mk a12.gM a12.gA a12.gl r1.2.2.1)) fun r9 =>
  some ((r8, cond ((cond p2.2 true r1.2.2.2.1.gB7)) true true))) (
  some ((p2.1, cond p2.2 true r1.2.2.2.1.gB7)))) fun p6 =>
 Option.bind (Option.bind (cond a8.gT (
  some true) (
  aR (r1.2.2.2.1.gA6.gA0 == 0) fun x12 =>
  some (cond (!p6.2) x12 false))) fun p11 =>
 cond p11 (
  Option.bind (qN N b4 r1.2.2.2.1 a1 a2 p6.1 a4 p6.2 r1.1 a7 a8 a9 (aF.mk a10.gG r1.2.1 (I64 (a10.gE + 1))) a11 (aM.mk a12.gM a12.gA a12.gl r1.2.2.1)) fun r13 =>
  some ((r13.1, r13.2.1, r13.2.2))) (
  some ((p6.1, a11, aM.mk a12.gM a12.gA a12.gl r1.2.2.1)))) fun p10 =>
 Option.bind (cond p6.2 (
  some true) (
  some (a4 == a8.gJ))) fun p14 =>
 cond p14 (
  Option.bind (fA N b4 true a1 a2 p10.1 a4 p6.2 r1.1 a7 a8 a9 (aF.mk a10.gG r1.2.1 (I64 (a10.gE + 1))) p10.2.1 p10.2.2) fun r15 =>
  some ((a1, a2, p10.1, cond p6.2 true true, r1.1, r1.2.1, p10.2.1, p10.2.2))) (
  Option.bind (eP N b4 4 a1 a2 p10.1 a4 p6.2 r1.1 a7 a8 a9 (aF.mk a10.gG r1.2.1 (I64 (a10.gE + 1))) p10.2.1 p10.2.2) fun r16 =>
  Option.bind (eP N b4 5 a1 a2 p10.1 a4 p6.2 r1.1 a7 a8 a9 (aF.mk a10.gG r1.2.1 (I64 (a10.gE + 1))) (aA.mk r16.1 p10.2.1.gA p10.2.1.gC p10.2.1.gB p10.2.1.gD) p10.2.2) fun r17 =>
  Option.bind (jL N r1.2.2.2.1.gA6 r1.2.2.2.1.gc r1.2.2.2.1.gn a1.gd (#v[r16.2, r17.2])) fun r18 =>
  Option.bind (iD N ([a2, r18.gC0])) fun r19 =>
  Option.bind (fA N b4 r18.gB0 a1 r19 p10.1 a4 p6.2 r1.1 a7 a8 a9 (aF.mk a10.gG r1.2.1 (I64 (a10.gE + 1))) (aA.mk r17.1 ((aA.mk r16.1 p10.2.1.gA p10.2.1.gC p10.2.1.gB p10.2.1.gD).gA) ((aA.mk r16.1 p10.2.1.gA p10.2.1.gC p10.2.1.gB p10.2.1.gD).gC) ((aA.mk r16.1 p10.2.1.gA p10.2.1.gC p10.2.1.gB p10.2.1.gD).gB) ((aA.mk r16.1 p10.2.1.gA p10.2.1.gC p10.2.1.gB p10.2.1.gD).gD)) p10.2.2) fun r20 =>
  Option.bind (cond (decide (a4 ≥ 2)) (
   Option.bind (eP N b4 7 a1 r19 p10.1 a4 (cond p6.2 true r18.gB0) r1.1 a7 a8 a9 (aF.mk a10.gG r1.2.1 (I64 (a10.gE + 1))) (aA.mk r17.1 ((aA.mk r16.1 p10.2.1.gA p10.2.1.gC p10.2.1.gB p10.2.1.gD).gA) ((aA.mk r16.1 p10.2.1.gA p10.2.1.gC p10.2.1.gB p10.2.1.gD).gC) ((aA.mk r16.1 p10.2.1.gA p10.2.1.gC p10.2.1.gB p10.2.1.gD).gB) ((aA.mk r16.1 p10.2.1.gA p10.2.1.gC p10.2.1.gB p10.2.1.gD).gD)) p10.2.2) fun r22 =>
   Option.bind (iL N r19 r22.2) fun r23 =>
   Option.bind (fA N b4 (!r23.2) a1 r23.1 p10.1 a4 (cond p6.2 true r18.gB0) r1.1 a7 a8 a9 (aF.mk a10.gG r1.2.1 (I64 (a10.gE + 1))) (aA.mk r22.1 ((aA.mk r17.1 ((aA.mk r16.1 p10.2.1.gA p10.2.1.gC p10.2.1.gB p10.2.1.gD).gA) ((aA.mk r16.1 p10.2.1.gA p10.2.1.gC p10.2.1.gB p10.2.1.gD).gC) ((aA.mk r16.1 p10.2.1.gA p10.2.1.gC p10.2.1.gB p10.2.1.gD).gB) ((aA.mk r16.1 p10.2.1.gA p10.2.1.gC p10.2.1.gB p10.2.1.gD).gD)).gA) ((aA.mk r17.1 ((aA.mk r16.1 p10.2.1.gA p10.2.1.gC p10.2.1.gB p10.2.1.gD).gA) ((aA.mk r16.1 p10.2.1.gA p10.2.1.gC p10.2.1.gB p10.2.1.gD).gC) ((aA.mk r16.1 p10.2.1.gA p10.2.1.gC p10.2.1.gB p10.2.1.gD).gB) ((aA.mk r16.1 p10.2.1.gA p10.2.1.gC p10.2.1.gB p10.2.1.gD).gD)).gC) ((aA.mk r17.1 ((aA.mk r16.1 p10.2.1.gA p10.2.1.gC p10.2.1.gB p10.2.1.gD).gA) ((aA.mk r16.1 p10.2.1.gA p10.2.1.gC p10.2.1.gB p10.2.1.gD).gC) ((aA.mk r16.1 p10.2.1.gA p10.2.1.gC p10.2.1.gB p10.2.1.gD).gB) ((aA.mk r16.1 p10.2.1.gA p10.2.1.gC p10.2.1.gB p10.2.1.gD).gD)).gB) ((aA.mk r17.1 ((aA.mk r16.1 p10.2.1.gA p10.2.1.gC p10.2.1.gB p10.2.1.gD).gA) ((aA.mk r16.1 p10.2.1.gA p10.2.1.gC p10.2.1.gB p10.2.1.gD).gC) ((aA.mk r16.1 p10.2.1.gA p10.2.1.gC p10.2.1.gB p10.2.1.gD).gB) ((aA.mk r16.1 p10.2.1.gA p10.2.1.gC p10.2.1.gB p10.2.1.gD).gD)).gD)) p10.2.2) fun r24 =>
   some ((r23.1, cond (cond p6.2 true r18.gB0) true (!r23.2), aA.mk r22.1 ((aA.mk r17.1 ((aA.mk r16.1 p10.2.1.gA p10.2.1.gC p10.2.1.gB p10.2.1.gD).gA) ((aA.mk r16.1 p10.2.1.gA p10.2.1.gC p10.2.1.gB p10.2.1.gD).gC) ((aA.mk r16.1 p10.2.1.gA p10.2.1.gC p10.2.1.gB p10.2.1.gD).gB) ((aA.mk r16.1 p10.2.1.gA p10.2.1.gC p10.2.1.gB p10.2.1.gD).gD)).gA) ((aA.mk r17.1 ((aA.mk r16.1 p10.2.1.gA p10.2.1.gC p10.2.1.gB p10.2.1.gD).gA) ((aA.mk r16.1 p10.2.1.gA p10.2.1.gC p10.2.1.gB p10.2.1.gD).gC) ((aA.mk r16.1 p10.2.1.gA p10.2.1.gC p10.2.1.gB p10.2.1.gD).gB) ((aA.mk r16.1 p10.2.1.gA p10.2.1.gC p10.2.1.gB p10.2.1.gD).gD)).gC) ((aA.mk r17.1 ((aA.mk r16.1 p10.2.1.gA p10.2.1.gC p10.2.1.gB p10.2.1.gD).gA) ((aA.mk r16.1 p10.2.1.gA p10.2.1.gC p10.2.1.gB p10.2.1.gD).gC) ((aA.mk r16.1 p10.2.1.gA p10.2.1.gC p10.2.1.gB p10.2.1.gD).gB) ((aA.mk r16.1 p10.2.1.gA p10.2.1.gC p10.2.1.gB p10.2.1.gD).gD)).gB) ((aA.mk r17.1 ((aA.mk r16.1 p10.2.1.gA p10.2.1.gC p10.2.1.gB p10.2.1.gD).gA) ((aA.mk r16.1 p10.2.1.gA p10.2.1.gC p10.2.1.gB p10.2.1.gD).gC) ((aA.mk r16.1 p10.2.1.gA p10.2.1.gC p10.2.1.gB p10.2.1.gD).gB) ((aA.mk r16.1 p10.2.1.gA p10.2.1.gC p10.2.1.gB p10.2.1.gD).gD)).gD)))) (
   some ((r19, cond p6.2 true r18.gB0, aA.mk r17.1 ((aA.mk r16.1 p10.2.1.gA p10.2.1.gC p10.2.1.gB p10.2.1.gD).gA) ((aA.mk r16.1 p10.2.1.gA p10.2.1.gC p10.2.1.gB p10.2.1.gD).gC) ((aA.mk r16.1 p10.2.1.gA p10.2.1.gC p10.2.1.gB p10.2.1.gD).gB) ((aA.mk r16.1 p10.2.1.gA p10.2.1.gC p10.2.1.gB p10.2.1.gD).gD))))) fun p21 =>
  some ((aK.mk r1.2.2.2.1.gat r18.gE5 r1.2.2.2.1.gi, p21.1, p10.1, p21.2.1, r1.1, r1.2.1, p21.2.2, p10.2.2)))

theorem aA8 {N b4 a1 a2 a3 a4 a5 a6 a7 a8 a9 a10 a11 a12 r} (h : sQ N b4 a1 a2 a3 a4 a5 a6 a7 a8 a9 a10 a11 a12 = some r) : FnM Tryz.prog 34 [.var (.st 26 [(aK.enc a1), (.ref 1 [] 0), (.ref 2 [] 0), (aB.enc a2), (aB.enc a3), (j64 a4), (eB a5), (aH.enc a6)]), .var (.st 38 [(aE.enc a7), (aI.enc a8), (.ifc 91 (.ref 3 [] 0)), (eO 4 1 (eL 2 aD.enc) b4), (aB.enc a9), (aF.enc a10)]), .var (aA.enc a11), .var (aM.enc a12), .tail (b4.length * 1)] [(.ref 0 [] 0)] (.tup []) [.var (.st 26 [(aK.enc r.1), (.ref 1 [] 0), (.ref 2 [] 0), (aB.enc r.2.1), (aB.enc r.2.2.1), (j64 a4), (eB r.2.2.2.1), (aH.enc r.2.2.2.2.1)]), .var (.st 38 [(aE.enc a7), (aI.enc a8), (.ifc 91 (.ref 3 [] 0)), (eO 4 1 (eL 2 aD.enc) b4), (aB.enc a9), (.st 3 [(j64 a10.gG), (j64 r.2.2.2.2.2.1), (j64 (I64 (a10.gE + 1)))])]), .var (aA.enc r.2.2.2.2.2.2.1), .var (aM.enc r.2.2.2.2.2.2.2), .tail (b4.length * 1)] := by
 unfold sQ at h
 refine At.f cU hT hmo Tryz.func34 rfl h ?_
 refine At.b 1 (fun _ e => aL [0, 1, 2, 3, 4] (aBV e)) fun r1 => ?_
 refine At.J 6 1 [0, 2] 6 (fun p2 => ([], [(0, .var (.st 26 [(aK.enc a1), (.ref 1 [] 0), (.ref 2 [] 0), (aB.enc a2), (aB.enc p2.1), (j64 a4), (eB p2.2), (aH.enc r1.1)]))], [])) (fun p2 => ?_) fun p2 => ?_
 ·refine At.c 2 ?_ ?_
  ·refine At.o 8 (cM hT (x := (.sl 3 1 [(aB.enc a9)]))) ?_
   refine At.b 0 (fun _ e => aL [0, 1, 2, 3, 4] (rX e)) fun r3 => ?_
   refine At.b 1 (fun _ e => aL [0, 1, 2, 3, 4] (iS e)) fun r4 => ?_
   apply rt; exact At.jn 0
  ·apply rt; exact At.jn 0
 ·refine At.b 3 (fun _ e => aL [0, 1, 2, 3, 4] (iS e)) fun r5 => ?_
  refine At.J 0 1 [0, 2] 6 (fun p6 => ([], [(0, .var (.st 26 [(aK.enc a1), (.ref 1 [] 0), (.ref 2 [] 0), (aB.enc a2), (aB.enc p6.1), (j64 a4), (eB p6.2), (aH.enc r1.1)]))], [])) (fun p6 => ?_) fun p6 => ?_
  ·refine lx ?_; intro x7
   refine At.c 4 ?_ ?_
   ·refine At.o 3 (cM hT (x := (.sl 3 1 [(aB.enc r1.2.2.2.1.gc)]))) ?_
    refine At.b 0 (fun _ e => aL [0, 1, 2, 3, 4] (rX e)) fun r8 => ?_
    refine At.b 1 (fun _ e => aL [0, 1, 2, 3, 4] (iS e)) fun r9 => ?_
    apply rt; exact At.jn 0
   ·apply rt; exact At.jn 0
  ·refine At.J 0 1 [0, 2] 6 (fun p10 => ([], [(0, .var (.st 26 [(aK.enc a1), (.ref 1 [] 0), (.ref 2 [] 0), (aB.enc a2), (aB.enc p10.1), (j64 a4), (eB p6.2), (aH.enc r1.1)])), (2, .var (aA.enc p10.2.1)), (3, .var (aM.enc p10.2.2))], [])) (fun p10 => ?_) fun p10 => ?_
   ·refine At.J 0 0 [0, 2] 6 (fun p11 => ([(61, (eB p11))], [], [])) (fun p11 => ?_) fun p11 => ?_
    ·refine At.s 49 9 ?_ ?_
     ·refine At.g [49, 55] 12 ?_
      apply rt; exact At.jn 0
     ·refine lx ?_; intro x12
      refine At.g [49] 12 ?_
      apply rt; exact At.jn 0
    ·refine At.c 0 ?_ ?_
     ·refine At.b 2 (fun _ e => aL [0, 1, 2, 3, 4] (aAl e)) fun r13 => ?_
      apply rt; exact At.jn 0
     ·apply rt; exact At.jn 0
   ·refine At.J 0 0 [0, 2] 6 (fun p14 => ([(83, (eB p14))], [], [])) (fun p14 => ?_) fun p14 => ?_
    ·refine boI (fun hc4 => ?_) (fun hc4 => ?_)
     ·refine At.d 0 (dE1 4 (fun _ => cT hc4 rfl (cN hT (im := false) (by kernel_rfl))) dE0) dF0 ?_
      apply rt; exact At.jn 0
     ·refine At.d 0 (dE1 4 (fun _ => cT hc4 rfl (cN hT (im := false) (by kernel_rfl))) dE0) dF0 ?_
      apply rt; exact At.jn 0
    ·refine At.c 0 ?_ ?_
     ·refine At.b 1 (fun _ e => aL [0, 1, 2, 3, 4] (iS e)) fun r15 => ?_
      apply rt; exact At.r 0
     ·refine bi fun r16 hr16 => ?_
      refine bi fun r17 hr17 => ?_
      refine bi fun r18 hr18 => ?_
      refine At.d2 0 [false] (dC2 16 (cI.enc r18) (fun _ => aN (yK hr18)) dC0) (dS1 12 ⟨(k32 r16.2), 2, .var (.st 72 [(aS.enc r16.1), (eB p10.2.1.gA), (k64 p10.2.1.gC), (j64 p10.2.1.gB), (j64 p10.2.1.gD)]), .var (aA.enc p10.2.1)⟩ [[.var (.st 26 [(aK.enc a1), (.ref 1 [] 0), (.ref 2 [] 0), (aB.enc a2), (aB.enc p10.1), (j64 a4), (eB p6.2), (aH.enc r1.1)]), .var (.st 38 [(aE.enc a7), (aI.enc a8), (.ifc 91 (.ref 3 [] 0)), (eO 4 1 (eL 2 aD.enc) b4), (aB.enc a9), (.st 3 [(j64 a10.gG), (j64 r1.2.1), (j64 (I64 (a10.gE + 1)))])]), .var (aA.enc p10.2.1), .var (aM.enc p10.2.2), .tail (b4.length * 1), .var (aV.enc r1.2.2.2.1), .dead], [.var (.st 26 [(aK.enc a1), (.ref 1 [] 0), (.ref 2 [] 0), (aB.enc a2), (aB.enc p10.1), (j64 a4), (eB p6.2), (aH.enc r1.1)]), .var (.st 38 [(aE.enc a7), (aI.enc a8), (.ifc 91 (.ref 3 [] 0)), (eO 4 1 (eL 2 aD.enc) b4), (aB.enc a9), (.st 3 [(j64 a10.gG), (j64 r1.2.1), (j64 (I64 (a10.gE + 1)))])]), .var (aA.enc p10.2.1), .var (aM.enc p10.2.2), .tail (b4.length * 1), .var (aV.enc r1.2.2.2.1), .var aLx]] ⟨bO (aL [0, 1, 2, 3, 4] (cQ hr16)), bO (aL [0, 1, 2, 3, 4] (cQ hr16)), trivial⟩ (dS1 14 ⟨(k32 r17.2), 2, .var (.st 72 [(aS.enc r17.1), (eB ((aA.mk r16.1 p10.2.1.gA p10.2.1.gC p10.2.1.gB p10.2.1.gD).gA)), (k64 ((aA.mk r16.1 p10.2.1.gA p10.2.1.gC p10.2.1.gB p10.2.1.gD).gC)), (j64 ((aA.mk r16.1 p10.2.1.gA p10.2.1.gC p10.2.1.gB p10.2.1.gD).gB)), (j64 ((aA.mk r16.1 p10.2.1.gA p10.2.1.gC p10.2.1.gB p10.2.1.gD).gD))]), .var (.st 72 [(aS.enc r16.1), (eB p10.2.1.gA), (k64 p10.2.1.gC), (j64 p10.2.1.gB), (j64 p10.2.1.gD)])⟩ [[.var (.st 26 [(aK.enc a1), (.ref 1 [] 0), (.ref 2 [] 0), (aB.enc a2), (aB.enc p10.1), (j64 a4), (eB p6.2), (aH.enc r1.1)]), .var (.st 38 [(aE.enc a7), (aI.enc a8), (.ifc 91 (.ref 3 [] 0)), (eO 4 1 (eL 2 aD.enc) b4), (aB.enc a9), (.st 3 [(j64 a10.gG), (j64 r1.2.1), (j64 (I64 (a10.gE + 1)))])]), .var (.st 72 [(aS.enc r16.1), (eB p10.2.1.gA), (k64 p10.2.1.gC), (j64 p10.2.1.gB), (j64 p10.2.1.gD)]), .var (aM.enc p10.2.2), .tail (b4.length * 1), .var (aV.enc r1.2.2.2.1), .dead], [.var (.st 26 [(aK.enc a1), (.ref 1 [] 0), (.ref 2 [] 0), (aB.enc a2), (aB.enc p10.1), (j64 a4), (eB p6.2), (aH.enc r1.1)]), .var (.st 38 [(aE.enc a7), (aI.enc a8), (.ifc 91 (.ref 3 [] 0)), (eO 4 1 (eL 2 aD.enc) b4), (aB.enc a9), (.st 3 [(j64 a10.gG), (j64 r1.2.1), (j64 (I64 (a10.gE + 1)))])]), .var (.st 72 [(aS.enc r16.1), (eB p10.2.1.gA), (k64 p10.2.1.gC), (j64 p10.2.1.gB), (j64 p10.2.1.gD)]), .var (aM.enc p10.2.2), .tail (b4.length * 1), .var (aV.enc r1.2.2.2.1), .var aLx]] ⟨bO (aL [0, 1, 2, 3, 4] (cQ hr17)), bO (aL [0, 1, 2, 3, 4] (cQ hr17)), trivial⟩ (dS1 17 ⟨(.ref 6 [] 0), 6, .var aLx, .dead⟩ [[.var (.st 26 [(aK.enc a1), (.ref 1 [] 0), (.ref 2 [] 0), (aB.enc a2), (aB.enc p10.1), (j64 a4), (eB p6.2), (aH.enc r1.1)]), .var (.st 38 [(aE.enc a7), (aI.enc a8), (.ifc 91 (.ref 3 [] 0)), (eO 4 1 (eL 2 aD.enc) b4), (aB.enc a9), (.st 3 [(j64 a10.gG), (j64 r1.2.1), (j64 (I64 (a10.gE + 1)))])]), .var (aA.enc p10.2.1), .var (aM.enc p10.2.2), .tail (b4.length * 1), .var (aV.enc r1.2.2.2.1), .dead], [.var (.st 26 [(aK.enc a1), (.ref 1 [] 0), (.ref 2 [] 0), (aB.enc a2), (aB.enc p10.1), (j64 a4), (eB p6.2), (aH.enc r1.1)]), .var (.st 38 [(aE.enc a7), (aI.enc a8), (.ifc 91 (.ref 3 [] 0)), (eO 4 1 (eL 2 aD.enc) b4), (aB.enc a9), (.st 3 [(j64 a10.gG), (j64 r1.2.1), (j64 (I64 (a10.gE + 1)))])]), .var (.st 72 [(aS.enc r17.1), (eB ((aA.mk r16.1 p10.2.1.gA p10.2.1.gC p10.2.1.gB p10.2.1.gD).gA)), (k64 ((aA.mk r16.1 p10.2.1.gA p10.2.1.gC p10.2.1.gB p10.2.1.gD).gC)), (j64 ((aA.mk r16.1 p10.2.1.gA p10.2.1.gC p10.2.1.gB p10.2.1.gD).gB)), (j64 ((aA.mk r16.1 p10.2.1.gA p10.2.1.gC p10.2.1.gB p10.2.1.gD).gD))]), .var (aM.enc p10.2.2), .tail (b4.length * 1), .var (aV.enc r1.2.2.2.1), .dead], [.var (.st 26 [(aK.enc a1), (.ref 1 [] 0), (.ref 2 [] 0), (aB.enc a2), (aB.enc p10.1), (j64 a4), (eB p6.2), (aH.enc r1.1)]), .var (.st 38 [(aE.enc a7), (aI.enc a8), (.ifc 91 (.ref 3 [] 0)), (eO 4 1 (eL 2 aD.enc) b4), (aB.enc a9), (.st 3 [(j64 a10.gG), (j64 r1.2.1), (j64 (I64 (a10.gE + 1)))])]), .var (.st 72 [(aS.enc r16.1), (eB p10.2.1.gA), (k64 p10.2.1.gC), (j64 p10.2.1.gB), (j64 p10.2.1.gD)]), .var (aM.enc p10.2.2), .tail (b4.length * 1), .var (aV.enc r1.2.2.2.1), .dead], [.var (.st 26 [(aK.enc a1), (.ref 1 [] 0), (.ref 2 [] 0), (aB.enc a2), (aB.enc p10.1), (j64 a4), (eB p6.2), (aH.enc r1.1)]), .var (.st 38 [(aE.enc a7), (aI.enc a8), (.ifc 91 (.ref 3 [] 0)), (eO 4 1 (eL 2 aD.enc) b4), (aB.enc a9), (.st 3 [(j64 a10.gG), (j64 r1.2.1), (j64 (I64 (a10.gE + 1)))])]), .var (.st 72 [(aS.enc r17.1), (eB ((aA.mk r16.1 p10.2.1.gA p10.2.1.gC p10.2.1.gB p10.2.1.gD).gA)), (k64 ((aA.mk r16.1 p10.2.1.gA p10.2.1.gC p10.2.1.gB p10.2.1.gD).gC)), (j64 ((aA.mk r16.1 p10.2.1.gA p10.2.1.gC p10.2.1.gB p10.2.1.gD).gB)), (j64 ((aA.mk r16.1 p10.2.1.gA p10.2.1.gC p10.2.1.gB p10.2.1.gD).gD))]), .var (aM.enc p10.2.2), .tail (b4.length * 1), .var (aV.enc r1.2.2.2.1), .dead]] ⟨aW hT 6 (by kernel_rfl) (by kernel_rfl) (by kernel_rfl), aW hT 6 (by kernel_rfl) (by kernel_rfl) (by kernel_rfl), aW hT 6 (by kernel_rfl) (by kernel_rfl) (by kernel_rfl), aW hT 6 (by kernel_rfl) (by kernel_rfl) (by kernel_rfl), trivial⟩ dS0))) ?_
      refine bi fun r19 hr19 => ?_
      refine At.d 0 (dE1 7 (fun _ => cM hT (x := (.sl 3 2 [(aB.enc a2), (aB.enc r18.gC0)]))) (dE2 8 (aB.enc r19) (fun _ => aN (pS hr19)) dE0)) dF0 ?_
      refine At.b 3 (fun _ e => aL [0, 1, 2, 3, 4] (iS e)) fun r20 => ?_
      refine At.J 0 1 [0, 2, 4] 7 (fun p21 => ([], [(0, .var (.st 26 [(aK.enc a1), (.ref 1 [] 0), (.ref 2 [] 0), (aB.enc p21.1), (aB.enc p10.1), (j64 a4), (eB p21.2.1), (aH.enc r1.1)])), (2, .var (aA.enc p21.2.2))], [])) (fun p21 => ?_) fun p21 => ?_
      ·refine At.c 5 ?_ ?_
       ·refine bi fun r22 hr22 => ?_
        refine bi fun r23 hr23 => ?_
        refine At.d2 0 [false] (dC2 6 (.tup [(aB.enc r23.1), (eB r23.2)]) (fun _ => aN (wX hr23)) dC0) (dS1 5 ⟨(k32 r22.2), 2, .var (.st 72 [(aS.enc r22.1), (eB ((aA.mk r17.1 ((aA.mk r16.1 p10.2.1.gA p10.2.1.gC p10.2.1.gB p10.2.1.gD).gA) ((aA.mk r16.1 p10.2.1.gA p10.2.1.gC p10.2.1.gB p10.2.1.gD).gC) ((aA.mk r16.1 p10.2.1.gA p10.2.1.gC p10.2.1.gB p10.2.1.gD).gB) ((aA.mk r16.1 p10.2.1.gA p10.2.1.gC p10.2.1.gB p10.2.1.gD).gD)).gA)), (k64 ((aA.mk r17.1 ((aA.mk r16.1 p10.2.1.gA p10.2.1.gC p10.2.1.gB p10.2.1.gD).gA) ((aA.mk r16.1 p10.2.1.gA p10.2.1.gC p10.2.1.gB p10.2.1.gD).gC) ((aA.mk r16.1 p10.2.1.gA p10.2.1.gC p10.2.1.gB p10.2.1.gD).gB) ((aA.mk r16.1 p10.2.1.gA p10.2.1.gC p10.2.1.gB p10.2.1.gD).gD)).gC)), (j64 ((aA.mk r17.1 ((aA.mk r16.1 p10.2.1.gA p10.2.1.gC p10.2.1.gB p10.2.1.gD).gA) ((aA.mk r16.1 p10.2.1.gA p10.2.1.gC p10.2.1.gB p10.2.1.gD).gC) ((aA.mk r16.1 p10.2.1.gA p10.2.1.gC p10.2.1.gB p10.2.1.gD).gB) ((aA.mk r16.1 p10.2.1.gA p10.2.1.gC p10.2.1.gB p10.2.1.gD).gD)).gB)), (j64 ((aA.mk r17.1 ((aA.mk r16.1 p10.2.1.gA p10.2.1.gC p10.2.1.gB p10.2.1.gD).gA) ((aA.mk r16.1 p10.2.1.gA p10.2.1.gC p10.2.1.gB p10.2.1.gD).gC) ((aA.mk r16.1 p10.2.1.gA p10.2.1.gC p10.2.1.gB p10.2.1.gD).gB) ((aA.mk r16.1 p10.2.1.gA p10.2.1.gC p10.2.1.gB p10.2.1.gD).gD)).gD))]), .var (.st 72 [(aS.enc r17.1), (eB ((aA.mk r16.1 p10.2.1.gA p10.2.1.gC p10.2.1.gB p10.2.1.gD).gA)), (k64 ((aA.mk r16.1 p10.2.1.gA p10.2.1.gC p10.2.1.gB p10.2.1.gD).gC)), (j64 ((aA.mk r16.1 p10.2.1.gA p10.2.1.gC p10.2.1.gB p10.2.1.gD).gB)), (j64 ((aA.mk r16.1 p10.2.1.gA p10.2.1.gC p10.2.1.gB p10.2.1.gD).gD))])⟩ [[.var (.st 26 [(aK.enc a1), (.ref 1 [] 0), (.ref 2 [] 0), (aB.enc r19), (aB.enc p10.1), (j64 a4), (eB (cond p6.2 true r18.gB0)), (aH.enc r1.1)]), .var (.st 38 [(aE.enc a7), (aI.enc a8), (.ifc 91 (.ref 3 [] 0)), (eO 4 1 (eL 2 aD.enc) b4), (aB.enc a9), (.st 3 [(j64 a10.gG), (j64 r1.2.1), (j64 (I64 (a10.gE + 1)))])]), .var (.st 72 [(aS.enc r17.1), (eB ((aA.mk r16.1 p10.2.1.gA p10.2.1.gC p10.2.1.gB p10.2.1.gD).gA)), (k64 ((aA.mk r16.1 p10.2.1.gA p10.2.1.gC p10.2.1.gB p10.2.1.gD).gC)), (j64 ((aA.mk r16.1 p10.2.1.gA p10.2.1.gC p10.2.1.gB p10.2.1.gD).gB)), (j64 ((aA.mk r16.1 p10.2.1.gA p10.2.1.gC p10.2.1.gB p10.2.1.gD).gD))]), .var (aM.enc p10.2.2), .tail (b4.length * 1), .var (aV.enc r1.2.2.2.1), .var (cI.enc r18), .dead], [.var (.st 26 [(aK.enc a1), (.ref 1 [] 0), (.ref 2 [] 0), (aB.enc r19), (aB.enc p10.1), (j64 a4), (eB (cond p6.2 true r18.gB0)), (aH.enc r1.1)]), .var (.st 38 [(aE.enc a7), (aI.enc a8), (.ifc 91 (.ref 3 [] 0)), (eO 4 1 (eL 2 aD.enc) b4), (aB.enc a9), (.st 3 [(j64 a10.gG), (j64 r1.2.1), (j64 (I64 (a10.gE + 1)))])]), .var (.st 72 [(aS.enc r17.1), (eB ((aA.mk r16.1 p10.2.1.gA p10.2.1.gC p10.2.1.gB p10.2.1.gD).gA)), (k64 ((aA.mk r16.1 p10.2.1.gA p10.2.1.gC p10.2.1.gB p10.2.1.gD).gC)), (j64 ((aA.mk r16.1 p10.2.1.gA p10.2.1.gC p10.2.1.gB p10.2.1.gD).gB)), (j64 ((aA.mk r16.1 p10.2.1.gA p10.2.1.gC p10.2.1.gB p10.2.1.gD).gD))]), .var (aM.enc p10.2.2), .tail (b4.length * 1), .var (aV.enc r1.2.2.2.1), .var (cI.enc r18), .var (.st 3 [(j64 0), (j64 0), (j64 0)])]] ⟨bO (aL [0, 1, 2, 3, 4] (cQ hr22)), bO (aL [0, 1, 2, 3, 4] (cQ hr22)), trivial⟩ (dS1 10 ⟨(.ref 7 [] 0), 7, .var (.st 3 [(j64 0), (j64 0), (j64 0)]), .dead⟩ [[.var (.st 26 [(aK.enc a1), (.ref 1 [] 0), (.ref 2 [] 0), (aB.enc r19), (aB.enc p10.1), (j64 a4), (eB (cond p6.2 true r18.gB0)), (aH.enc r1.1)]), .var (.st 38 [(aE.enc a7), (aI.enc a8), (.ifc 91 (.ref 3 [] 0)), (eO 4 1 (eL 2 aD.enc) b4), (aB.enc a9), (.st 3 [(j64 a10.gG), (j64 r1.2.1), (j64 (I64 (a10.gE + 1)))])]), .var (.st 72 [(aS.enc r17.1), (eB ((aA.mk r16.1 p10.2.1.gA p10.2.1.gC p10.2.1.gB p10.2.1.gD).gA)), (k64 ((aA.mk r16.1 p10.2.1.gA p10.2.1.gC p10.2.1.gB p10.2.1.gD).gC)), (j64 ((aA.mk r16.1 p10.2.1.gA p10.2.1.gC p10.2.1.gB p10.2.1.gD).gB)), (j64 ((aA.mk r16.1 p10.2.1.gA p10.2.1.gC p10.2.1.gB p10.2.1.gD).gD))]), .var (aM.enc p10.2.2), .tail (b4.length * 1), .var (aV.enc r1.2.2.2.1), .var (cI.enc r18), .dead], [.var (.st 26 [(aK.enc a1), (.ref 1 [] 0), (.ref 2 [] 0), (aB.enc r19), (aB.enc p10.1), (j64 a4), (eB (cond p6.2 true r18.gB0)), (aH.enc r1.1)]), .var (.st 38 [(aE.enc a7), (aI.enc a8), (.ifc 91 (.ref 3 [] 0)), (eO 4 1 (eL 2 aD.enc) b4), (aB.enc a9), (.st 3 [(j64 a10.gG), (j64 r1.2.1), (j64 (I64 (a10.gE + 1)))])]), .var (.st 72 [(aS.enc r22.1), (eB ((aA.mk r17.1 ((aA.mk r16.1 p10.2.1.gA p10.2.1.gC p10.2.1.gB p10.2.1.gD).gA) ((aA.mk r16.1 p10.2.1.gA p10.2.1.gC p10.2.1.gB p10.2.1.gD).gC) ((aA.mk r16.1 p10.2.1.gA p10.2.1.gC p10.2.1.gB p10.2.1.gD).gB) ((aA.mk r16.1 p10.2.1.gA p10.2.1.gC p10.2.1.gB p10.2.1.gD).gD)).gA)), (k64 ((aA.mk r17.1 ((aA.mk r16.1 p10.2.1.gA p10.2.1.gC p10.2.1.gB p10.2.1.gD).gA) ((aA.mk r16.1 p10.2.1.gA p10.2.1.gC p10.2.1.gB p10.2.1.gD).gC) ((aA.mk r16.1 p10.2.1.gA p10.2.1.gC p10.2.1.gB p10.2.1.gD).gB) ((aA.mk r16.1 p10.2.1.gA p10.2.1.gC p10.2.1.gB p10.2.1.gD).gD)).gC)), (j64 ((aA.mk r17.1 ((aA.mk r16.1 p10.2.1.gA p10.2.1.gC p10.2.1.gB p10.2.1.gD).gA) ((aA.mk r16.1 p10.2.1.gA p10.2.1.gC p10.2.1.gB p10.2.1.gD).gC) ((aA.mk r16.1 p10.2.1.gA p10.2.1.gC p10.2.1.gB p10.2.1.gD).gB) ((aA.mk r16.1 p10.2.1.gA p10.2.1.gC p10.2.1.gB p10.2.1.gD).gD)).gB)), (j64 ((aA.mk r17.1 ((aA.mk r16.1 p10.2.1.gA p10.2.1.gC p10.2.1.gB p10.2.1.gD).gA) ((aA.mk r16.1 p10.2.1.gA p10.2.1.gC p10.2.1.gB p10.2.1.gD).gC) ((aA.mk r16.1 p10.2.1.gA p10.2.1.gC p10.2.1.gB p10.2.1.gD).gB) ((aA.mk r16.1 p10.2.1.gA p10.2.1.gC p10.2.1.gB p10.2.1.gD).gD)).gD))]), .var (aM.enc p10.2.2), .tail (b4.length * 1), .var (aV.enc r1.2.2.2.1), .var (cI.enc r18), .dead]] ⟨aW hT 7 (by kernel_rfl) (by kernel_rfl) (by kernel_rfl), aW hT 7 (by kernel_rfl) (by kernel_rfl) (by kernel_rfl), trivial⟩ dS0)) ?_
        refine At.b 8 (fun _ e => aL [0, 1, 2, 3, 4] (iS e)) fun r24 => ?_
        apply rt; exact At.jn 0
       ·apply rt; exact At.jn 0
      ·apply rt; exact At.z 11

def mB (N : Nat) (b2 : (List (List aD))) (a4 : aE) (a5 : aI) (a6 : aB) (a7 : aF) (a8 : aM) : Nat → aA → (Vector Int 4) → Int → Option (aA × (Vector Int 4))
 | 0, _, _, _ => none
 | k + 1, s9, s10, s11 =>
  cond (decide (s11 < 4)) (
   Option.bind (eP N b2 s11 (aK.mk (aC.mk 0 0 0) (aC.mk 0 0 0) 0) (aB.mk 4294967296 4294967296 4294967296) (aB.mk 0 0 0) 0 false (aH.mk (aB.mk 0 0 0) 0 0 (aB.mk 0 0 0) (-1)) a4 a5 a6 a7 s9 a8) fun r12 =>
   Option.bind (eK s11 4) fun _ =>
   Option.bind (s10.toList[s11.toNat]?) fun e14 =>
   mB N b2 a4 a5 a6 a7 a8 k (aA.mk r12.1 s9.gA s9.gC s9.gB s9.gD) (s10.setIfInBounds s11.toNat r12.2) (I64 (s11 + 1))) (
   some ((s9, s10)))

def mC (N : Nat) (a5 : aI) (b2 : (List (List aD))) (a4 : aE) (a6 : aB) : Nat → aF → aM → aA → aK → aB → aB → Int → Bool → aH → Option (aF × aM × aA × aK × aB × aB × Int × Bool × aH)
 | 0, _, _, _, _, _, _, _, _, _ => none
 | k + 1, s17, s18, s19, s20, s21, s22, s23, s24, s25 =>
  Option.bind (aR (decide (s23 ≤ a5.gJ)) fun x27 =>
  cond x27 (
   cond (!s24) (
    some true) (
    some a5.gT)) (
   some false)) fun p26 =>
  cond p26 (
   Option.bind (sQ N b2 s20 s21 s22 s23 s24 s25 a4 a5 a6 s17 s19 s18) fun r28 =>
   mC N a5 b2 a4 a6 k (aF.mk s17.gG r28.2.2.2.2.2.1 (I64 (s17.gE + 1))) r28.2.2.2.2.2.2.2 r28.2.2.2.2.2.2.1 r28.1 r28.2.1 r28.2.2.1 (I64 (s23 + 1)) r28.2.2.2.1 r28.2.2.2.2.1) (
   some ((s17, s18, s19, s20, s21, s22, s23, s24, s25)))

def oI (N : Nat) (b2 : (List (List aD))) (a1 : Int) (a2 : Int) (a3 : Int) (a4 : aE) (a5 : aI) (a6 : aB) (a7 : aF) (a8 : aM) : Option (aF × aM × aH × Int) :=
 aR (cond (decide (a1 < 0)) true (decide (a1 ≥ a5.gW))) fun x1 =>
 aR (cond x1 true (decide (a2 < 0))) fun x2 =>
 aR (cond x2 true (decide (a2 ≥ a5.gH))) fun x3 =>
 aR (cond x3 true (decide (a3 < 0))) fun x4 =>
 aR (decide (a3 ≥ a5.gS)) fun x5 =>
 cond (cond x4 true x5) (
  some ((a7, a8, aH.mk (aB.mk 0 0 0) 0 0 (aB.mk 0 0 0) 0, 2))) (
  aR (I64 ((I64 (a2 * a5.gW)) + a1)) fun x6 =>
  Option.bind (uR N a5.gA4 x6 a3) fun r7 =>
  Option.bind (mB N b2 a4 a5 a6 a7 a8 N (aA.mk (aS.mk (bS.mk 0 0 0) false (Vector.replicate 64 0)) true a5.gA4 x6 a3) (#v[0, 0, 0, 0]) 0) fun p8 =>
  Option.bind (tZ N a5.gA5 a5.gW a5.gH a1 a2 p8.2) fun r15 =>
  Option.bind (mC N a5 b2 a4 a6 N a7 a8 p8.1 (aK.mk r15.1 r15.2.1 (-1)) (aB.mk 4294967296 4294967296 4294967296) (aB.mk 0 0 0) 0 false (aH.mk (aB.mk 0 0 0) 0 0 (aB.mk 0 0 0) (-1))) fun p16 =>
  some ((p16.1, p16.2.1, aH.mk p16.2.2.2.2.2.1 p16.2.2.2.2.2.2.2.2.gC8 p16.2.2.2.2.2.2.2.2.gJ p16.2.2.2.2.2.2.2.2.gC9 p16.2.2.2.2.2.2.2.2.gB3, 0)))

theorem yT {N b2 a1 a2 a3 a4 a5 a6 a7 a8 r} (h : oI N b2 a1 a2 a3 a4 a5 a6 a7 a8 = some r) : FnM Tryz.prog 13 [.var (.st 38 [(aE.enc a4), (aI.enc a5), (.ifc 91 (.ref 1 [] 0)), (eO 2 1 (eL 2 aD.enc) b2), (aB.enc a6), (aF.enc a7)]), .var (aM.enc a8), .tail (b2.length * 1)] [(.ref 0 [] 0), (j64 a1), (j64 a2), (j64 a3)] (.tup [(aH.enc r.2.2.1), (j64 r.2.2.2)]) [.var (.st 38 [(aE.enc a4), (aI.enc a5), (.ifc 91 (.ref 1 [] 0)), (eO 2 1 (eL 2 aD.enc) b2), (aB.enc a6), (aF.enc r.1)]), .var (aM.enc r.2.1), .tail (b2.length * 1)] := by
 unfold oI at h
 refine At.f cU hT hmo Tryz.func13 rfl h ?_
 refine At.o 3 (kR hT (t := 40) (x := (.ref 0 [] 0)) (b := true) (by kernel_rfl) rfl rfl (by kernel_rfl)) ?_
 refine At.g [16] 5 ?_
 refine At.o 0 (aHg (t := 75) (u := 91) (x := (.ref 1 [] 0)) (by kernel_rfl) rfl rfl .eql false (by decide) (by kernel_rfl)) ?_
 refine lx ?_; intro x1
 refine lx ?_; intro x2
 refine lx ?_; intro x3
 refine lx ?_; intro x4
 refine lx ?_; intro x5
 refine At.g [16] 41 ?_
 refine At.c 0 ?_ ?_
 ·apply rt; exact At.r 3
 ·refine lx ?_; intro x6
  refine bi fun r7 hr7 => ?_
  refine At.d 0 dE0 (dF 16 (.ref 4 [] 0) [] [.var (.st 72 [cv_5, (eB true), (k64 a5.gA4), (j64 x6), (j64 a3)])] (bO (aL [] (aCB hr7))) dF0) ?_
  refine At.L 2 [0, 1, 2, 8, 10, 11] 7 (fun p8 => ([], [(4, .var (aA.enc p8.1)), (6, .var (eA 4 1 k32 p8.2))], [])) (fun p8 J k => ∃ s9 s10 s11, mB N b2 a4 a5 a6 a7 a8 k s9 s10 s11 = some p8 ∧ J [0, 1, 2, 8, 10, 11] 7 [(84, (j64 s11))] [(4, .var (aA.enc s9)), (6, .var (eA 4 1 k32 s10))] []) N (fun _ h => ⟨_, _, _, h, jr⟩) (fun p8 k s hI => ?_) fun p8 => ?_
  ·obtain ⟨s9, s10, s11, h, hj⟩ := hI
   cases k with
   | zero => cases h
   | succ k =>
    refine At.jr hj ?_ h
    refine At.c 1 ?_ ?_
    ·refine At.b 5 (fun _ e => aL [5, 0, 4, 1, 2] (cQ e)) fun r12 => ?_
     refine At.b 0 (fun _ e => bD hT (k := 1) 6 [] 0 e) fun u13 => ?_
     refine At.b 0 (fun _ e => nB hT k32 0 s10 e r12.2 (by kernel_rfl) (by kernel_rfl) (H' := [.var (.st 38 [(aE.enc a4), (aI.enc a5), (.ifc 91 (.ref 1 [] 0)), (eO 2 1 (eL 2 aD.enc) b2), (aB.enc a6), (aF.enc a7)]), .var (aM.enc a8), .tail (b2.length * 1), .var cv_6, .var (.st 72 [(aS.enc r12.1), (eB s9.gA), (k64 s9.gC), (j64 s9.gB), (j64 s9.gD)]), .var cv_7, .var (eA 4 1 k32 (s10.setIfInBounds s11.toNat r12.2))])) fun e14 => ?_
     exact fun h => At.k 2 ⟨_, _, _, h, jr⟩
    ·apply rt; exact At.x 0
  ·refine bi fun r15 hr15 => ?_
   refine At.d 5 (dE2 20 (.tup [(aC.enc r15.1), (aC.enc r15.2.1), (j64 r15.2.2)]) (fun _ => aN (aEA hr15)) dE0) dF0 ?_
   refine At.L 0 [8, 10] 7 (fun p16 => ([], [(0, .var (.st 38 [(aE.enc a4), (aI.enc a5), (.ifc 91 (.ref 1 [] 0)), (eO 2 1 (eL 2 aD.enc) b2), (aB.enc a6), (aF.enc p16.1)])), (1, .var (aM.enc p16.2.1)), (4, .var (aA.enc p16.2.2.1)), (5, .var (.st 26 [(aK.enc p16.2.2.2.1), (.ref 0 [] 0), (.ref 4 [] 0), (aB.enc p16.2.2.2.2.1), (aB.enc p16.2.2.2.2.2.1), (j64 p16.2.2.2.2.2.2.1), (eB p16.2.2.2.2.2.2.2.1), (aH.enc p16.2.2.2.2.2.2.2.2)]))], [])) (fun p16 J k => ∃ s17 s18 s19 s20 s21 s22 s23 s24 s25, mC N a5 b2 a4 a6 k s17 s18 s19 s20 s21 s22 s23 s24 s25 = some p16 ∧ J [0, 8, 10] 7 [] [(0, .var (.st 38 [(aE.enc a4), (aI.enc a5), (.ifc 91 (.ref 1 [] 0)), (eO 2 1 (eL 2 aD.enc) b2), (aB.enc a6), (aF.enc s17)])), (1, .var (aM.enc s18)), (4, .var (aA.enc s19)), (5, .var (.st 26 [(aK.enc s20), (.ref 0 [] 0), (.ref 4 [] 0), (aB.enc s21), (aB.enc s22), (j64 s23), (eB s24), (aH.enc s25)]))] []) N (fun _ h => ⟨_, _, _, _, _, _, _, _, _, h, jr⟩) (fun p16 k s hI => ?_) fun p16 => ?_
   ·obtain ⟨s17, s18, s19, s20, s21, s22, s23, s24, s25, h, hj⟩ := hI
    cases k with
    | zero => cases h
    | succ k =>
     refine At.jr hj ?_ h
     refine At.J 0 0 [0, 8, 10] 7 (fun p26 => ([(151, (eB p26))], [], [])) (fun p26 => ?_) fun p26 => ?_
     ·refine lx ?_; intro x27
      refine boI (fun hc10 => ?_) (fun hc10 => ?_)
      ·refine boI (fun hc16 => ?_) (fun hc16 => ?_)
       ·refine At.d 0 (dE1 10 (fun _ => cT hc10 rfl (cN hT (im := false) (by kernel_rfl))) (dE1 16 (fun _ => cT hc16 rfl (cN hT (im := false) (by kernel_rfl))) dE0)) dF0 ?_
        apply rt; exact At.jn 0
       ·refine At.d 0 (dE1 10 (fun _ => cT hc10 rfl (cN hT (im := false) (by kernel_rfl))) (dE1 16 (fun _ => cT hc16 rfl (cN hT (im := false) (by kernel_rfl))) dE0)) dF0 ?_
        apply rt; exact At.jn 0
      ·refine At.d 0 (dE1 10 (fun _ => cT hc10 rfl (cN hT (im := false) (by kernel_rfl))) dE0) dF0 ?_
       apply rt; exact At.jn 0
     ·refine At.c 0 ?_ ?_
      ·refine At.b 1 (fun _ e => aL [5, 0, 4, 1, 2] (aA8 e)) fun r28 => ?_
       exact fun h => At.k 8 ⟨_, _, _, _, _, _, _, _, _, h, jr⟩
      ·apply rt; exact At.x 0
   ·apply rt; exact At.r 15


def bL (N : Nat) : Option (Bool) :=
 Option.bind (Option.bind (tR N ) fun r2 =>
 Option.bind (iP N (aE.mk [] [] [] [] [] [] 0 0 0) r2) fun q =>
 jU q (fun r3 =>
  none) (fun q =>
 jU q (fun r4 =>
  none) (fun q =>
 jU q (fun r5 =>
  none) (fun q =>
 jU q (fun r6 =>
  none) (fun r7 =>
  some ((r7.1, r7.2.1, r7.2.2.1, r7.2.2.2.1, r2, r7.2.2.2.2.1, r7.2.2.2.2.2.1, r7.2.2.2.2.2.2.1, r7.2.2.2.2.2.2.2))))))) fun p1 =>
 Option.bind (oI N p1.2.2.2.1 0 0 0 (aE.mk p1.1 p1.2.1 ((aE.mk [] [] [] [] [] [] 0 0 0).gR) p1.2.2.1 ((aE.mk [] [] [] [] [] [] 0 0 0).gA7) ((aE.mk [] [] [] [] [] [] 0 0 0).gA8) ((aE.mk [] [] [] [] [] [] 0 0 0).gB4) ((aE.mk [] [] [] [] [] [] 0 0 0).gB5) ((aE.mk [] [] [] [] [] [] 0 0 0).gTo)) p1.2.2.2.2.1 p1.2.2.2.2.2.1 (aF.mk 0 0 0) p1.2.2.2.2.2.2.2.1) fun r8 =>
 Option.bind (aR (p1.2.2.2.2.2.2.2.2 == 0) fun x10 =>
 aR (cond x10 (r8.2.2.2 == 0) false) fun x11 =>
 cond x11 (
  aR (aH.eq r8.2.2.1 (aH.mk (aB.mk 0 0 0) 0 0 (aB.mk 0 0 0) (-1))) fun x12 =>
  some x12) (
  some false)) fun p9 =>
 some p9

theorem cK {N r} (h : bL N = some r) : FnM Tryz.prog 12 [] [] (eB r) [] := by
 unfold bL at h
 refine At.f cU hT hmo Tryz.func12 rfl h ?_
 refine At.J 1 0 [] 0 (fun p1 => ([(1, (.ref 0 [] 0)), (2, (j64 p1.2.2.2.2.2.2.2.2))], [], [.var (.st 38 [(.st 9 [(eO 1 19 aG.enc p1.1), (eO 2 5 aQ.enc p1.2.1), (eL 2 aD.enc ((aE.mk [] [] [] [] [] [] 0 0 0).gR)), (eO 3 13 aP.enc p1.2.2.1), (eL 1 k64 ((aE.mk [] [] [] [] [] [] 0 0 0).gA7)), (eL 1 k32 ((aE.mk [] [] [] [] [] [] 0 0 0).gA8)), (k32 ((aE.mk [] [] [] [] [] [] 0 0 0).gB4)), (k32 ((aE.mk [] [] [] [] [] [] 0 0 0).gB5)), (k32 ((aE.mk [] [] [] [] [] [] 0 0 0).gTo))]), (aI.enc p1.2.2.2.2.1), (.ifc 91 (.ref 6 [] 0)), (eO 4 1 (eL 2 aD.enc) p1.2.2.2.1), (aB.enc p1.2.2.2.2.2.1), (.st 3 [(j64 0), (j64 0), (j64 0)])]), .tail (p1.1.length * 19), .tail (p1.2.1.length * 5), .tail (p1.2.2.1.length * 13), .tail (p1.2.2.2.1.length * 1), .var (bI.enc p1.2.2.2.2.2.2.1), .var (aM.enc p1.2.2.2.2.2.2.2.1)])) (fun p1 => ?_) fun p1 => ?_
 ·refine At.b 1 (fun _ e => aL [] (aB3 e)) fun r2 => ?_
  refine aKW (fun r3 hr3 => ?_) (fun q hq => ?_)
  ·exact nn
  ·refine aCK (fun r4 e => ?_) (fun q e => ?_)
   ·subst e
    have hr4 := hq
    exact nn
   ·subst e
    have hq := hq
    refine aCK (fun r5 e => ?_) (fun q e => ?_)
    ·subst e
     have hr5 := hq
     exact nn
    ·subst e
     have hq := hq
     refine aCK (fun r6 e => ?_) (fun r7 e => ?_)
     ·subst e
      have hr6 := hq
      exact nn
     ·subst e
      have hr7 := hq
      refine At.o 0 (aL [] (aFa hr7)) ?_
      apply rt; exact At.jn 5
 ·refine At.b 1 (fun _ e => aL [0, 6, 4] (yT e)) fun r8 => ?_
  refine At.J 6 0 [] 8 (fun p9 => ([(0, (eB p9))], [], [])) (fun p9 => ?_) fun p9 => ?_
  ·refine lx ?_; intro x10
   refine lx ?_; intro x11
   refine At.s 22 7 ?_ ?_
   ·refine At.g [22] 2 ?_
    refine At.o 0 (aEj aQd (r8.2.2.1 : aH) (aH.mk (aB.mk 0 0 0) 0 0 (aB.mk 0 0 0) (-1) : aH) (by kernel_rfl) (by kernel_rfl) (fun _ => rfl) (fun _ => rfl) (by kernel_rfl) (by kernel_rfl)) ?_
    refine lx ?_; intro x12
    refine At.g [22] 2 ?_
    apply rt; exact At.jn 0
   ·refine At.g [22] 5 ?_
    apply rt; exact At.jn 0
  ·apply rt; exact At.r 0

def aIB : Nat → Bool := imL [1]

def xL (N : Nat) (a0 : aI) : Option (aF) :=
 Option.bind (nZ N a0) fun r1 =>
 cond (r1 != 0) (
  some (aF.mk 0 0 0)) (
  Option.bind (fX N a0.gI) fun r2 =>
  aR (I64 ((I64 (a0.gW * a0.gH)) * a0.gS)) fun x3 =>
  aR (I64 (x3 * (I64 (a0.gJ + 1)))) fun x4 =>
  aR (I64 ((I64 (x4 * r2.1)) * (I64 (1 + r2.2)))) fun x5 =>
  some (aF.mk ((I64 ((I64 (x4 * r2.1)) * (I64 (1 + r2.2))))) (I64 (4 * x4)) x4))

theorem aGL {N a0 r} (h : xL N a0 = some r) : FnM Tryz.prog 19 [] [(aI.enc a0)] (aF.enc r) [] := by
 unfold xL at h
 refine At.f aIB hT hmo Tryz.func19 rfl h ?_
 refine At.b 3 (fun _ e => aL [] (aDH e)) fun r1 => ?_
 refine At.c 1 ?_ ?_
 ·apply rt; exact At.r 2
 ·refine At.b 2 (fun _ e => aL [] (pI e)) fun r2 => ?_
  refine lx ?_; intro x3
  refine lx ?_; intro x4
  refine lx ?_; intro x5
  apply rt; exact At.r 29

def iR (N : Nat) (a0 : aI) : Option (aF) :=
 Option.bind (xL N (aI.mk 1 1 1 a0.gJ a0.gI a0.gA4 a0.gA5 a0.gT)) fun r1 =>
 some r1

theorem qR {N a0 r} (h : iR N a0 = some r) : FnM Tryz.prog 23 [] [(aI.enc a0)] (aF.enc r) [] := by
 unfold iR at h
 refine At.f cU hT hmo Tryz.func23 rfl h ?_
 refine At.b 9 (fun _ e => aL [] (aGL e)) fun r1 => ?_
 apply rt; exact At.r 1

def cV (N : Nat) (b4 : (List (List aD))) (a1 : Int) (a2 : aK) (a3 : aB) (a4 : aB) (a5 : Int) (a6 : Bool) (a7 : aH) (a8 : aE) (a9 : aI) (a10 : aB) (a11 : aF) (a12 : aA) (a13 : aJ) : Option (aS × Int) :=
 Option.bind (eZ N a5 a1 a12) fun r1 =>
 some ((r1.1, r1.2))

theorem cC {N b4 a1 a2 a3 a4 a5 a6 a7 a8 a9 a10 a11 a12 a13 r} (h : cV N b4 a1 a2 a3 a4 a5 a6 a7 a8 a9 a10 a11 a12 a13 = some r) : FnM Tryz.prog 32 [.var (.st 26 [(aK.enc a2), (.ref 1 [] 0), (.ref 2 [] 0), (aB.enc a3), (aB.enc a4), (j64 a5), (eB a6), (aH.enc a7)]), .var (.st 38 [(aE.enc a8), (aI.enc a9), (.ifc 88 (.ref 3 [] 0)), (eO 4 1 (eL 2 aD.enc) b4), (aB.enc a10), (aF.enc a11)]), .var (aA.enc a12), .var (aJ.enc a13), .tail (b4.length * 1)] [(.ref 0 [] 0), (j64 a1)] (k32 r.2) [.var (.st 26 [(aK.enc a2), (.ref 1 [] 0), (.ref 2 [] 0), (aB.enc a3), (aB.enc a4), (j64 a5), (eB a6), (aH.enc a7)]), .var (.st 38 [(aE.enc a8), (aI.enc a9), (.ifc 88 (.ref 3 [] 0)), (eO 4 1 (eL 2 aD.enc) b4), (aB.enc a10), (aF.enc a11)]), .var (.st 72 [(aS.enc r.1), (eB a12.gA), (k64 a12.gC), (j64 a12.gB), (j64 a12.gD)]), .var (aJ.enc a13), .tail (b4.length * 1)] := by
 unfold cV at h
 refine At.f cU hT hmo Tryz.func32 rfl h ?_
 refine bi fun r1 hr1 => ?_
 refine At.d 1 dE0 (dF 9 (k32 r1.2) [(2, .var (.st 72 [(aS.enc r1.1), (eB a12.gA), (k64 a12.gC), (j64 a12.gB), (j64 a12.gD)]))] [] (bO (aL [2] (sP hr1))) dF0) ?_
 apply rt; exact At.r 0

def fV (N : Nat) (a0 : aJ) : Option (Bool) :=
 some (!a0.gA)

theorem qP {N a0 r} (h : fV N a0 = some r) : FnM Tryz.prog 293 [.var (aJ.enc a0)] [(.ref 0 [] 0)] (eB r) [.var (aJ.enc a0)] := by
 unfold fV at h
 refine At.f cU hT hmo Tryz.func293 rfl h ?_
 refine At.o 2 (kR hT (t := 88) (x := (.ref 0 [] 0)) (b := true) (by kernel_rfl) rfl rfl (by kernel_rfl)) ?_
 refine At.g [5] 8 ?_
 apply rt; exact At.r 0

def nU (N : Nat) (a0 : aJ) : Option (Unit) :=
 some (())

theorem aA5 {N a0 r} (h : nU N a0 = some r) : FnM Tryz.prog 292 [.var (aJ.enc a0)] [(.ref 0 [0] 0)] (.tup []) [.var (.st 3 [(.st 1 [(j64 (I64 (a0.gD0.gn + 1)))]), (eB a0.gA), (eL 19 aG.enc a0.gl)])] := by
 unfold nU at h
 refine At.f cU hT hmo Tryz.func292 rfl h ?_
 apply rt; exact At.z 8

def yA : Nat → Bool := imL [7, 8]

def dH (N : Nat) (a0 : aC) (a1 : aC) (a2 : Int) (a3 : Int) (a4 : Int) (a5 : aJ) : Option (aT × Bool) :=
 Option.bind (nU N a5) fun r1 =>
 Option.bind (idx a5.gl a4) fun e2 =>
 Option.bind (xT N a0 a1 e2.gP) fun r3 =>
 Option.bind (cond r3.2 (
  Option.bind (idx a5.gl a4) fun e5 =>
  aR ((iA .u8 e5.gC5 a2) != 0) fun x6 =>
  cond x6 (
   some (a4 != a3)) (
   some false)) (
  some false)) fun p4 =>
 some ((r3.1, p4))

theorem qT {N a0 a1 a2 a3 a4 a5 r} (h : dH N a0 a1 a2 a3 a4 a5 = some r) : FnM Tryz.prog 294 [.var (aJ.enc a5)] [(.ref 0 [] 0), (aC.enc a0), (aC.enc a1), (k8 a2), (j64 a3), (j64 a4)] (.tup [(aT.enc r.1), (eB r.2)]) [.var (.st 3 [(.st 1 [(j64 (I64 (a5.gD0.gn + 1)))]), (eB a5.gA), (eL 19 aG.enc a5.gl)])] := by
 unfold dH at h
 refine At.f yA hT hmo Tryz.func294 rfl h ?_
 refine At.b 7 (fun _ e => aL [0] (aA5 e)) fun r1 => ?_
 refine bi fun e2 he2 => ?_
 refine bi fun r3 hr3 => ?_
 refine At.d 0 (dE1 7 (fun _ => cA hT aG.enc he2) (dE2 10 (.tup [(aT.enc r3.1), (eB r3.2)]) (fun _ => aN (aFX hr3)) dE0)) dF0 ?_
 refine At.J 0 0 [12] 3 (fun p4 => ([(13, (eB p4))], [(1, .var (aT.enc r3.1))], [])) (fun p4 => ?_) fun p4 => ?_
 ·refine boI (fun hc2 => ?_) (fun hc2 => ?_)
  ·refine bi fun e5 he5 => ?_
   refine lx ?_; intro x6
   refine boI (fun hc15 => ?_) (fun hc15 => ?_)
   ·refine At.d 0 (dE1 2 (fun _ => cT hc2 rfl (cN hT (im := false) (by kernel_rfl))) (dE1 8 (fun _ => cA hT aG.enc he5) (dE1 15 (fun _ => cT hc15 rfl (cN hT (im := false) (by kernel_rfl))) dE0))) dF0 ?_
    apply rt; exact At.jn 0
   ·refine At.d 0 (dE1 2 (fun _ => cT hc2 rfl (cN hT (im := false) (by kernel_rfl))) (dE1 8 (fun _ => cA hT aG.enc he5) (dE1 15 (fun _ => cT hc15 rfl (cN hT (im := false) (by kernel_rfl))) dE0))) dF0 ?_
    apply rt; exact At.jn 0
  ·refine At.d 0 (dE1 2 (fun _ => cT hc2 rfl (cN hT (im := false) (by kernel_rfl))) dE0) dF0 ?_
   apply rt; exact At.jn 0
 ·apply rt; exact At.r 0

def xC : Nat → Bool := imL [6, 7]

def dG (N : Nat) (a4 : aJ) (a0 : aC) (a1 : aC) (a2 : Int) (a3 : Int) : Nat → aJ → aT → Int → Int → Option (aJ × aT × Int)
 | 0, _, _, _, _ => none
 | k + 1, s3, s4, s5, s6 =>
  aR (decide (s6 < ((a4.gl.length : Int)))) fun x7 =>
  cond x7 (
   Option.bind (Option.bind (dH N a0 a1 a2 a3 s6 s3) fun r9 =>
   Option.bind (cond (decide (s5 < 0)) (
    some true) (
    Option.bind (tN N r9.1 s4) fun r11 =>
    some r11)) fun p10 =>
   cond (cond r9.2 p10 false) (some ((r9.1, r9.1, s6))) (some ((s4, r9.1, s5)))) fun p8 =>
   dG N a4 a0 a1 a2 a3 k (aJ.mk (iW.mk (I64 (s3.gD0.gn + 1))) s3.gA s3.gl) p8.1 p8.2.2 (I64 (s6 + 1))) (
   some ((s3, s4, s5)))

def fN (N : Nat) (a0 : aC) (a1 : aC) (a2 : Int) (a3 : Int) (a4 : aJ) : Option (aJ × Int × aT) :=
 Option.bind (fV N a4) fun r1 =>
 cond r1 (
  some ((a4, -1, aT.mk 0 0 0 0))) (
  Option.bind (dG N a4 a0 a1 a2 a3 N a4 (aT.mk 0 0 0 0) (-1) 0) fun p2 =>
  some ((p2.1, p2.2.2, p2.2.1)))

theorem qD {N a0 a1 a2 a3 a4 r} (h : fN N a0 a1 a2 a3 a4 = some r) : FnM Tryz.prog 290 [.var (aJ.enc a4)] [(.ref 0 [] 0), (aC.enc a0), (aC.enc a1), (k8 a2), (j64 a3)] (.tup [(j64 r.2.1), (aT.enc r.2.2)]) [.var (aJ.enc r.1)] := by
 unfold fN at h
 refine At.f xC hT hmo Tryz.func290 rfl h ?_
 refine At.b 6 (fun _ e => aL [0] (qP e)) fun r1 => ?_
 refine At.c 0 ?_ ?_
 ·refine At.d 0 dE0 dF0 ?_
  apply rt; exact At.r 0
 ·refine At.L 6 [11] 2 (fun p2 => ([(10, (j64 p2.2.2))], [(0, .var (aJ.enc p2.1)), (1, .var (aT.enc p2.2.1))], [])) (fun p2 J k => ∃ s3 s4 s5 s6, dG N a4 a0 a1 a2 a3 k s3 s4 s5 s6 = some p2 ∧ J [0, 3, 4, 6, 7, 11, 24] 2 [(10, (j64 s5)), (25, (j64 s6))] [(0, .var (aJ.enc s3)), (1, .var (aT.enc s4))] []) N (fun _ h => ⟨_, _, _, _, h, jr⟩) (fun p2 k s hI => ?_) fun p2 => ?_
  ·obtain ⟨s3, s4, s5, s6, h, hj⟩ := hI
   cases k with
   | zero => cases h
   | succ k =>
    refine At.jr hj ?_ h
    refine lx ?_; intro x7
    refine At.c 1 ?_ ?_
    ·refine At.J 0 2 [0, 3, 4, 6, 7, 11, 24, 25] 2 (fun p8 => ([(10, (j64 p8.2.2))], [(0, .var (.st 3 [(.st 1 [(j64 (I64 (s3.gD0.gn + 1)))]), (eB s3.gA), (eL 19 aG.enc s3.gl)])), (1, .var (aT.enc p8.1))], [.var (aT.enc p8.2.1)])) (fun p8 => ?_) fun p8 => ?_
     ·refine At.b 8 (fun _ e => aL [0] (qT e)) fun r9 => ?_
      refine At.J 6 0 [0, 3, 4, 6, 7, 10, 11, 12, 13, 14, 24, 25] 3 (fun p10 => ([(15, (eB p10))], [], [])) (fun p10 => ?_) fun p10 => ?_
      ·refine At.s 40 3 ?_ ?_
       ·refine At.g [40] 5 ?_
        apply rt; exact At.jn 0
       ·refine At.g [40] 2 ?_
        refine At.b 0 (fun _ e => aL [] (aBd e)) fun r11 => ?_
        refine At.g [40] 2 ?_
        apply rt; exact At.jn 0
      ·refine At.c 4 ?_ ?_
       ·refine At.d 0 dE0 dF0 ?_
        apply rt; exact At.jn 0
       ·apply rt; exact At.jn 0
     ·exact fun h => At.k 2 ⟨_, _, _, _, h, jr⟩
    ·apply rt; exact At.x 0
  ·refine At.d 0 dE0 dF0 ?_
   apply rt; exact At.r 0

def kB (N : Nat) (b4 : (List (List aD))) (a1 : aK) (a2 : aB) (a3 : aB) (a4 : Int) (a5 : Bool) (a6 : aH) (a7 : aE) (a8 : aI) (a9 : aB) (a10 : aF) (a11 : aA) (a12 : aJ) : Option (aH × Int × aJ × aV × Bool) :=
 Option.bind (cond (a4 == 0) (some 9) (some 4)) fun p1 =>
 Option.bind (fN N a1.go a1.gd p1 a1.gE2 a12) fun r2 =>
 Option.bind (cond a8.gT (some (I64 (a10.gK + 4))) (some a10.gK)) fun p3 =>
 cond (decide (r2.2.1 < 0)) (
  some ((a6, p3, r2.1, aV.mk 0 (aC.mk 0 0 0) (aB.mk 0 0 0) (aB.mk 0 0 0) (aQ.mk 0 (#v[0, 0, 0]) 0) false, false))) (
  Option.bind (idx a7.gQ r2.2.1) fun e4 =>
  Option.bind (eK 1 3) fun _ =>
  Option.bind (e4.gP.toList[(Int.toNat 1)]?) fun e6 =>
  Option.bind (eK 0 3) fun _ =>
  Option.bind (e4.gP.toList[(Int.toNat 0)]?) fun e8 =>
  Option.bind (oT N e6 e8) fun r9 =>
  Option.bind (eK 2 3) fun _ =>
  Option.bind (e4.gP.toList[(Int.toNat 2)]?) fun e11 =>
  Option.bind (eK 0 3) fun _ =>
  Option.bind (e4.gP.toList[(Int.toNat 0)]?) fun e13 =>
  Option.bind (oT N e11 e13) fun r14 =>
  Option.bind (rA N r9 r14) fun r15 =>
  Option.bind (fM N r15) fun r16 =>
  Option.bind (Option.bind (rJ N a1.go a1.gd r2.2.2) fun r18 =>
  Option.bind (kL N r16 a1.gd) fun r19 =>
  Option.bind (idx a7.gA3 e4.gC1) fun e20 =>
  cond (a4 == 0) (
   aR ((iA .u8 e4.gC5 8) != 0) fun x21 =>
   some (aV.mk r2.2.1 r18 r19 (aB.mk 0 0 0) e20 x21)) (
   some (aV.mk r2.2.1 r18 r19 (aB.mk 0 0 0) e20 false))) fun p17 =>
  Option.bind (cond (decide (e4.gB2 ≥ 0)) (
   Option.bind (idx b4 e4.gB2) fun e23 =>
   cond (!a8.gT) (some ((I64 (p3 + 4), e23))) (some ((p3, e23)))) (
   some ((p3, [])))) fun p22 =>
  Option.bind (lR N p17.gA6.gA2 p22.2 e4.gUv r2.2.2 a4) fun r24 =>
  Option.bind (aR (cond (a4 == 0) (!a5) false) fun x26 =>
  cond x26 (
   Option.bind (nO N p17.gat) fun r27 =>
   Option.bind (nO N a1.go) fun r28 =>
   Option.bind (uI N r27 r28) fun r29 =>
   Option.bind (pY N r29) fun r30 =>
   cond p17.gB7 (
    some (aH.mk (aB.mk 0 0 0) 0 r30 p17.gn e4.gB3)) (
    some (aH.mk (aB.mk 0 0 0) 1 r30 p17.gn e4.gB3))) (
   some a6)) fun p25 =>
  some ((p25, p22.1, r2.1, aV.mk p17.gi p17.gat p17.gn r24 p17.gA6 p17.gB7, true)))

theorem aAj {N b4 a1 a2 a3 a4 a5 a6 a7 a8 a9 a10 a11 a12 r} (h : kB N b4 a1 a2 a3 a4 a5 a6 a7 a8 a9 a10 a11 a12 = some r) : FnM Tryz.prog 85 [.var (.st 26 [(aK.enc a1), (.ref 1 [] 0), (.ref 2 [] 0), (aB.enc a2), (aB.enc a3), (j64 a4), (eB a5), (aH.enc a6)]), .var (.st 38 [(aE.enc a7), (aI.enc a8), (.ifc 88 (.ref 3 [] 0)), (eO 4 1 (eL 2 aD.enc) b4), (aB.enc a9), (aF.enc a10)]), .var (aA.enc a11), .var (aJ.enc a12), .tail (b4.length * 1)] [(.ref 0 [] 0)] (.tup [(aV.enc r.2.2.2.1), (eB r.2.2.2.2)]) [.var (.st 26 [(aK.enc a1), (.ref 1 [] 0), (.ref 2 [] 0), (aB.enc a2), (aB.enc a3), (j64 a4), (eB a5), (aH.enc r.1)]), .var (.st 38 [(aE.enc a7), (aI.enc a8), (.ifc 88 (.ref 3 [] 0)), (eO 4 1 (eL 2 aD.enc) b4), (aB.enc a9), (.st 3 [(j64 a10.gG), (j64 r.2.1), (j64 (I64 (a10.gE + 1)))])]), .var (aA.enc a11), .var (aJ.enc r.2.2.1), .tail (b4.length * 1)] := by
 unfold kB at h
 refine At.f cU hT hmo Tryz.func85 rfl h ?_
 refine At.J 3 1 [0, 2] 6 (fun p1 => ([(4, (k8 p1))], [], [])) (fun p1 => ?_) fun p1 => ?_
 ·refine At.c 5 ?_ ?_
  ·apply rt; exact At.jn 1
  ·apply rt; exact At.jn 0
 ·refine bi fun r2 hr2 => ?_
  refine At.d2 0 [false] dC0 (dS1 25 ⟨(.tup [(j64 r2.2.1), (aT.enc r2.2.2)]), 3, .var (aJ.enc r2.1), .var (aJ.enc a12)⟩ [[.var (.st 26 [(aK.enc a1), (.ref 1 [] 0), (.ref 2 [] 0), (aB.enc a2), (aB.enc a3), (j64 a4), (eB a5), (aH.enc a6)]), .var (.st 38 [(aE.enc a7), (aI.enc a8), (.ifc 88 (.ref 3 [] 0)), (eO 4 1 (eL 2 aD.enc) b4), (aB.enc a9), (aF.enc a10)]), .var (aA.enc a11), .var (aJ.enc a12), .tail (b4.length * 1), .var aI4, .dead], [.var (.st 26 [(aK.enc a1), (.ref 1 [] 0), (.ref 2 [] 0), (aB.enc a2), (aB.enc a3), (j64 a4), (eB a5), (aH.enc a6)]), .var (.st 38 [(aE.enc a7), (aI.enc a8), (.ifc 88 (.ref 3 [] 0)), (eO 4 1 (eL 2 aD.enc) b4), (aB.enc a9), (aF.enc a10)]), .var (aA.enc a11), .var (aJ.enc a12), .tail (b4.length * 1), .var aI4, .var (.st 4 [(j64 0), (j64 0), (j64 0), (j64 0)])]] ⟨bO (aL [3] (qD hr2)), bO (aL [3] (qD hr2)), trivial⟩ (dS1 29 ⟨(.ref 6 [] 0), 6, .var (.st 4 [(j64 0), (j64 0), (j64 0), (j64 0)]), .dead⟩ [[.var (.st 26 [(aK.enc a1), (.ref 1 [] 0), (.ref 2 [] 0), (aB.enc a2), (aB.enc a3), (j64 a4), (eB a5), (aH.enc a6)]), .var (.st 38 [(aE.enc a7), (aI.enc a8), (.ifc 88 (.ref 3 [] 0)), (eO 4 1 (eL 2 aD.enc) b4), (aB.enc a9), (aF.enc a10)]), .var (aA.enc a11), .var (aJ.enc a12), .tail (b4.length * 1), .var aI4, .dead], [.var (.st 26 [(aK.enc a1), (.ref 1 [] 0), (.ref 2 [] 0), (aB.enc a2), (aB.enc a3), (j64 a4), (eB a5), (aH.enc a6)]), .var (.st 38 [(aE.enc a7), (aI.enc a8), (.ifc 88 (.ref 3 [] 0)), (eO 4 1 (eL 2 aD.enc) b4), (aB.enc a9), (aF.enc a10)]), .var (aA.enc a11), .var (aJ.enc r2.1), .tail (b4.length * 1), .var aI4, .dead]] ⟨aW hT 6 (by kernel_rfl) (by kernel_rfl) (by kernel_rfl), aW hT 6 (by kernel_rfl) (by kernel_rfl) (by kernel_rfl), trivial⟩ dS0)) ?_
  refine At.J 13 1 [0, 2, 5, 6] 7 (fun p3 => ([], [(1, .var (.st 38 [(aE.enc a7), (aI.enc a8), (.ifc 88 (.ref 3 [] 0)), (eO 4 1 (eL 2 aD.enc) b4), (aB.enc a9), (.st 3 [(j64 a10.gG), (j64 p3), (j64 (I64 (a10.gE + 1)))])]))], [])) (fun p3 => ?_) fun p3 => ?_
  ·refine At.c 8 ?_ ?_
   ·apply rt; exact At.jn 13
   ·apply rt; exact At.jn 0
  ·refine At.c 2 ?_ ?_
   ·apply rt; exact At.r 3
   ·refine At.b 9 (fun _ e => cA hT aG.enc e) fun e4 => ?_
    refine bi fun u5 hu5 => ?_
    refine bi fun e6 he6 => ?_
    refine bi fun u7 hu7 => ?_
    refine bi fun e8 he8 => ?_
    refine bi fun r9 hr9 => ?_
    refine bi fun u10 hu10 => ?_
    refine bi fun e11 he11 => ?_
    refine bi fun u12 hu12 => ?_
    refine bi fun e13 he13 => ?_
    refine bi fun r14 hr14 => ?_
    refine bi fun r15 hr15 => ?_
    refine bi fun r16 hr16 => ?_
    refine At.d 3 (dE1 1 (fun _ => bD hT (k := 3) 7 [0] 0 hu5) (dEL hT 2 (aC.enc e6) aC.enc 1 he6 (dE1 4 (fun _ => bD hT (k := 3) 7 [0] 0 hu7) (dEL hT 5 (aC.enc e8) aC.enc 1 he8 (dE2 6 (aC.enc r9) (fun _ => aN (rI hr9)) (dE1 8 (fun _ => bD hT (k := 3) 7 [0] 0 hu10) (dEL hT 9 (aC.enc e11) aC.enc 1 he11 (dE1 11 (fun _ => bD hT (k := 3) 7 [0] 0 hu12) (dEL hT 12 (aC.enc e13) aC.enc 1 he13 (dE2 13 (aC.enc r14) (fun _ => aN (rI hr14)) (dE2 14 (aC.enc r15) (fun _ => aN (xE hr15)) (dE2 15 (aB.enc r16) (fun _ => aN (kO hr16)) dE0)))))))))))) dF0 ?_
    refine At.J 0 0 [0, 2, 6, 7] 9 (fun p17 => ([], [(5, .var (aV.enc p17))], [])) (fun p17 => ?_) fun p17 => ?_
    ·refine bi fun r18 hr18 => ?_
     refine bi fun r19 hr19 => ?_
     refine bi fun e20 he20 => ?_
     refine boI (fun hc37 => ?_) (fun hc37 => ?_)
     ·refine lx ?_; intro x21
      refine At.d 0 (dE2 12 (aC.enc r18) (fun _ => aN (xB hr18)) (dE2 19 (aB.enc r19) (fun _ => aN (qW hr19)) (dE1 30 (fun _ => cA hT aQ.enc he20) (dE1 37 (fun _ => cT hc37 rfl (cN hT (im := false) (by kernel_rfl))) dE0)))) dF0 ?_
      apply rt; exact At.jn 0
     ·refine At.d 0 (dE2 12 (aC.enc r18) (fun _ => aN (xB hr18)) (dE2 19 (aB.enc r19) (fun _ => aN (qW hr19)) (dE1 30 (fun _ => cA hT aQ.enc he20) (dE1 37 (fun _ => cT hc37 rfl (cN hT (im := false) (by kernel_rfl))) dE0)))) dF0 ?_
      apply rt; exact At.jn 0
    ·refine At.J 1 1 [0, 2, 6, 7] 9 (fun p22 => ([(9, (eL 2 aD.enc p22.2))], [(1, .var (.st 38 [(aE.enc a7), (aI.enc a8), (.ifc 88 (.ref 3 [] 0)), (eO 4 1 (eL 2 aD.enc) b4), (aB.enc a9), (.st 3 [(j64 a10.gG), (j64 p22.1), (j64 (I64 (a10.gE + 1)))])]))], [])) (fun p22 => ?_) fun p22 => ?_
     ·refine At.c 3 ?_ ?_
      ·refine bi fun e23 he23 => ?_
       refine At.d 0 (dE1 9 (fun _ => cA hT (eL 2 aD.enc) he23) dE0) dF0 ?_
       refine At.c 9 ?_ ?_
       ·apply rt; exact At.jn 13
       ·apply rt; exact At.jn 0
      ·apply rt; exact At.jn 0
     ·refine bi fun r24 hr24 => ?_
      refine At.d 0 (dE2 11 (aB.enc r24) (fun _ => aN (aAH hr24)) dE0) dF0 ?_
      refine At.J 0 1 [2] 9 (fun p25 => ([], [(0, .var (.st 26 [(aK.enc a1), (.ref 1 [] 0), (.ref 2 [] 0), (aB.enc a2), (aB.enc a3), (j64 a4), (eB a5), (aH.enc p25)]))], [])) (fun p25 => ?_) fun p25 => ?_
      ·refine lx ?_; intro x26
       refine At.c 12 ?_ ?_
       ·refine bi fun r27 hr27 => ?_
        refine bi fun r28 hr28 => ?_
        refine bi fun r29 hr29 => ?_
        refine bi fun r30 hr30 => ?_
        refine At.d 0 (dE2 3 (aB.enc r27) (fun _ => aN (qE hr27)) (dE2 9 (aB.enc r28) (fun _ => aN (qE hr28)) (dE2 10 (aB.enc r29) (fun _ => aN (aAt hr29)) (dE2 11 (j64 r30) (fun _ => aN (aCG hr30)) dE0)))) dF0 ?_
        refine At.c 2 ?_ ?_
        ·apply rt; exact At.jn 5
        ·apply rt; exact At.jn 0
       ·apply rt; exact At.jn 0
      ·apply rt; exact At.r 3

def fH (N : Nat) (b4 : (List (List aD))) (a1 : (List aB)) (a2 : aK) (a3 : aB) (a4 : aB) (a5 : Int) (a6 : Bool) (a7 : aH) (a8 : aE) (a9 : aI) (a10 : aB) (a11 : aF) (a12 : aA) (a13 : aJ) : Option (aB) :=
 cond (!a6) (
  Option.bind (yV 24 (([a3] : List aB)) a1) fun z1 =>
  Option.bind (iD N z1) fun r2 =>
  Option.bind (lI N ([a4, r2])) fun r3 =>
  some r3) (
  some a4)

theorem pW {N b4 a1 a2 a3 a4 a5 a6 a7 a8 a9 a10 a11 a12 a13 r} (h : fH N b4 a1 a2 a3 a4 a5 a6 a7 a8 a9 a10 a11 a12 a13 = some r) : FnM Tryz.prog 86 [.var (.st 26 [(aK.enc a2), (.ref 1 [] 0), (.ref 2 [] 0), (aB.enc a3), (aB.enc a4), (j64 a5), (eB a6), (aH.enc a7)]), .var (.st 38 [(aE.enc a8), (aI.enc a9), (.ifc 88 (.ref 3 [] 0)), (eO 4 1 (eL 2 aD.enc) b4), (aB.enc a10), (aF.enc a11)]), .var (aA.enc a12), .var (aJ.enc a13), .tail (b4.length * 1)] [(.ref 0 [] 0), (eL 3 aB.enc a1)] (.tup []) [.var (.st 26 [(aK.enc a2), (.ref 1 [] 0), (.ref 2 [] 0), (aB.enc a3), (aB.enc r), (j64 a5), (eB a6), (aH.enc a7)]), .var (.st 38 [(aE.enc a8), (aI.enc a9), (.ifc 88 (.ref 3 [] 0)), (eO 4 1 (eL 2 aD.enc) b4), (aB.enc a10), (aF.enc a11)]), .var (aA.enc a12), .var (aJ.enc a13), .tail (b4.length * 1)] := by
 unfold fH at h
 refine At.f cU hT hmo Tryz.func86 rfl h ?_
 refine At.c 5 ?_ ?_
 ·refine bi fun z1 hz1 => ?_
  refine bi fun r2 hr2 => ?_
  refine bi fun r3 hr3 => ?_
  refine At.d 0 (dE2 12 (aB.enc r2) (fun _ => aN (pS hr2)) (dE1 13 (fun _ => cM hT (x := (.sl 3 2 [(aB.enc a4), (aB.enc r2)]))) (dE2 14 (aB.enc r3) (fun _ => aN (wA hr3)) dE0))) (dF 9 (eO 5 3 aB.enc (([a3] : List aB))) [] [.tail ((([a3] : List aB)).length * 3)] (bO (yN hT aB.enc (k := 3) ([a3] : List aB) (by kernel_rfl) (by kernel_rfl))) (dF 11 (eO 5 3 aB.enc z1) [(5, .tail (z1.length * 3))] [] (bO (sB hT aB.enc (id := 5) (k := 3) hz1)) dF0)) ?_
  apply rt; exact At.z 0
 ·apply rt; exact At.z 0

def dJ (N : Nat) (b4 : (List (List aD))) (a1 : Bool) (a2 : aK) (a3 : aB) (a4 : aB) (a5 : Int) (a6 : Bool) (a7 : aH) (a8 : aE) (a9 : aI) (a10 : aB) (a11 : aF) (a12 : aA) (a13 : aJ) : Option (Unit) :=
 some (())

theorem fY {N b4 a1 a2 a3 a4 a5 a6 a7 a8 a9 a10 a11 a12 a13 r} (h : dJ N b4 a1 a2 a3 a4 a5 a6 a7 a8 a9 a10 a11 a12 a13 = some r) : FnM Tryz.prog 87 [.var (.st 26 [(aK.enc a2), (.ref 1 [] 0), (.ref 2 [] 0), (aB.enc a3), (aB.enc a4), (j64 a5), (eB a6), (aH.enc a7)]), .var (.st 38 [(aE.enc a8), (aI.enc a9), (.ifc 88 (.ref 3 [] 0)), (eO 4 1 (eL 2 aD.enc) b4), (aB.enc a10), (aF.enc a11)]), .var (aA.enc a12), .var (aJ.enc a13), .tail (b4.length * 1)] [(.ref 0 [] 0), (eB a1)] (.tup []) [.var (.st 26 [(aK.enc a2), (.ref 1 [] 0), (.ref 2 [] 0), (aB.enc a3), (aB.enc a4), (j64 a5), (eB (cond a6 true a1)), (aH.enc a7)]), .var (.st 38 [(aE.enc a8), (aI.enc a9), (.ifc 88 (.ref 3 [] 0)), (eO 4 1 (eL 2 aD.enc) b4), (aB.enc a10), (aF.enc a11)]), .var (aA.enc a12), .var (aJ.enc a13), .tail (b4.length * 1)] := by
 unfold dJ at h
 refine At.f cU hT hmo Tryz.func87 rfl h ?_
 apply rt; exact At.z 11

def zZ : Nat → Bool := imL [7, 8]

def dC (N : Nat) (a5 : aJ) (a0 : aC) (a1 : aC) (a2 : Int) (a3 : Int) (a4 : Bool) : Nat → aJ → Bool → Int → Option (aJ × Bool)
 | 0, _, _, _ => none
 | k + 1, s3, s4, s5 =>
  aR (decide (s5 < ((a5.gl.length : Int)))) fun x6 =>
  cond x6 (
   Option.bind (dH N a0 a1 a2 a3 s5 s3) fun r7 =>
   cond r7.2 (
    aR (decide (r7.1.gB9 < r7.1.gB1)) fun x8 =>
    aR (cond (cond (!a4) true x8) true s4) fun x9 =>
    dC N a5 a0 a1 a2 a3 a4 k (aJ.mk (iW.mk (I64 (s3.gD0.gn + 1))) s3.gA s3.gl) x9 (I64 (s5 + 1))) (
    dC N a5 a0 a1 a2 a3 a4 k (aJ.mk (iW.mk (I64 (s3.gD0.gn + 1))) s3.gA s3.gl) s4 (I64 (s5 + 1)))) (
   some ((s3, s4)))

def eY (N : Nat) (a0 : aC) (a1 : aC) (a2 : Int) (a3 : Int) (a4 : Bool) (a5 : aJ) : Option (aJ × Bool) :=
 Option.bind (fV N a5) fun r1 =>
 cond r1 (
  some ((a5, false))) (
  Option.bind (dC N a5 a0 a1 a2 a3 a4 N a5 false 0) fun p2 =>
  some ((p2.1, p2.2)))

theorem jY {N a0 a1 a2 a3 a4 a5 r} (h : eY N a0 a1 a2 a3 a4 a5 = some r) : FnM Tryz.prog 289 [.var (aJ.enc a5)] [(.ref 0 [] 0), (aC.enc a0), (aC.enc a1), (k8 a2), (j64 a3), (eB a4)] (eB r.2) [.var (aJ.enc r.1)] := by
 unfold eY at h
 refine At.f zZ hT hmo Tryz.func289 rfl h ?_
 refine At.b 4 (fun _ e => aL [0] (qP e)) fun r1 => ?_
 refine At.c 0 ?_ ?_
 ·apply rt; exact At.r 1
 ·refine At.L 7 [] 1 (fun p2 => ([(13, (eB p2.2))], [(0, .var (aJ.enc p2.1))], [])) (fun p2 J k => ∃ s3 s4 s5, dC N a5 a0 a1 a2 a3 a4 k s3 s4 s5 = some p2 ∧ J [0, 3, 4, 5, 7, 8, 23] 1 [(13, (eB s4)), (24, (j64 s5))] [(0, .var (aJ.enc s3))] []) N (fun _ h => ⟨_, _, _, h, jr⟩) (fun p2 k s hI => ?_) fun p2 => ?_
  ·obtain ⟨s3, s4, s5, h, hj⟩ := hI
   cases k with
   | zero => cases h
   | succ k =>
    refine At.jr hj ?_ h
    refine lx ?_; intro x6
    refine At.c 1 ?_ ?_
    ·refine At.b 8 (fun _ e => aL [0] (qT e)) fun r7 => ?_
     refine At.s 38 8 ?_ ?_
     ·refine lx ?_; intro x8
      refine lx ?_; intro x9
      refine At.g [38] 16 ?_
      exact fun h => At.k 0 ⟨_, _, _, h, jr⟩
     ·refine At.g [38, 41, 49] 16 ?_
      exact fun h => At.k 0 ⟨_, _, _, h, jr⟩
    ·apply rt; exact At.x 0
  ·apply rt; exact At.r 2

def aAU : Nat → Bool := imL [3]

def eF (N : Nat) (x1 : Int) (a8 : aE) (b4 : (List (List aD))) (a2 : aK) (a3 : aB) (a5 : Int) (a6 : Bool) (a7 : aH) (a9 : aI) (a10 : aB) (a11 : aF) (a1 : aV) : Nat → aB → aA → aJ → Int → Option (aB × aA × aJ)
 | 0, _, _, _, _ => none
 | k + 1, s3, s4, s5, s6 =>
  cond (decide (s6 < x1)) (
   Option.bind (Option.bind (idx a8.gL s6) fun e8 =>
   aR (I64 (8 + (I64 (2 * s6)))) fun x9 =>
   Option.bind (cV N b4 x9 a2 a3 s3 a5 a6 a7 a8 a9 a10 a11 s4 s5) fun r10 =>
   aR (I64 (9 + (I64 (2 * s6)))) fun x11 =>
   Option.bind (cV N b4 x11 a2 a3 s3 a5 a6 a7 a8 a9 a10 a11 (aA.mk r10.1 s4.gA s4.gC s4.gB s4.gD) s5) fun r12 =>
   Option.bind (oN N e8 a1.gat a1.gn (#v[r10.2, r12.2])) fun r13 =>
   aR (cond r13.gE0 (!a9.gT) false) fun x14 =>
   cond x14 (
    some ((s3, aA.mk r12.1 ((aA.mk r10.1 s4.gA s4.gC s4.gB s4.gD).gA) ((aA.mk r10.1 s4.gA s4.gC s4.gB s4.gD).gC) ((aA.mk r10.1 s4.gA s4.gC s4.gB s4.gD).gB) ((aA.mk r10.1 s4.gA s4.gC s4.gB s4.gD).gD), s5, e8, r13))) (
    Option.bind (Option.bind (eY N a1.gat r13.gE3 2 a1.gi (!r13.gE4) s5) fun r16 =>
    cond (!r16.2) (
     cond (!r13.gE0) (
      some ((r16.1, a1.gA6.gA0 == 0))) (
      some ((r16.1, false)))) (
     some ((r16.1, false)))) fun p15 =>
    cond p15.2 (
     Option.bind (fH N b4 ([a1.gc, r13.gC0]) a2 a3 s3 a5 a6 a7 a8 a9 a10 a11 (aA.mk r12.1 ((aA.mk r10.1 s4.gA s4.gC s4.gB s4.gD).gA) ((aA.mk r10.1 s4.gA s4.gC s4.gB s4.gD).gC) ((aA.mk r10.1 s4.gA s4.gC s4.gB s4.gD).gB) ((aA.mk r10.1 s4.gA s4.gC s4.gB s4.gD).gD)) p15.1) fun r17 =>
     some ((r17, aA.mk r12.1 ((aA.mk r10.1 s4.gA s4.gC s4.gB s4.gD).gA) ((aA.mk r10.1 s4.gA s4.gC s4.gB s4.gD).gC) ((aA.mk r10.1 s4.gA s4.gC s4.gB s4.gD).gB) ((aA.mk r10.1 s4.gA s4.gC s4.gB s4.gD).gD), p15.1, e8, r13))) (
     some ((s3, aA.mk r12.1 ((aA.mk r10.1 s4.gA s4.gC s4.gB s4.gD).gA) ((aA.mk r10.1 s4.gA s4.gC s4.gB s4.gD).gC) ((aA.mk r10.1 s4.gA s4.gC s4.gB s4.gD).gB) ((aA.mk r10.1 s4.gA s4.gC s4.gB s4.gD).gD), p15.1, e8, r13))))) fun p7 =>
   eF N x1 a8 b4 a2 a3 a5 a6 a7 a9 a10 a11 a1 k p7.1 p7.2.1 p7.2.2.1 (I64 (s6 + 1))) (
   some ((s3, s4, s5)))

def eE (N : Nat) (r18 : Int × Int) (x19 : Int) (a1 : aV) : Nat → aJ → Int → Option (aJ)
 | 0, _, _ => none
 | k + 1, s21, s22 =>
  aR (decide (s22 < (I64 (r18.2 - x19)))) fun x23 =>
  cond x23 (
   Option.bind (eY N a1.gat (aC.mk 0 0 0) 2 a1.gi false s21) fun r24 =>
   eE N r18 x19 a1 k r24.1 (I64 (s22 + 1))) (
   some s21)

def iU (N : Nat) (b4 : (List (List aD))) (a1 : aV) (a2 : aK) (a3 : aB) (a4 : aB) (a5 : Int) (a6 : Bool) (a7 : aH) (a8 : aE) (a9 : aI) (a10 : aB) (a11 : aF) (a12 : aA) (a13 : aJ) : Option (aB × aA × aJ) :=
 aR ((a8.gL.length : Int)) fun x1 =>
 Option.bind (eF N x1 a8 b4 a2 a3 a5 a6 a7 a9 a10 a11 a1 N a4 a12 a13 0) fun p2 =>
 cond (!a9.gT) (
  some ((p2.1, p2.2.1, p2.2.2))) (
  Option.bind (fX N a9.gI) fun r18 =>
  aR ((a8.gL.length : Int)) fun x19 =>
  Option.bind (eE N r18 x19 a1 N p2.2.2 0) fun p20 =>
  some ((p2.1, p2.2.1, p20)))

theorem zS {N b4 a1 a2 a3 a4 a5 a6 a7 a8 a9 a10 a11 a12 a13 r} (h : iU N b4 a1 a2 a3 a4 a5 a6 a7 a8 a9 a10 a11 a12 a13 = some r) : FnM Tryz.prog 88 [.var (.st 26 [(aK.enc a2), (.ref 1 [] 0), (.ref 2 [] 0), (aB.enc a3), (aB.enc a4), (j64 a5), (eB a6), (aH.enc a7)]), .var (.st 38 [(aE.enc a8), (aI.enc a9), (.ifc 88 (.ref 3 [] 0)), (eO 4 1 (eL 2 aD.enc) b4), (aB.enc a10), (aF.enc a11)]), .var (aA.enc a12), .var (aJ.enc a13), .tail (b4.length * 1)] [(.ref 0 [] 0), (aV.enc a1)] (.tup []) [.var (.st 26 [(aK.enc a2), (.ref 1 [] 0), (.ref 2 [] 0), (aB.enc a3), (aB.enc r.1), (j64 a5), (eB a6), (aH.enc a7)]), .var (.st 38 [(aE.enc a8), (aI.enc a9), (.ifc 88 (.ref 3 [] 0)), (eO 4 1 (eL 2 aD.enc) b4), (aB.enc a10), (aF.enc a11)]), .var (aA.enc r.2.1), .var (aJ.enc r.2.2), .tail (b4.length * 1)] := by
 unfold iU at h
 refine At.f aAU hT hmo Tryz.func88 rfl h ?_
 refine lx ?_; intro x1
 refine At.L 11 [0, 3] 5 (fun p2 => ([], [(0, .var (.st 26 [(aK.enc a2), (.ref 1 [] 0), (.ref 2 [] 0), (aB.enc a3), (aB.enc p2.1), (j64 a5), (eB a6), (aH.enc a7)])), (2, .var (aA.enc p2.2.1)), (3, .var (aJ.enc p2.2.2))], [])) (fun p2 J k => ∃ s3 s4 s5 s6, eF N x1 a8 b4 a2 a3 a5 a6 a7 a9 a10 a11 a1 k s3 s4 s5 s6 = some p2 ∧ J [0, 3, 16, 17] 5 [(18, (j64 s6))] [(0, .var (.st 26 [(aK.enc a2), (.ref 1 [] 0), (.ref 2 [] 0), (aB.enc a3), (aB.enc s3), (j64 a5), (eB a6), (aH.enc a7)])), (2, .var (aA.enc s4)), (3, .var (aJ.enc s5))] []) N (fun _ h => ⟨_, _, _, _, h, jr⟩) (fun p2 k s hI => ?_) fun p2 => ?_
 ·obtain ⟨s3, s4, s5, s6, h, hj⟩ := hI
  cases k with
  | zero => cases h
  | succ k =>
   refine At.jr hj ?_ h
   refine At.c 1 ?_ ?_
   ·refine At.J 0 2 [0, 3, 16, 17, 18] 5 (fun p7 => ([], [(0, .var (.st 26 [(aK.enc a2), (.ref 1 [] 0), (.ref 2 [] 0), (aB.enc a3), (aB.enc p7.1), (j64 a5), (eB a6), (aH.enc a7)])), (2, .var (aA.enc p7.2.1)), (3, .var (aJ.enc p7.2.2.1))], [.var (aP.enc p7.2.2.2.1), .var (jJ.enc p7.2.2.2.2)])) (fun p7 => ?_) fun p7 => ?_
    ·refine At.b 1 (fun _ e => cA hT aP.enc e) fun e8 => ?_
     refine lx ?_; intro x9
     refine bi fun r10 hr10 => ?_
     refine lx ?_; intro x11
     refine bi fun r12 hr12 => ?_
     refine bi fun r13 hr13 => ?_
     refine At.d2 4 [false] (dC2 16 (jJ.enc r13) (fun _ => aN (aBL hr13)) dC0) (dS1 9 ⟨(k32 r10.2), 2, .var (.st 72 [(aS.enc r10.1), (eB s4.gA), (k64 s4.gC), (j64 s4.gB), (j64 s4.gD)]), .var (aA.enc s4)⟩ [[.var (.st 26 [(aK.enc a2), (.ref 1 [] 0), (.ref 2 [] 0), (aB.enc a3), (aB.enc s3), (j64 a5), (eB a6), (aH.enc a7)]), .var (.st 38 [(aE.enc a8), (aI.enc a9), (.ifc 88 (.ref 3 [] 0)), (eO 4 1 (eL 2 aD.enc) b4), (aB.enc a10), (aF.enc a11)]), .var (aA.enc s4), .var (aJ.enc s5), .tail (b4.length * 1), .var (aP.enc e8), .dead], [.var (.st 26 [(aK.enc a2), (.ref 1 [] 0), (.ref 2 [] 0), (aB.enc a3), (aB.enc s3), (j64 a5), (eB a6), (aH.enc a7)]), .var (.st 38 [(aE.enc a8), (aI.enc a9), (.ifc 88 (.ref 3 [] 0)), (eO 4 1 (eL 2 aD.enc) b4), (aB.enc a10), (aF.enc a11)]), .var (aA.enc s4), .var (aJ.enc s5), .tail (b4.length * 1), .var (aP.enc e8), .var aMA]] ⟨bO (aL [0, 1, 2, 3, 4] (cC hr10)), bO (aL [0, 1, 2, 3, 4] (cC hr10)), trivial⟩ (dS1 14 ⟨(k32 r12.2), 2, .var (.st 72 [(aS.enc r12.1), (eB ((aA.mk r10.1 s4.gA s4.gC s4.gB s4.gD).gA)), (k64 ((aA.mk r10.1 s4.gA s4.gC s4.gB s4.gD).gC)), (j64 ((aA.mk r10.1 s4.gA s4.gC s4.gB s4.gD).gB)), (j64 ((aA.mk r10.1 s4.gA s4.gC s4.gB s4.gD).gD))]), .var (.st 72 [(aS.enc r10.1), (eB s4.gA), (k64 s4.gC), (j64 s4.gB), (j64 s4.gD)])⟩ [[.var (.st 26 [(aK.enc a2), (.ref 1 [] 0), (.ref 2 [] 0), (aB.enc a3), (aB.enc s3), (j64 a5), (eB a6), (aH.enc a7)]), .var (.st 38 [(aE.enc a8), (aI.enc a9), (.ifc 88 (.ref 3 [] 0)), (eO 4 1 (eL 2 aD.enc) b4), (aB.enc a10), (aF.enc a11)]), .var (.st 72 [(aS.enc r10.1), (eB s4.gA), (k64 s4.gC), (j64 s4.gB), (j64 s4.gD)]), .var (aJ.enc s5), .tail (b4.length * 1), .var (aP.enc e8), .dead], [.var (.st 26 [(aK.enc a2), (.ref 1 [] 0), (.ref 2 [] 0), (aB.enc a3), (aB.enc s3), (j64 a5), (eB a6), (aH.enc a7)]), .var (.st 38 [(aE.enc a8), (aI.enc a9), (.ifc 88 (.ref 3 [] 0)), (eO 4 1 (eL 2 aD.enc) b4), (aB.enc a10), (aF.enc a11)]), .var (.st 72 [(aS.enc r10.1), (eB s4.gA), (k64 s4.gC), (j64 s4.gB), (j64 s4.gD)]), .var (aJ.enc s5), .tail (b4.length * 1), .var (aP.enc e8), .var aMA]] ⟨bO (aL [0, 1, 2, 3, 4] (cC hr12)), bO (aL [0, 1, 2, 3, 4] (cC hr12)), trivial⟩ (dS1 17 ⟨(.ref 6 [] 0), 6, .var aMA, .dead⟩ [[.var (.st 26 [(aK.enc a2), (.ref 1 [] 0), (.ref 2 [] 0), (aB.enc a3), (aB.enc s3), (j64 a5), (eB a6), (aH.enc a7)]), .var (.st 38 [(aE.enc a8), (aI.enc a9), (.ifc 88 (.ref 3 [] 0)), (eO 4 1 (eL 2 aD.enc) b4), (aB.enc a10), (aF.enc a11)]), .var (aA.enc s4), .var (aJ.enc s5), .tail (b4.length * 1), .var (aP.enc e8), .dead], [.var (.st 26 [(aK.enc a2), (.ref 1 [] 0), (.ref 2 [] 0), (aB.enc a3), (aB.enc s3), (j64 a5), (eB a6), (aH.enc a7)]), .var (.st 38 [(aE.enc a8), (aI.enc a9), (.ifc 88 (.ref 3 [] 0)), (eO 4 1 (eL 2 aD.enc) b4), (aB.enc a10), (aF.enc a11)]), .var (.st 72 [(aS.enc r12.1), (eB ((aA.mk r10.1 s4.gA s4.gC s4.gB s4.gD).gA)), (k64 ((aA.mk r10.1 s4.gA s4.gC s4.gB s4.gD).gC)), (j64 ((aA.mk r10.1 s4.gA s4.gC s4.gB s4.gD).gB)), (j64 ((aA.mk r10.1 s4.gA s4.gC s4.gB s4.gD).gD))]), .var (aJ.enc s5), .tail (b4.length * 1), .var (aP.enc e8), .dead], [.var (.st 26 [(aK.enc a2), (.ref 1 [] 0), (.ref 2 [] 0), (aB.enc a3), (aB.enc s3), (j64 a5), (eB a6), (aH.enc a7)]), .var (.st 38 [(aE.enc a8), (aI.enc a9), (.ifc 88 (.ref 3 [] 0)), (eO 4 1 (eL 2 aD.enc) b4), (aB.enc a10), (aF.enc a11)]), .var (.st 72 [(aS.enc r10.1), (eB s4.gA), (k64 s4.gC), (j64 s4.gB), (j64 s4.gD)]), .var (aJ.enc s5), .tail (b4.length * 1), .var (aP.enc e8), .dead], [.var (.st 26 [(aK.enc a2), (.ref 1 [] 0), (.ref 2 [] 0), (aB.enc a3), (aB.enc s3), (j64 a5), (eB a6), (aH.enc a7)]), .var (.st 38 [(aE.enc a8), (aI.enc a9), (.ifc 88 (.ref 3 [] 0)), (eO 4 1 (eL 2 aD.enc) b4), (aB.enc a10), (aF.enc a11)]), .var (.st 72 [(aS.enc r12.1), (eB ((aA.mk r10.1 s4.gA s4.gC s4.gB s4.gD).gA)), (k64 ((aA.mk r10.1 s4.gA s4.gC s4.gB s4.gD).gC)), (j64 ((aA.mk r10.1 s4.gA s4.gC s4.gB s4.gD).gB)), (j64 ((aA.mk r10.1 s4.gA s4.gC s4.gB s4.gD).gD))]), .var (aJ.enc s5), .tail (b4.length * 1), .var (aP.enc e8), .dead]] ⟨aW hT 6 (by kernel_rfl) (by kernel_rfl) (by kernel_rfl), aW hT 6 (by kernel_rfl) (by kernel_rfl) (by kernel_rfl), aW hT 6 (by kernel_rfl) (by kernel_rfl) (by kernel_rfl), aW hT 6 (by kernel_rfl) (by kernel_rfl) (by kernel_rfl), trivial⟩ dS0))) ?_
     refine lx ?_; intro x14
     refine At.c 13 ?_ ?_
     ·apply rt; exact At.jn 0
     ·refine At.J 0 0 [0, 3, 6, 16, 17, 18] 7 (fun p15 => ([(81, (eB p15.2))], [(3, .var (aJ.enc p15.1))], [])) (fun p15 => ?_) fun p15 => ?_
      ·refine bi fun r16 hr16 => ?_
       refine boI (fun hc18 => ?_) (fun hc18 => ?_)
       ·refine boI (fun hc23 => ?_) (fun hc23 => ?_)
        ·refine At.d 0 (dE1 18 (fun _ => cT hc18 rfl (cN hT (im := false) (by kernel_rfl))) (dE1 23 (fun _ => cT hc23 rfl (cN hT (im := false) (by kernel_rfl))) dE0)) (dF 16 (eB r16.2) [(3, .var (aJ.enc r16.1))] [] (bO (aL [3] (jY hr16))) dF0) ?_
         apply rt; exact At.jn 0
        ·refine At.d 0 (dE1 18 (fun _ => cT hc18 rfl (cN hT (im := false) (by kernel_rfl))) (dE1 23 (fun _ => cT hc23 rfl (cN hT (im := false) (by kernel_rfl))) dE0)) (dF 16 (eB r16.2) [(3, .var (aJ.enc r16.1))] [] (bO (aL [3] (jY hr16))) dF0) ?_
         apply rt; exact At.jn 0
       ·refine At.d 0 (dE1 18 (fun _ => cT hc18 rfl (cN hT (im := false) (by kernel_rfl))) dE0) (dF 16 (eB r16.2) [(3, .var (aJ.enc r16.1))] [] (bO (aL [3] (jY hr16))) dF0) ?_
        apply rt; exact At.jn 0
      ·refine At.c 0 ?_ ?_
       ·refine At.o 5 (cM hT (x := (.sl 3 2 [(aB.enc a1.gc), (aB.enc r13.gC0)]))) ?_
        refine At.b 0 (fun _ e => aL [0, 1, 2, 3, 4] (pW e)) fun r17 => ?_
        apply rt; exact At.jn 0
       ·apply rt; exact At.jn 0
    ·exact fun h => At.k 2 ⟨_, _, _, _, h, jr⟩
   ·apply rt; exact At.x 0
 ·refine At.c 9 ?_ ?_
  ·apply rt; exact At.r 0
  ·refine At.b 8 (fun _ e => aL [] (pI e)) fun r18 => ?_
   refine lx ?_; intro x19
   refine At.L 17 [] 5 (fun p20 => ([], [(3, .var (aJ.enc p20))], [])) (fun p20 J k => ∃ s21 s22, eE N r18 x19 a1 k s21 s22 = some p20 ∧ J [0, 3, 121] 5 [(122, (j64 s22))] [(3, .var (aJ.enc s21))] []) N (fun _ h => ⟨_, _, h, jr⟩) (fun p20 k s hI => ?_) fun p20 => ?_
   ·obtain ⟨s21, s22, h, hj⟩ := hI
    cases k with
    | zero => cases h
    | succ k =>
     refine At.jr hj ?_ h
     refine lx ?_; intro x23
     refine At.c 1 ?_ ?_
     ·refine bi fun r24 hr24 => ?_
      refine At.d 0 dE0 (dF 12 (eB r24.2) [(3, .var (aJ.enc r24.1))] [] (bO (aL [3] (jY hr24))) dF0) ?_
      exact fun h => At.k 2 ⟨_, _, h, jr⟩
     ·apply rt; exact At.x 0
   ·apply rt; exact At.z 0


def kC (N : Nat) (b4 : (List (List aD))) (a1 : aK) (a2 : aB) (a3 : aB) (a4 : Int) (a5 : Bool) (a6 : aH) (a7 : aE) (a8 : aI) (a9 : aB) (a10 : aF) (a11 : aA) (a12 : aJ) : Option (aK × aB × aB × Bool × aH × Int × aA × aJ) :=
 Option.bind (kB N b4 a1 a2 a3 a4 a5 a6 a7 a8 a9 a10 a11 a12) fun r1 =>
 Option.bind (cond (!r1.2.2.2.2) (
  Option.bind (fH N b4 ([a9]) a1 a2 a3 a4 a5 r1.1 a7 a8 a9 (aF.mk a10.gG r1.2.1 (I64 (a10.gE + 1))) a11 r1.2.2.1) fun r3 =>
  Option.bind (dJ N b4 true a1 a2 r3 a4 a5 r1.1 a7 a8 a9 (aF.mk a10.gG r1.2.1 (I64 (a10.gE + 1))) a11 r1.2.2.1) fun r4 =>
  some ((r3, cond a5 true true))) (
  some ((a3, a5)))) fun p2 =>
 Option.bind (dJ N b4 r1.2.2.2.1.gB7 a1 a2 p2.1 a4 p2.2 r1.1 a7 a8 a9 (aF.mk a10.gG r1.2.1 (I64 (a10.gE + 1))) a11 r1.2.2.1) fun r5 =>
 Option.bind (aR (r1.2.2.2.1.gA6.gA0 == 4) fun x7 =>
 cond x7 (
  Option.bind (fH N b4 ([r1.2.2.2.1.gc]) a1 a2 p2.1 a4 (cond p2.2 true r1.2.2.2.1.gB7) r1.1 a7 a8 a9 (aF.mk a10.gG r1.2.1 (I64 (a10.gE + 1))) a11 r1.2.2.1) fun r8 =>
  Option.bind (dJ N b4 true a1 a2 r8 a4 ((cond p2.2 true r1.2.2.2.1.gB7)) r1.1 a7 a8 a9 (aF.mk a10.gG r1.2.1 (I64 (a10.gE + 1))) a11 r1.2.2.1) fun r9 =>
  some ((r8, cond ((cond p2.2 true r1.2.2.2.1.gB7)) true true))) (
  some ((p2.1, cond p2.2 true r1.2.2.2.1.gB7)))) fun p6 =>
 Option.bind (Option.bind (cond a8.gT (
  some true) (
  aR (r1.2.2.2.1.gA6.gA0 == 0) fun x12 =>
  some (cond (!p6.2) x12 false))) fun p11 =>
 cond p11 (
  Option.bind (iU N b4 r1.2.2.2.1 a1 a2 p6.1 a4 p6.2 r1.1 a7 a8 a9 (aF.mk a10.gG r1.2.1 (I64 (a10.gE + 1))) a11 r1.2.2.1) fun r13 =>
  some ((r13.1, r13.2.1, r13.2.2))) (
  some ((p6.1, a11, r1.2.2.1)))) fun p10 =>
 Option.bind (cond p6.2 (
  some true) (
  some (a4 == a8.gJ))) fun p14 =>
 cond p14 (
  Option.bind (dJ N b4 true a1 a2 p10.1 a4 p6.2 r1.1 a7 a8 a9 (aF.mk a10.gG r1.2.1 (I64 (a10.gE + 1))) p10.2.1 p10.2.2) fun r15 =>
  some ((a1, a2, p10.1, cond p6.2 true true, r1.1, r1.2.1, p10.2.1, p10.2.2))) (
  Option.bind (cV N b4 4 a1 a2 p10.1 a4 p6.2 r1.1 a7 a8 a9 (aF.mk a10.gG r1.2.1 (I64 (a10.gE + 1))) p10.2.1 p10.2.2) fun r16 =>
  Option.bind (cV N b4 5 a1 a2 p10.1 a4 p6.2 r1.1 a7 a8 a9 (aF.mk a10.gG r1.2.1 (I64 (a10.gE + 1))) (aA.mk r16.1 p10.2.1.gA p10.2.1.gC p10.2.1.gB p10.2.1.gD) p10.2.2) fun r17 =>
  Option.bind (jL N r1.2.2.2.1.gA6 r1.2.2.2.1.gc r1.2.2.2.1.gn a1.gd (#v[r16.2, r17.2])) fun r18 =>
  Option.bind (iD N ([a2, r18.gC0])) fun r19 =>
  Option.bind (dJ N b4 r18.gB0 a1 r19 p10.1 a4 p6.2 r1.1 a7 a8 a9 (aF.mk a10.gG r1.2.1 (I64 (a10.gE + 1))) (aA.mk r17.1 ((aA.mk r16.1 p10.2.1.gA p10.2.1.gC p10.2.1.gB p10.2.1.gD).gA) ((aA.mk r16.1 p10.2.1.gA p10.2.1.gC p10.2.1.gB p10.2.1.gD).gC) ((aA.mk r16.1 p10.2.1.gA p10.2.1.gC p10.2.1.gB p10.2.1.gD).gB) ((aA.mk r16.1 p10.2.1.gA p10.2.1.gC p10.2.1.gB p10.2.1.gD).gD)) p10.2.2) fun r20 =>
  Option.bind (cond (decide (a4 ≥ 2)) (
   Option.bind (cV N b4 7 a1 r19 p10.1 a4 (cond p6.2 true r18.gB0) r1.1 a7 a8 a9 (aF.mk a10.gG r1.2.1 (I64 (a10.gE + 1))) (aA.mk r17.1 ((aA.mk r16.1 p10.2.1.gA p10.2.1.gC p10.2.1.gB p10.2.1.gD).gA) ((aA.mk r16.1 p10.2.1.gA p10.2.1.gC p10.2.1.gB p10.2.1.gD).gC) ((aA.mk r16.1 p10.2.1.gA p10.2.1.gC p10.2.1.gB p10.2.1.gD).gB) ((aA.mk r16.1 p10.2.1.gA p10.2.1.gC p10.2.1.gB p10.2.1.gD).gD)) p10.2.2) fun r22 =>
   Option.bind (iL N r19 r22.2) fun r23 =>
   Option.bind (dJ N b4 (!r23.2) a1 r23.1 p10.1 a4 (cond p6.2 true r18.gB0) r1.1 a7 a8 a9 (aF.mk a10.gG r1.2.1 (I64 (a10.gE + 1))) (aA.mk r22.1 ((aA.mk r17.1 ((aA.mk r16.1 p10.2.1.gA p10.2.1.gC p10.2.1.gB p10.2.1.gD).gA) ((aA.mk r16.1 p10.2.1.gA p10.2.1.gC p10.2.1.gB p10.2.1.gD).gC) ((aA.mk r16.1 p10.2.1.gA p10.2.1.gC p10.2.1.gB p10.2.1.gD).gB) ((aA.mk r16.1 p10.2.1.gA p10.2.1.gC p10.2.1.gB p10.2.1.gD).gD)).gA) ((aA.mk r17.1 ((aA.mk r16.1 p10.2.1.gA p10.2.1.gC p10.2.1.gB p10.2.1.gD).gA) ((aA.mk r16.1 p10.2.1.gA p10.2.1.gC p10.2.1.gB p10.2.1.gD).gC) ((aA.mk r16.1 p10.2.1.gA p10.2.1.gC p10.2.1.gB p10.2.1.gD).gB) ((aA.mk r16.1 p10.2.1.gA p10.2.1.gC p10.2.1.gB p10.2.1.gD).gD)).gC) ((aA.mk r17.1 ((aA.mk r16.1 p10.2.1.gA p10.2.1.gC p10.2.1.gB p10.2.1.gD).gA) ((aA.mk r16.1 p10.2.1.gA p10.2.1.gC p10.2.1.gB p10.2.1.gD).gC) ((aA.mk r16.1 p10.2.1.gA p10.2.1.gC p10.2.1.gB p10.2.1.gD).gB) ((aA.mk r16.1 p10.2.1.gA p10.2.1.gC p10.2.1.gB p10.2.1.gD).gD)).gB) ((aA.mk r17.1 ((aA.mk r16.1 p10.2.1.gA p10.2.1.gC p10.2.1.gB p10.2.1.gD).gA) ((aA.mk r16.1 p10.2.1.gA p10.2.1.gC p10.2.1.gB p10.2.1.gD).gC) ((aA.mk r16.1 p10.2.1.gA p10.2.1.gC p10.2.1.gB p10.2.1.gD).gB) ((aA.mk r16.1 p10.2.1.gA p10.2.1.gC p10.2.1.gB p10.2.1.gD).gD)).gD)) p10.2.2) fun r24 =>
   some ((r23.1, cond (cond p6.2 true r18.gB0) true (!r23.2), aA.mk r22.1 ((aA.mk r17.1 ((aA.mk r16.1 p10.2.1.gA p10.2.1.gC p10.2.1.gB p10.2.1.gD).gA) ((aA.mk r16.1 p10.2.1.gA p10.2.1.gC p10.2.1.gB p10.2.1.gD).gC) ((aA.mk r16.1 p10.2.1.gA p10.2.1.gC p10.2.1.gB p10.2.1.gD).gB) ((aA.mk r16.1 p10.2.1.gA p10.2.1.gC p10.2.1.gB p10.2.1.gD).gD)).gA) ((aA.mk r17.1 ((aA.mk r16.1 p10.2.1.gA p10.2.1.gC p10.2.1.gB p10.2.1.gD).gA) ((aA.mk r16.1 p10.2.1.gA p10.2.1.gC p10.2.1.gB p10.2.1.gD).gC) ((aA.mk r16.1 p10.2.1.gA p10.2.1.gC p10.2.1.gB p10.2.1.gD).gB) ((aA.mk r16.1 p10.2.1.gA p10.2.1.gC p10.2.1.gB p10.2.1.gD).gD)).gC) ((aA.mk r17.1 ((aA.mk r16.1 p10.2.1.gA p10.2.1.gC p10.2.1.gB p10.2.1.gD).gA) ((aA.mk r16.1 p10.2.1.gA p10.2.1.gC p10.2.1.gB p10.2.1.gD).gC) ((aA.mk r16.1 p10.2.1.gA p10.2.1.gC p10.2.1.gB p10.2.1.gD).gB) ((aA.mk r16.1 p10.2.1.gA p10.2.1.gC p10.2.1.gB p10.2.1.gD).gD)).gB) ((aA.mk r17.1 ((aA.mk r16.1 p10.2.1.gA p10.2.1.gC p10.2.1.gB p10.2.1.gD).gA) ((aA.mk r16.1 p10.2.1.gA p10.2.1.gC p10.2.1.gB p10.2.1.gD).gC) ((aA.mk r16.1 p10.2.1.gA p10.2.1.gC p10.2.1.gB p10.2.1.gD).gB) ((aA.mk r16.1 p10.2.1.gA p10.2.1.gC p10.2.1.gB p10.2.1.gD).gD)).gD)))) (
   some ((r19, cond p6.2 true r18.gB0, aA.mk r17.1 ((aA.mk r16.1 p10.2.1.gA p10.2.1.gC p10.2.1.gB p10.2.1.gD).gA) ((aA.mk r16.1 p10.2.1.gA p10.2.1.gC p10.2.1.gB p10.2.1.gD).gC) ((aA.mk r16.1 p10.2.1.gA p10.2.1.gC p10.2.1.gB p10.2.1.gD).gB) ((aA.mk r16.1 p10.2.1.gA p10.2.1.gC p10.2.1.gB p10.2.1.gD).gD))))) fun p21 =>
  some ((aK.mk r1.2.2.2.1.gat r18.gE5 r1.2.2.2.1.gi, p21.1, p10.1, p21.2.1, r1.1, r1.2.1, p21.2.2, p10.2.2)))

theorem aAp {N b4 a1 a2 a3 a4 a5 a6 a7 a8 a9 a10 a11 a12 r} (h : kC N b4 a1 a2 a3 a4 a5 a6 a7 a8 a9 a10 a11 a12 = some r) : FnM Tryz.prog 34 [.var (.st 26 [(aK.enc a1), (.ref 1 [] 0), (.ref 2 [] 0), (aB.enc a2), (aB.enc a3), (j64 a4), (eB a5), (aH.enc a6)]), .var (.st 38 [(aE.enc a7), (aI.enc a8), (.ifc 88 (.ref 3 [] 0)), (eO 4 1 (eL 2 aD.enc) b4), (aB.enc a9), (aF.enc a10)]), .var (aA.enc a11), .var (aJ.enc a12), .tail (b4.length * 1)] [(.ref 0 [] 0)] (.tup []) [.var (.st 26 [(aK.enc r.1), (.ref 1 [] 0), (.ref 2 [] 0), (aB.enc r.2.1), (aB.enc r.2.2.1), (j64 a4), (eB r.2.2.2.1), (aH.enc r.2.2.2.2.1)]), .var (.st 38 [(aE.enc a7), (aI.enc a8), (.ifc 88 (.ref 3 [] 0)), (eO 4 1 (eL 2 aD.enc) b4), (aB.enc a9), (.st 3 [(j64 a10.gG), (j64 r.2.2.2.2.2.1), (j64 (I64 (a10.gE + 1)))])]), .var (aA.enc r.2.2.2.2.2.2.1), .var (aJ.enc r.2.2.2.2.2.2.2), .tail (b4.length * 1)] := by
 unfold kC at h
 refine At.f cU hT hmo Tryz.func34 rfl h ?_
 refine At.b 1 (fun _ e => aL [0, 1, 2, 3, 4] (aAj e)) fun r1 => ?_
 refine At.J 6 1 [0, 2] 6 (fun p2 => ([], [(0, .var (.st 26 [(aK.enc a1), (.ref 1 [] 0), (.ref 2 [] 0), (aB.enc a2), (aB.enc p2.1), (j64 a4), (eB p2.2), (aH.enc r1.1)]))], [])) (fun p2 => ?_) fun p2 => ?_
 ·refine At.c 2 ?_ ?_
  ·refine At.o 8 (cM hT (x := (.sl 3 1 [(aB.enc a9)]))) ?_
   refine At.b 0 (fun _ e => aL [0, 1, 2, 3, 4] (pW e)) fun r3 => ?_
   refine At.b 1 (fun _ e => aL [0, 1, 2, 3, 4] (fY e)) fun r4 => ?_
   apply rt; exact At.jn 0
  ·apply rt; exact At.jn 0
 ·refine At.b 3 (fun _ e => aL [0, 1, 2, 3, 4] (fY e)) fun r5 => ?_
  refine At.J 0 1 [0, 2] 6 (fun p6 => ([], [(0, .var (.st 26 [(aK.enc a1), (.ref 1 [] 0), (.ref 2 [] 0), (aB.enc a2), (aB.enc p6.1), (j64 a4), (eB p6.2), (aH.enc r1.1)]))], [])) (fun p6 => ?_) fun p6 => ?_
  ·refine lx ?_; intro x7
   refine At.c 4 ?_ ?_
   ·refine At.o 3 (cM hT (x := (.sl 3 1 [(aB.enc r1.2.2.2.1.gc)]))) ?_
    refine At.b 0 (fun _ e => aL [0, 1, 2, 3, 4] (pW e)) fun r8 => ?_
    refine At.b 1 (fun _ e => aL [0, 1, 2, 3, 4] (fY e)) fun r9 => ?_
    apply rt; exact At.jn 0
   ·apply rt; exact At.jn 0
  ·refine At.J 0 1 [0, 2] 6 (fun p10 => ([], [(0, .var (.st 26 [(aK.enc a1), (.ref 1 [] 0), (.ref 2 [] 0), (aB.enc a2), (aB.enc p10.1), (j64 a4), (eB p6.2), (aH.enc r1.1)])), (2, .var (aA.enc p10.2.1)), (3, .var (aJ.enc p10.2.2))], [])) (fun p10 => ?_) fun p10 => ?_
   ·refine At.J 0 0 [0, 2] 6 (fun p11 => ([(61, (eB p11))], [], [])) (fun p11 => ?_) fun p11 => ?_
    ·refine At.s 49 9 ?_ ?_
     ·refine At.g [49, 55] 12 ?_
      apply rt; exact At.jn 0
     ·refine lx ?_; intro x12
      refine At.g [49] 12 ?_
      apply rt; exact At.jn 0
    ·refine At.c 0 ?_ ?_
     ·refine At.b 2 (fun _ e => aL [0, 1, 2, 3, 4] (zS e)) fun r13 => ?_
      apply rt; exact At.jn 0
     ·apply rt; exact At.jn 0
   ·refine At.J 0 0 [0, 2] 6 (fun p14 => ([(83, (eB p14))], [], [])) (fun p14 => ?_) fun p14 => ?_
    ·refine boI (fun hc4 => ?_) (fun hc4 => ?_)
     ·refine At.d 0 (dE1 4 (fun _ => cT hc4 rfl (cN hT (im := false) (by kernel_rfl))) dE0) dF0 ?_
      apply rt; exact At.jn 0
     ·refine At.d 0 (dE1 4 (fun _ => cT hc4 rfl (cN hT (im := false) (by kernel_rfl))) dE0) dF0 ?_
      apply rt; exact At.jn 0
    ·refine At.c 0 ?_ ?_
     ·refine At.b 1 (fun _ e => aL [0, 1, 2, 3, 4] (fY e)) fun r15 => ?_
      apply rt; exact At.r 0
     ·refine bi fun r16 hr16 => ?_
      refine bi fun r17 hr17 => ?_
      refine bi fun r18 hr18 => ?_
      refine At.d2 0 [false] (dC2 16 (cI.enc r18) (fun _ => aN (yK hr18)) dC0) (dS1 12 ⟨(k32 r16.2), 2, .var (.st 72 [(aS.enc r16.1), (eB p10.2.1.gA), (k64 p10.2.1.gC), (j64 p10.2.1.gB), (j64 p10.2.1.gD)]), .var (aA.enc p10.2.1)⟩ [[.var (.st 26 [(aK.enc a1), (.ref 1 [] 0), (.ref 2 [] 0), (aB.enc a2), (aB.enc p10.1), (j64 a4), (eB p6.2), (aH.enc r1.1)]), .var (.st 38 [(aE.enc a7), (aI.enc a8), (.ifc 88 (.ref 3 [] 0)), (eO 4 1 (eL 2 aD.enc) b4), (aB.enc a9), (.st 3 [(j64 a10.gG), (j64 r1.2.1), (j64 (I64 (a10.gE + 1)))])]), .var (aA.enc p10.2.1), .var (aJ.enc p10.2.2), .tail (b4.length * 1), .var (aV.enc r1.2.2.2.1), .dead], [.var (.st 26 [(aK.enc a1), (.ref 1 [] 0), (.ref 2 [] 0), (aB.enc a2), (aB.enc p10.1), (j64 a4), (eB p6.2), (aH.enc r1.1)]), .var (.st 38 [(aE.enc a7), (aI.enc a8), (.ifc 88 (.ref 3 [] 0)), (eO 4 1 (eL 2 aD.enc) b4), (aB.enc a9), (.st 3 [(j64 a10.gG), (j64 r1.2.1), (j64 (I64 (a10.gE + 1)))])]), .var (aA.enc p10.2.1), .var (aJ.enc p10.2.2), .tail (b4.length * 1), .var (aV.enc r1.2.2.2.1), .var aLx]] ⟨bO (aL [0, 1, 2, 3, 4] (cC hr16)), bO (aL [0, 1, 2, 3, 4] (cC hr16)), trivial⟩ (dS1 14 ⟨(k32 r17.2), 2, .var (.st 72 [(aS.enc r17.1), (eB ((aA.mk r16.1 p10.2.1.gA p10.2.1.gC p10.2.1.gB p10.2.1.gD).gA)), (k64 ((aA.mk r16.1 p10.2.1.gA p10.2.1.gC p10.2.1.gB p10.2.1.gD).gC)), (j64 ((aA.mk r16.1 p10.2.1.gA p10.2.1.gC p10.2.1.gB p10.2.1.gD).gB)), (j64 ((aA.mk r16.1 p10.2.1.gA p10.2.1.gC p10.2.1.gB p10.2.1.gD).gD))]), .var (.st 72 [(aS.enc r16.1), (eB p10.2.1.gA), (k64 p10.2.1.gC), (j64 p10.2.1.gB), (j64 p10.2.1.gD)])⟩ [[.var (.st 26 [(aK.enc a1), (.ref 1 [] 0), (.ref 2 [] 0), (aB.enc a2), (aB.enc p10.1), (j64 a4), (eB p6.2), (aH.enc r1.1)]), .var (.st 38 [(aE.enc a7), (aI.enc a8), (.ifc 88 (.ref 3 [] 0)), (eO 4 1 (eL 2 aD.enc) b4), (aB.enc a9), (.st 3 [(j64 a10.gG), (j64 r1.2.1), (j64 (I64 (a10.gE + 1)))])]), .var (.st 72 [(aS.enc r16.1), (eB p10.2.1.gA), (k64 p10.2.1.gC), (j64 p10.2.1.gB), (j64 p10.2.1.gD)]), .var (aJ.enc p10.2.2), .tail (b4.length * 1), .var (aV.enc r1.2.2.2.1), .dead], [.var (.st 26 [(aK.enc a1), (.ref 1 [] 0), (.ref 2 [] 0), (aB.enc a2), (aB.enc p10.1), (j64 a4), (eB p6.2), (aH.enc r1.1)]), .var (.st 38 [(aE.enc a7), (aI.enc a8), (.ifc 88 (.ref 3 [] 0)), (eO 4 1 (eL 2 aD.enc) b4), (aB.enc a9), (.st 3 [(j64 a10.gG), (j64 r1.2.1), (j64 (I64 (a10.gE + 1)))])]), .var (.st 72 [(aS.enc r16.1), (eB p10.2.1.gA), (k64 p10.2.1.gC), (j64 p10.2.1.gB), (j64 p10.2.1.gD)]), .var (aJ.enc p10.2.2), .tail (b4.length * 1), .var (aV.enc r1.2.2.2.1), .var aLx]] ⟨bO (aL [0, 1, 2, 3, 4] (cC hr17)), bO (aL [0, 1, 2, 3, 4] (cC hr17)), trivial⟩ (dS1 17 ⟨(.ref 6 [] 0), 6, .var aLx, .dead⟩ [[.var (.st 26 [(aK.enc a1), (.ref 1 [] 0), (.ref 2 [] 0), (aB.enc a2), (aB.enc p10.1), (j64 a4), (eB p6.2), (aH.enc r1.1)]), .var (.st 38 [(aE.enc a7), (aI.enc a8), (.ifc 88 (.ref 3 [] 0)), (eO 4 1 (eL 2 aD.enc) b4), (aB.enc a9), (.st 3 [(j64 a10.gG), (j64 r1.2.1), (j64 (I64 (a10.gE + 1)))])]), .var (aA.enc p10.2.1), .var (aJ.enc p10.2.2), .tail (b4.length * 1), .var (aV.enc r1.2.2.2.1), .dead], [.var (.st 26 [(aK.enc a1), (.ref 1 [] 0), (.ref 2 [] 0), (aB.enc a2), (aB.enc p10.1), (j64 a4), (eB p6.2), (aH.enc r1.1)]), .var (.st 38 [(aE.enc a7), (aI.enc a8), (.ifc 88 (.ref 3 [] 0)), (eO 4 1 (eL 2 aD.enc) b4), (aB.enc a9), (.st 3 [(j64 a10.gG), (j64 r1.2.1), (j64 (I64 (a10.gE + 1)))])]), .var (.st 72 [(aS.enc r17.1), (eB ((aA.mk r16.1 p10.2.1.gA p10.2.1.gC p10.2.1.gB p10.2.1.gD).gA)), (k64 ((aA.mk r16.1 p10.2.1.gA p10.2.1.gC p10.2.1.gB p10.2.1.gD).gC)), (j64 ((aA.mk r16.1 p10.2.1.gA p10.2.1.gC p10.2.1.gB p10.2.1.gD).gB)), (j64 ((aA.mk r16.1 p10.2.1.gA p10.2.1.gC p10.2.1.gB p10.2.1.gD).gD))]), .var (aJ.enc p10.2.2), .tail (b4.length * 1), .var (aV.enc r1.2.2.2.1), .dead], [.var (.st 26 [(aK.enc a1), (.ref 1 [] 0), (.ref 2 [] 0), (aB.enc a2), (aB.enc p10.1), (j64 a4), (eB p6.2), (aH.enc r1.1)]), .var (.st 38 [(aE.enc a7), (aI.enc a8), (.ifc 88 (.ref 3 [] 0)), (eO 4 1 (eL 2 aD.enc) b4), (aB.enc a9), (.st 3 [(j64 a10.gG), (j64 r1.2.1), (j64 (I64 (a10.gE + 1)))])]), .var (.st 72 [(aS.enc r16.1), (eB p10.2.1.gA), (k64 p10.2.1.gC), (j64 p10.2.1.gB), (j64 p10.2.1.gD)]), .var (aJ.enc p10.2.2), .tail (b4.length * 1), .var (aV.enc r1.2.2.2.1), .dead], [.var (.st 26 [(aK.enc a1), (.ref 1 [] 0), (.ref 2 [] 0), (aB.enc a2), (aB.enc p10.1), (j64 a4), (eB p6.2), (aH.enc r1.1)]), .var (.st 38 [(aE.enc a7), (aI.enc a8), (.ifc 88 (.ref 3 [] 0)), (eO 4 1 (eL 2 aD.enc) b4), (aB.enc a9), (.st 3 [(j64 a10.gG), (j64 r1.2.1), (j64 (I64 (a10.gE + 1)))])]), .var (.st 72 [(aS.enc r17.1), (eB ((aA.mk r16.1 p10.2.1.gA p10.2.1.gC p10.2.1.gB p10.2.1.gD).gA)), (k64 ((aA.mk r16.1 p10.2.1.gA p10.2.1.gC p10.2.1.gB p10.2.1.gD).gC)), (j64 ((aA.mk r16.1 p10.2.1.gA p10.2.1.gC p10.2.1.gB p10.2.1.gD).gB)), (j64 ((aA.mk r16.1 p10.2.1.gA p10.2.1.gC p10.2.1.gB p10.2.1.gD).gD))]), .var (aJ.enc p10.2.2), .tail (b4.length * 1), .var (aV.enc r1.2.2.2.1), .dead]] ⟨aW hT 6 (by kernel_rfl) (by kernel_rfl) (by kernel_rfl), aW hT 6 (by kernel_rfl) (by kernel_rfl) (by kernel_rfl), aW hT 6 (by kernel_rfl) (by kernel_rfl) (by kernel_rfl), aW hT 6 (by kernel_rfl) (by kernel_rfl) (by kernel_rfl), trivial⟩ dS0))) ?_
      refine bi fun r19 hr19 => ?_
      refine At.d 0 (dE1 7 (fun _ => cM hT (x := (.sl 3 2 [(aB.enc a2), (aB.enc r18.gC0)]))) (dE2 8 (aB.enc r19) (fun _ => aN (pS hr19)) dE0)) dF0 ?_
      refine At.b 3 (fun _ e => aL [0, 1, 2, 3, 4] (fY e)) fun r20 => ?_
      refine At.J 0 1 [0, 2, 4] 7 (fun p21 => ([], [(0, .var (.st 26 [(aK.enc a1), (.ref 1 [] 0), (.ref 2 [] 0), (aB.enc p21.1), (aB.enc p10.1), (j64 a4), (eB p21.2.1), (aH.enc r1.1)])), (2, .var (aA.enc p21.2.2))], [])) (fun p21 => ?_) fun p21 => ?_
      ·refine At.c 5 ?_ ?_
       ·refine bi fun r22 hr22 => ?_
        refine bi fun r23 hr23 => ?_
        refine At.d2 0 [false] (dC2 6 (.tup [(aB.enc r23.1), (eB r23.2)]) (fun _ => aN (wX hr23)) dC0) (dS1 5 ⟨(k32 r22.2), 2, .var (.st 72 [(aS.enc r22.1), (eB ((aA.mk r17.1 ((aA.mk r16.1 p10.2.1.gA p10.2.1.gC p10.2.1.gB p10.2.1.gD).gA) ((aA.mk r16.1 p10.2.1.gA p10.2.1.gC p10.2.1.gB p10.2.1.gD).gC) ((aA.mk r16.1 p10.2.1.gA p10.2.1.gC p10.2.1.gB p10.2.1.gD).gB) ((aA.mk r16.1 p10.2.1.gA p10.2.1.gC p10.2.1.gB p10.2.1.gD).gD)).gA)), (k64 ((aA.mk r17.1 ((aA.mk r16.1 p10.2.1.gA p10.2.1.gC p10.2.1.gB p10.2.1.gD).gA) ((aA.mk r16.1 p10.2.1.gA p10.2.1.gC p10.2.1.gB p10.2.1.gD).gC) ((aA.mk r16.1 p10.2.1.gA p10.2.1.gC p10.2.1.gB p10.2.1.gD).gB) ((aA.mk r16.1 p10.2.1.gA p10.2.1.gC p10.2.1.gB p10.2.1.gD).gD)).gC)), (j64 ((aA.mk r17.1 ((aA.mk r16.1 p10.2.1.gA p10.2.1.gC p10.2.1.gB p10.2.1.gD).gA) ((aA.mk r16.1 p10.2.1.gA p10.2.1.gC p10.2.1.gB p10.2.1.gD).gC) ((aA.mk r16.1 p10.2.1.gA p10.2.1.gC p10.2.1.gB p10.2.1.gD).gB) ((aA.mk r16.1 p10.2.1.gA p10.2.1.gC p10.2.1.gB p10.2.1.gD).gD)).gB)), (j64 ((aA.mk r17.1 ((aA.mk r16.1 p10.2.1.gA p10.2.1.gC p10.2.1.gB p10.2.1.gD).gA) ((aA.mk r16.1 p10.2.1.gA p10.2.1.gC p10.2.1.gB p10.2.1.gD).gC) ((aA.mk r16.1 p10.2.1.gA p10.2.1.gC p10.2.1.gB p10.2.1.gD).gB) ((aA.mk r16.1 p10.2.1.gA p10.2.1.gC p10.2.1.gB p10.2.1.gD).gD)).gD))]), .var (.st 72 [(aS.enc r17.1), (eB ((aA.mk r16.1 p10.2.1.gA p10.2.1.gC p10.2.1.gB p10.2.1.gD).gA)), (k64 ((aA.mk r16.1 p10.2.1.gA p10.2.1.gC p10.2.1.gB p10.2.1.gD).gC)), (j64 ((aA.mk r16.1 p10.2.1.gA p10.2.1.gC p10.2.1.gB p10.2.1.gD).gB)), (j64 ((aA.mk r16.1 p10.2.1.gA p10.2.1.gC p10.2.1.gB p10.2.1.gD).gD))])⟩ [[.var (.st 26 [(aK.enc a1), (.ref 1 [] 0), (.ref 2 [] 0), (aB.enc r19), (aB.enc p10.1), (j64 a4), (eB (cond p6.2 true r18.gB0)), (aH.enc r1.1)]), .var (.st 38 [(aE.enc a7), (aI.enc a8), (.ifc 88 (.ref 3 [] 0)), (eO 4 1 (eL 2 aD.enc) b4), (aB.enc a9), (.st 3 [(j64 a10.gG), (j64 r1.2.1), (j64 (I64 (a10.gE + 1)))])]), .var (.st 72 [(aS.enc r17.1), (eB ((aA.mk r16.1 p10.2.1.gA p10.2.1.gC p10.2.1.gB p10.2.1.gD).gA)), (k64 ((aA.mk r16.1 p10.2.1.gA p10.2.1.gC p10.2.1.gB p10.2.1.gD).gC)), (j64 ((aA.mk r16.1 p10.2.1.gA p10.2.1.gC p10.2.1.gB p10.2.1.gD).gB)), (j64 ((aA.mk r16.1 p10.2.1.gA p10.2.1.gC p10.2.1.gB p10.2.1.gD).gD))]), .var (aJ.enc p10.2.2), .tail (b4.length * 1), .var (aV.enc r1.2.2.2.1), .var (cI.enc r18), .dead], [.var (.st 26 [(aK.enc a1), (.ref 1 [] 0), (.ref 2 [] 0), (aB.enc r19), (aB.enc p10.1), (j64 a4), (eB (cond p6.2 true r18.gB0)), (aH.enc r1.1)]), .var (.st 38 [(aE.enc a7), (aI.enc a8), (.ifc 88 (.ref 3 [] 0)), (eO 4 1 (eL 2 aD.enc) b4), (aB.enc a9), (.st 3 [(j64 a10.gG), (j64 r1.2.1), (j64 (I64 (a10.gE + 1)))])]), .var (.st 72 [(aS.enc r17.1), (eB ((aA.mk r16.1 p10.2.1.gA p10.2.1.gC p10.2.1.gB p10.2.1.gD).gA)), (k64 ((aA.mk r16.1 p10.2.1.gA p10.2.1.gC p10.2.1.gB p10.2.1.gD).gC)), (j64 ((aA.mk r16.1 p10.2.1.gA p10.2.1.gC p10.2.1.gB p10.2.1.gD).gB)), (j64 ((aA.mk r16.1 p10.2.1.gA p10.2.1.gC p10.2.1.gB p10.2.1.gD).gD))]), .var (aJ.enc p10.2.2), .tail (b4.length * 1), .var (aV.enc r1.2.2.2.1), .var (cI.enc r18), .var (.st 3 [(j64 0), (j64 0), (j64 0)])]] ⟨bO (aL [0, 1, 2, 3, 4] (cC hr22)), bO (aL [0, 1, 2, 3, 4] (cC hr22)), trivial⟩ (dS1 10 ⟨(.ref 7 [] 0), 7, .var (.st 3 [(j64 0), (j64 0), (j64 0)]), .dead⟩ [[.var (.st 26 [(aK.enc a1), (.ref 1 [] 0), (.ref 2 [] 0), (aB.enc r19), (aB.enc p10.1), (j64 a4), (eB (cond p6.2 true r18.gB0)), (aH.enc r1.1)]), .var (.st 38 [(aE.enc a7), (aI.enc a8), (.ifc 88 (.ref 3 [] 0)), (eO 4 1 (eL 2 aD.enc) b4), (aB.enc a9), (.st 3 [(j64 a10.gG), (j64 r1.2.1), (j64 (I64 (a10.gE + 1)))])]), .var (.st 72 [(aS.enc r17.1), (eB ((aA.mk r16.1 p10.2.1.gA p10.2.1.gC p10.2.1.gB p10.2.1.gD).gA)), (k64 ((aA.mk r16.1 p10.2.1.gA p10.2.1.gC p10.2.1.gB p10.2.1.gD).gC)), (j64 ((aA.mk r16.1 p10.2.1.gA p10.2.1.gC p10.2.1.gB p10.2.1.gD).gB)), (j64 ((aA.mk r16.1 p10.2.1.gA p10.2.1.gC p10.2.1.gB p10.2.1.gD).gD))]), .var (aJ.enc p10.2.2), .tail (b4.length * 1), .var (aV.enc r1.2.2.2.1), .var (cI.enc r18), .dead], [.var (.st 26 [(aK.enc a1), (.ref 1 [] 0), (.ref 2 [] 0), (aB.enc r19), (aB.enc p10.1), (j64 a4), (eB (cond p6.2 true r18.gB0)), (aH.enc r1.1)]), .var (.st 38 [(aE.enc a7), (aI.enc a8), (.ifc 88 (.ref 3 [] 0)), (eO 4 1 (eL 2 aD.enc) b4), (aB.enc a9), (.st 3 [(j64 a10.gG), (j64 r1.2.1), (j64 (I64 (a10.gE + 1)))])]), .var (.st 72 [(aS.enc r22.1), (eB ((aA.mk r17.1 ((aA.mk r16.1 p10.2.1.gA p10.2.1.gC p10.2.1.gB p10.2.1.gD).gA) ((aA.mk r16.1 p10.2.1.gA p10.2.1.gC p10.2.1.gB p10.2.1.gD).gC) ((aA.mk r16.1 p10.2.1.gA p10.2.1.gC p10.2.1.gB p10.2.1.gD).gB) ((aA.mk r16.1 p10.2.1.gA p10.2.1.gC p10.2.1.gB p10.2.1.gD).gD)).gA)), (k64 ((aA.mk r17.1 ((aA.mk r16.1 p10.2.1.gA p10.2.1.gC p10.2.1.gB p10.2.1.gD).gA) ((aA.mk r16.1 p10.2.1.gA p10.2.1.gC p10.2.1.gB p10.2.1.gD).gC) ((aA.mk r16.1 p10.2.1.gA p10.2.1.gC p10.2.1.gB p10.2.1.gD).gB) ((aA.mk r16.1 p10.2.1.gA p10.2.1.gC p10.2.1.gB p10.2.1.gD).gD)).gC)), (j64 ((aA.mk r17.1 ((aA.mk r16.1 p10.2.1.gA p10.2.1.gC p10.2.1.gB p10.2.1.gD).gA) ((aA.mk r16.1 p10.2.1.gA p10.2.1.gC p10.2.1.gB p10.2.1.gD).gC) ((aA.mk r16.1 p10.2.1.gA p10.2.1.gC p10.2.1.gB p10.2.1.gD).gB) ((aA.mk r16.1 p10.2.1.gA p10.2.1.gC p10.2.1.gB p10.2.1.gD).gD)).gB)), (j64 ((aA.mk r17.1 ((aA.mk r16.1 p10.2.1.gA p10.2.1.gC p10.2.1.gB p10.2.1.gD).gA) ((aA.mk r16.1 p10.2.1.gA p10.2.1.gC p10.2.1.gB p10.2.1.gD).gC) ((aA.mk r16.1 p10.2.1.gA p10.2.1.gC p10.2.1.gB p10.2.1.gD).gB) ((aA.mk r16.1 p10.2.1.gA p10.2.1.gC p10.2.1.gB p10.2.1.gD).gD)).gD))]), .var (aJ.enc p10.2.2), .tail (b4.length * 1), .var (aV.enc r1.2.2.2.1), .var (cI.enc r18), .dead]] ⟨aW hT 7 (by kernel_rfl) (by kernel_rfl) (by kernel_rfl), aW hT 7 (by kernel_rfl) (by kernel_rfl) (by kernel_rfl), trivial⟩ dS0)) ?_
        refine At.b 8 (fun _ e => aL [0, 1, 2, 3, 4] (fY e)) fun r24 => ?_
        apply rt; exact At.jn 0
       ·apply rt; exact At.jn 0
      ·apply rt; exact At.z 11

def eM (N : Nat) (b2 : (List (List aD))) (a4 : aE) (a5 : aI) (a6 : aB) (a7 : aF) (a8 : aJ) : Nat → aA → (Vector Int 4) → Int → Option (aA × (Vector Int 4))
 | 0, _, _, _ => none
 | k + 1, s9, s10, s11 =>
  cond (decide (s11 < 4)) (
   Option.bind (cV N b2 s11 (aK.mk (aC.mk 0 0 0) (aC.mk 0 0 0) 0) (aB.mk 4294967296 4294967296 4294967296) (aB.mk 0 0 0) 0 false (aH.mk (aB.mk 0 0 0) 0 0 (aB.mk 0 0 0) (-1)) a4 a5 a6 a7 s9 a8) fun r12 =>
   Option.bind (eK s11 4) fun _ =>
   Option.bind (s10.toList[s11.toNat]?) fun e14 =>
   eM N b2 a4 a5 a6 a7 a8 k (aA.mk r12.1 s9.gA s9.gC s9.gB s9.gD) (s10.setIfInBounds s11.toNat r12.2) (I64 (s11 + 1))) (
   some ((s9, s10)))

def dN (N : Nat) (a5 : aI) (b2 : (List (List aD))) (a4 : aE) (a6 : aB) : Nat → aF → aJ → aA → aK → aB → aB → Int → Bool → aH → Option (aF × aJ × aA × aK × aB × aB × Int × Bool × aH)
 | 0, _, _, _, _, _, _, _, _, _ => none
 | k + 1, s17, s18, s19, s20, s21, s22, s23, s24, s25 =>
  Option.bind (aR (decide (s23 ≤ a5.gJ)) fun x27 =>
  cond x27 (
   cond (!s24) (
    some true) (
    some a5.gT)) (
   some false)) fun p26 =>
  cond p26 (
   Option.bind (kC N b2 s20 s21 s22 s23 s24 s25 a4 a5 a6 s17 s19 s18) fun r28 =>
   dN N a5 b2 a4 a6 k (aF.mk s17.gG r28.2.2.2.2.2.1 (I64 (s17.gE + 1))) r28.2.2.2.2.2.2.2 r28.2.2.2.2.2.2.1 r28.1 r28.2.1 r28.2.2.1 (I64 (s23 + 1)) r28.2.2.2.1 r28.2.2.2.2.1) (
   some ((s17, s18, s19, s20, s21, s22, s23, s24, s25)))

def dI (N : Nat) (b2 : (List (List aD))) (a1 : Int) (a2 : Int) (a3 : Int) (a4 : aE) (a5 : aI) (a6 : aB) (a7 : aF) (a8 : aJ) : Option (aF × aJ × aH × Int) :=
 aR (cond (decide (a1 < 0)) true (decide (a1 ≥ a5.gW))) fun x1 =>
 aR (cond x1 true (decide (a2 < 0))) fun x2 =>
 aR (cond x2 true (decide (a2 ≥ a5.gH))) fun x3 =>
 aR (cond x3 true (decide (a3 < 0))) fun x4 =>
 aR (decide (a3 ≥ a5.gS)) fun x5 =>
 cond (cond x4 true x5) (
  some ((a7, a8, aH.mk (aB.mk 0 0 0) 0 0 (aB.mk 0 0 0) 0, 2))) (
  aR (I64 ((I64 (a2 * a5.gW)) + a1)) fun x6 =>
  Option.bind (uR N a5.gA4 x6 a3) fun r7 =>
  Option.bind (eM N b2 a4 a5 a6 a7 a8 N (aA.mk (aS.mk (bS.mk 0 0 0) false (Vector.replicate 64 0)) true a5.gA4 x6 a3) (#v[0, 0, 0, 0]) 0) fun p8 =>
  Option.bind (tZ N a5.gA5 a5.gW a5.gH a1 a2 p8.2) fun r15 =>
  Option.bind (dN N a5 b2 a4 a6 N a7 a8 p8.1 (aK.mk r15.1 r15.2.1 (-1)) (aB.mk 4294967296 4294967296 4294967296) (aB.mk 0 0 0) 0 false (aH.mk (aB.mk 0 0 0) 0 0 (aB.mk 0 0 0) (-1))) fun p16 =>
  some ((p16.1, p16.2.1, aH.mk p16.2.2.2.2.2.1 p16.2.2.2.2.2.2.2.2.gC8 p16.2.2.2.2.2.2.2.2.gJ p16.2.2.2.2.2.2.2.2.gC9 p16.2.2.2.2.2.2.2.2.gB3, 0)))

theorem qU {N b2 a1 a2 a3 a4 a5 a6 a7 a8 r} (h : dI N b2 a1 a2 a3 a4 a5 a6 a7 a8 = some r) : FnM Tryz.prog 13 [.var (.st 38 [(aE.enc a4), (aI.enc a5), (.ifc 88 (.ref 1 [] 0)), (eO 2 1 (eL 2 aD.enc) b2), (aB.enc a6), (aF.enc a7)]), .var (aJ.enc a8), .tail (b2.length * 1)] [(.ref 0 [] 0), (j64 a1), (j64 a2), (j64 a3)] (.tup [(aH.enc r.2.2.1), (j64 r.2.2.2)]) [.var (.st 38 [(aE.enc a4), (aI.enc a5), (.ifc 88 (.ref 1 [] 0)), (eO 2 1 (eL 2 aD.enc) b2), (aB.enc a6), (aF.enc r.1)]), .var (aJ.enc r.2.1), .tail (b2.length * 1)] := by
 unfold dI at h
 refine At.f cU hT hmo Tryz.func13 rfl h ?_
 refine At.o 3 (kR hT (t := 40) (x := (.ref 0 [] 0)) (b := true) (by kernel_rfl) rfl rfl (by kernel_rfl)) ?_
 refine At.g [16] 5 ?_
 refine At.o 0 (aHg (t := 75) (u := 88) (x := (.ref 1 [] 0)) (by kernel_rfl) rfl rfl .eql false (by decide) (by kernel_rfl)) ?_
 refine lx ?_; intro x1
 refine lx ?_; intro x2
 refine lx ?_; intro x3
 refine lx ?_; intro x4
 refine lx ?_; intro x5
 refine At.g [16] 41 ?_
 refine At.c 0 ?_ ?_
 ·apply rt; exact At.r 3
 ·refine lx ?_; intro x6
  refine bi fun r7 hr7 => ?_
  refine At.d 0 dE0 (dF 16 (.ref 4 [] 0) [] [.var (.st 72 [cv_5, (eB true), (k64 a5.gA4), (j64 x6), (j64 a3)])] (bO (aL [] (aCB hr7))) dF0) ?_
  refine At.L 2 [0, 1, 2, 8, 10, 11] 7 (fun p8 => ([], [(4, .var (aA.enc p8.1)), (6, .var (eA 4 1 k32 p8.2))], [])) (fun p8 J k => ∃ s9 s10 s11, eM N b2 a4 a5 a6 a7 a8 k s9 s10 s11 = some p8 ∧ J [0, 1, 2, 8, 10, 11] 7 [(84, (j64 s11))] [(4, .var (aA.enc s9)), (6, .var (eA 4 1 k32 s10))] []) N (fun _ h => ⟨_, _, _, h, jr⟩) (fun p8 k s hI => ?_) fun p8 => ?_
  ·obtain ⟨s9, s10, s11, h, hj⟩ := hI
   cases k with
   | zero => cases h
   | succ k =>
    refine At.jr hj ?_ h
    refine At.c 1 ?_ ?_
    ·refine At.b 5 (fun _ e => aL [5, 0, 4, 1, 2] (cC e)) fun r12 => ?_
     refine At.b 0 (fun _ e => bD hT (k := 1) 6 [] 0 e) fun u13 => ?_
     refine At.b 0 (fun _ e => nB hT k32 0 s10 e r12.2 (by kernel_rfl) (by kernel_rfl) (H' := [.var (.st 38 [(aE.enc a4), (aI.enc a5), (.ifc 88 (.ref 1 [] 0)), (eO 2 1 (eL 2 aD.enc) b2), (aB.enc a6), (aF.enc a7)]), .var (aJ.enc a8), .tail (b2.length * 1), .var cv_6, .var (.st 72 [(aS.enc r12.1), (eB s9.gA), (k64 s9.gC), (j64 s9.gB), (j64 s9.gD)]), .var cv_7, .var (eA 4 1 k32 (s10.setIfInBounds s11.toNat r12.2))])) fun e14 => ?_
     exact fun h => At.k 2 ⟨_, _, _, h, jr⟩
    ·apply rt; exact At.x 0
  ·refine bi fun r15 hr15 => ?_
   refine At.d 5 (dE2 20 (.tup [(aC.enc r15.1), (aC.enc r15.2.1), (j64 r15.2.2)]) (fun _ => aN (aEA hr15)) dE0) dF0 ?_
   refine At.L 0 [8, 10] 7 (fun p16 => ([], [(0, .var (.st 38 [(aE.enc a4), (aI.enc a5), (.ifc 88 (.ref 1 [] 0)), (eO 2 1 (eL 2 aD.enc) b2), (aB.enc a6), (aF.enc p16.1)])), (1, .var (aJ.enc p16.2.1)), (4, .var (aA.enc p16.2.2.1)), (5, .var (.st 26 [(aK.enc p16.2.2.2.1), (.ref 0 [] 0), (.ref 4 [] 0), (aB.enc p16.2.2.2.2.1), (aB.enc p16.2.2.2.2.2.1), (j64 p16.2.2.2.2.2.2.1), (eB p16.2.2.2.2.2.2.2.1), (aH.enc p16.2.2.2.2.2.2.2.2)]))], [])) (fun p16 J k => ∃ s17 s18 s19 s20 s21 s22 s23 s24 s25, dN N a5 b2 a4 a6 k s17 s18 s19 s20 s21 s22 s23 s24 s25 = some p16 ∧ J [0, 8, 10] 7 [] [(0, .var (.st 38 [(aE.enc a4), (aI.enc a5), (.ifc 88 (.ref 1 [] 0)), (eO 2 1 (eL 2 aD.enc) b2), (aB.enc a6), (aF.enc s17)])), (1, .var (aJ.enc s18)), (4, .var (aA.enc s19)), (5, .var (.st 26 [(aK.enc s20), (.ref 0 [] 0), (.ref 4 [] 0), (aB.enc s21), (aB.enc s22), (j64 s23), (eB s24), (aH.enc s25)]))] []) N (fun _ h => ⟨_, _, _, _, _, _, _, _, _, h, jr⟩) (fun p16 k s hI => ?_) fun p16 => ?_
   ·obtain ⟨s17, s18, s19, s20, s21, s22, s23, s24, s25, h, hj⟩ := hI
    cases k with
    | zero => cases h
    | succ k =>
     refine At.jr hj ?_ h
     refine At.J 0 0 [0, 8, 10] 7 (fun p26 => ([(151, (eB p26))], [], [])) (fun p26 => ?_) fun p26 => ?_
     ·refine lx ?_; intro x27
      refine boI (fun hc10 => ?_) (fun hc10 => ?_)
      ·refine boI (fun hc16 => ?_) (fun hc16 => ?_)
       ·refine At.d 0 (dE1 10 (fun _ => cT hc10 rfl (cN hT (im := false) (by kernel_rfl))) (dE1 16 (fun _ => cT hc16 rfl (cN hT (im := false) (by kernel_rfl))) dE0)) dF0 ?_
        apply rt; exact At.jn 0
       ·refine At.d 0 (dE1 10 (fun _ => cT hc10 rfl (cN hT (im := false) (by kernel_rfl))) (dE1 16 (fun _ => cT hc16 rfl (cN hT (im := false) (by kernel_rfl))) dE0)) dF0 ?_
        apply rt; exact At.jn 0
      ·refine At.d 0 (dE1 10 (fun _ => cT hc10 rfl (cN hT (im := false) (by kernel_rfl))) dE0) dF0 ?_
       apply rt; exact At.jn 0
     ·refine At.c 0 ?_ ?_
      ·refine At.b 1 (fun _ e => aL [5, 0, 4, 1, 2] (aAp e)) fun r28 => ?_
       exact fun h => At.k 8 ⟨_, _, _, _, _, _, _, _, _, h, jr⟩
      ·apply rt; exact At.x 0
   ·apply rt; exact At.r 15

def qO (N : Nat) (a0 : aJ) : Option (Int) :=
 Option.bind (fV N a0) fun r1 =>
 cond r1 (some 0) (some a0.gD0.gn)

theorem aAX {N a0 r} (h : qO N a0 = some r) : FnM Tryz.prog 291 [.var (aJ.enc a0)] [(.ref 0 [] 0)] (j64 r) [.var (aJ.enc a0)] := by
 unfold qO at h
 refine At.f cU hT hmo Tryz.func291 rfl h ?_
 refine At.b 2 (fun _ e => aL [0] (qP e)) fun r1 => ?_
 refine At.c 0 ?_ ?_
 ·apply rt; exact At.r 1
 ·apply rt; exact At.r 6

def hJ (N : Nat) (b2 : (List (List aD))) (a1 : aE) (a2 : aI) (a3 : aB) (a4 : aF) (a5 : aJ) : Option (aF) :=
 Option.bind (qO N a5) fun r1 =>
 some (aF.mk r1 a4.gK a4.gE)

theorem pJ {N b2 a1 a2 a3 a4 a5 r} (h : hJ N b2 a1 a2 a3 a4 a5 = some r) : FnM Tryz.prog 21 [.var (.st 38 [(aE.enc a1), (aI.enc a2), (.ifc 88 (.ref 1 [] 0)), (eO 2 1 (eL 2 aD.enc) b2), (aB.enc a3), (aF.enc a4)]), .var (aJ.enc a5), .tail (b2.length * 1)] [(.ref 0 [] 0)] (aF.enc r) [.var (.st 38 [(aE.enc a1), (aI.enc a2), (.ifc 88 (.ref 1 [] 0)), (eO 2 1 (eL 2 aD.enc) b2), (aB.enc a3), (aF.enc a4)]), .var (aJ.enc a5), .tail (b2.length * 1)] := by
 unfold hJ at h
 refine At.f cU hT hmo Tryz.func21 rfl h ?_
 refine At.o 2 (kR hT (t := 40) (x := (.ref 0 [] 0)) (b := true) (by kernel_rfl) rfl rfl (by kernel_rfl)) ?_
 refine At.g [6] 5 ?_
 refine At.o 0 (aHg (t := 75) (u := 88) (x := (.ref 1 [] 0)) (by kernel_rfl) rfl rfl .eql false (by decide) (by kernel_rfl)) ?_
 refine At.g [6] 12 ?_
 refine At.b 0 (fun _ e => aL [1] (aAX e)) fun r1 => ?_
 apply rt; exact At.r 4


def mY (N : Nat) (a2 : aI) : Nat → Option (Unit)
 | 0 => none
 | k + 1 =>
  cond (decide (0 < 3)) (
   Option.bind (aDs .i64 0 a2.gW) fun x40 =>
   Option.bind (aDs .i64 0 a2.gH) fun x41 =>
   none) (
   some (()))

def mX (N : Nat) (a2 : aI) : Nat → Option (Unit)
 | 0 => none
 | k + 1 =>
  cond (decide (0 < 3)) (
   Option.bind (aDs .i64 0 a2.gW) fun x50 =>
   Option.bind (aDs .i64 0 a2.gH) fun x51 =>
   none) (
   some (()))

def mT (N : Nat) (a2 : aI) : Nat → Option (Unit)
 | 0 => none
 | k + 1 =>
  cond (decide (0 < 3)) (
   Option.bind (aDs .i64 0 a2.gW) fun x69 =>
   Option.bind (aDs .i64 0 a2.gH) fun x70 =>
   none) (
   some (()))

def fU (N : Nat) (a2 : aI) (r6 : (List aG) × (List aQ) × (List aP) × (List (List aD)) × aB × (List aG) × Int) (r56 : (List aG) × (List aQ) × (List aP) × (List (List aD)) × aB × (List aG) × Int) (r75 : aF) : Nat → aE → aI → aF → aJ → aE → aI → aF → aJ → aF → Int → Option (Sum (aE × aI × aF × aJ × aE × aI × aF × aJ × aF) (Bool))
 | 0, _, _, _, _, _, _, _, _, _, _ => none
 | k + 1, s79, s80, s81, s82, s83, s84, s85, s86, s87, s88 =>
  cond (decide (s88 < 3)) (
   Option.bind (aDs .i64 s88 a2.gW) fun x89 =>
   Option.bind (aDs .i64 s88 a2.gH) fun x90 =>
   Option.bind (dI N r6.2.2.2.1 x89 x90 0 s79 s80 r6.2.2.2.2.1 s81 s82) fun r91 =>
   Option.bind (dI N r56.2.2.2.1 (I64 (a2.gW - 1)) 0 (I64 (a2.gS - 1)) s83 s84 r56.2.2.2.2.1 s85 s86) fun r92 =>
   aR (I64 (s87.gG + r75.gG)) fun x93 =>
   aR (I64 (s87.gK + r75.gK)) fun x94 =>
   aR (I64 (s87.gE + r75.gE)) fun x95 =>
   Option.bind (Option.bind (hJ N r6.2.2.2.1 s79 s80 r6.2.2.2.2.1 r91.1 r91.2.1) fun r97 =>
   aR (!(aF.eq r97 (aF.mk ((I64 (s87.gG + r75.gG))) ((I64 (s87.gK + r75.gK))) ((I64 (s87.gE + r75.gE)))))) fun x98 =>
   cond x98 (
    some true) (
    Option.bind (hJ N r56.2.2.2.1 s83 s84 r56.2.2.2.2.1 r92.1 r92.2.1) fun r99 =>
    some (!(aF.eq r99 (aF.mk ((I64 (s87.gG + r75.gG))) ((I64 (s87.gK + r75.gK))) ((I64 (s87.gE + r75.gE)))))))) fun p96 =>
   cond p96 (
    some (Sum.inr false)) (
    fU N a2 r6 r56 r75 k s79 s80 r91.1 r91.2.1 s83 s84 r92.1 r92.2.1 (aF.mk ((I64 (s87.gG + r75.gG))) ((I64 (s87.gK + r75.gK))) ((I64 (s87.gE + r75.gE)))) (I64 (s88 + 1)))) (
   some (Sum.inl ((s79, s80, s81, s82, s83, s84, s85, s86, s87))))

def iO (N : Nat) (a0 : aE) (a1 : aE) (a2 : aI) : Option (Bool) :=
 Option.bind (mL N a0) fun r1 =>
 Option.bind (mL N a1) fun r2 =>
 Option.bind (iP N r1 (aI.mk a2.gW a2.gH a2.gS a2.gJ a2.gI a2.gA4 a2.gA5 true)) fun q =>
 jU q (fun r4 =>
  Option.bind (iP N r2 (aI.mk a2.gW a2.gH a2.gS a2.gJ a2.gI (U64 (a2.gA4 + 1)) a2.gA5 true)) fun q =>
  jU q (fun r10 =>
   Option.bind (aR (cond (r4 != 0) true (r10 != 0)) fun x16 =>
   cond x16 (
    some (())) (
    some (()))) fun p15 =>
   Option.bind (bL N ) fun r17 =>
   some r17) (fun q =>
  jU q (fun r11 =>
   Option.bind (aR (cond (r4 != 0) true (r11.2.2.2.2.2 != 0)) fun x19 =>
   cond x19 (
    some (())) (
    some (()))) fun p18 =>
   Option.bind (bL N ) fun r20 =>
   some r20) (fun q =>
  jU q (fun r12 =>
   Option.bind (aR (cond (r4 != 0) true (r12.2.2.2.2.2.2 != 0)) fun x22 =>
   cond x22 (
    some (())) (
    some (()))) fun p21 =>
   Option.bind (bL N ) fun r23 =>
   some r23) (fun q =>
  jU q (fun r13 =>
   none) (fun r14 =>
   none))))) (fun q =>
 jU q (fun r5 =>
  Option.bind (iP N r2 (aI.mk a2.gW a2.gH a2.gS a2.gJ a2.gI (U64 (a2.gA4 + 1)) a2.gA5 true)) fun q =>
  jU q (fun r25 =>
   Option.bind (aR (cond (r5.2.2.2.2.2 != 0) true (r25 != 0)) fun x31 =>
   cond x31 (
    some (())) (
    some (()))) fun p30 =>
   Option.bind (bL N ) fun r32 =>
   some r32) (fun q =>
  jU q (fun r26 =>
   Option.bind (aR (cond (r5.2.2.2.2.2 != 0) true (r26.2.2.2.2.2 != 0)) fun x34 =>
   cond x34 (
    some true) (
    some false)) fun p33 =>
   cond p33 (
    Option.bind (bL N ) fun r35 =>
    some r35) (
    Option.bind (iR N (aI.mk a2.gW a2.gH a2.gS a2.gJ a2.gI a2.gA4 a2.gA5 true)) fun r36 =>
    aR (decide (r36.gE < 1)) fun x37 =>
    aR (decide (r36.gG < 16)) fun x38 =>
    cond (cond x37 true x38) (
     some false) (
     Option.bind (mY N a2 N ) fun p39 =>
     Option.bind (bL N ) fun r42 =>
     some r42))) (fun q =>
  jU q (fun r27 =>
   Option.bind (aR (cond (r5.2.2.2.2.2 != 0) true (r27.2.2.2.2.2.2 != 0)) fun x44 =>
   cond x44 (
    some true) (
    some false)) fun p43 =>
   cond p43 (
    Option.bind (bL N ) fun r45 =>
    some r45) (
    Option.bind (iR N (aI.mk a2.gW a2.gH a2.gS a2.gJ a2.gI a2.gA4 a2.gA5 true)) fun r46 =>
    aR (decide (r46.gE < 1)) fun x47 =>
    aR (decide (r46.gG < 16)) fun x48 =>
    cond (cond x47 true x48) (
     some false) (
     Option.bind (mX N a2 N ) fun p49 =>
     Option.bind (bL N ) fun r52 =>
     some r52))) (fun q =>
  jU q (fun r28 =>
   none) (fun r29 =>
   none))))) (fun q =>
 jU q (fun r6 =>
  Option.bind (iP N r2 (aI.mk a2.gW a2.gH a2.gS a2.gJ a2.gI (U64 (a2.gA4 + 1)) a2.gA5 true)) fun q =>
  jU q (fun r54 =>
   Option.bind (aR (cond (r6.2.2.2.2.2.2 != 0) true (r54 != 0)) fun x60 =>
   cond x60 (
    some (())) (
    some (()))) fun p59 =>
   Option.bind (bL N ) fun r61 =>
   some r61) (fun q =>
  jU q (fun r55 =>
   Option.bind (aR (cond (r6.2.2.2.2.2.2 != 0) true (r55.2.2.2.2.2 != 0)) fun x63 =>
   cond x63 (
    some true) (
    some false)) fun p62 =>
   cond p62 (
    Option.bind (bL N ) fun r64 =>
    some r64) (
    Option.bind (iR N (aI.mk a2.gW a2.gH a2.gS a2.gJ a2.gI a2.gA4 a2.gA5 true)) fun r65 =>
    aR (decide (r65.gE < 1)) fun x66 =>
    aR (decide (r65.gG < 16)) fun x67 =>
    cond (cond x66 true x67) (
     some false) (
     Option.bind (mT N a2 N ) fun p68 =>
     Option.bind (bL N ) fun r71 =>
     some r71))) (fun q =>
  jU q (fun r56 =>
   Option.bind (aR (cond (r6.2.2.2.2.2.2 != 0) true (r56.2.2.2.2.2.2 != 0)) fun x73 =>
   cond x73 (
    some true) (
    some false)) fun p72 =>
   cond p72 (
    Option.bind (bL N ) fun r74 =>
    some r74) (
    Option.bind (iR N (aI.mk a2.gW a2.gH a2.gS a2.gJ a2.gI a2.gA4 a2.gA5 true)) fun r75 =>
    aR (decide (r75.gE < 1)) fun x76 =>
    aR (decide (r75.gG < 16)) fun x77 =>
    cond (cond x76 true x77) (
     some false) (
     Option.bind (fU N a2 r6 r56 r75 N (aE.mk r6.1 r6.2.1 r1.gR r6.2.2.1 r1.gA7 r1.gA8 r1.gB4 r1.gB5 r1.gTo) ((aI.mk a2.gW a2.gH a2.gS a2.gJ a2.gI a2.gA4 a2.gA5 true)) (aF.mk 0 0 0) (aJ.mk (iW.mk 0) true r6.2.2.2.2.2.1) (aE.mk r56.1 r56.2.1 r2.gR r56.2.2.1 r2.gA7 r2.gA8 r2.gB4 r2.gB5 r2.gTo) ((aI.mk a2.gW a2.gH a2.gS a2.gJ a2.gI (U64 (a2.gA4 + 1)) a2.gA5 true)) (aF.mk 0 0 0) (aJ.mk (iW.mk 0) true r56.2.2.2.2.2.1) (aF.mk 0 0 0) 0) fun o => jU o (fun p78 =>
      Option.bind (bL N ) fun r100 =>
      some r100) (fun r => some r)))) (fun q =>
  jU q (fun r57 =>
   none) (fun r58 =>
   none))))) (fun q =>
 jU q (fun r7 =>
  none) (fun r8 =>
  none))))

theorem aAB {N a0 a1 a2 r} (h : iO N a0 a1 a2 = some r) : FnM Tryz.prog 9 [] [(aE.enc a0), (aE.enc a1), (aI.enc a2)] (eB r) [] := by
 unfold iO at h
 refine At.f cU hT hmo Tryz.func9 rfl h ?_
 refine bi fun r1 hr1 => ?_
 refine bi fun r2 hr2 => ?_
 refine At.d 4 (dE2 1 (aE.enc r1) (fun _ => aN (yX hr1)) (dE2 3 (aE.enc r2) (fun _ => aN (yX hr2)) dE0)) dF0 ?_
 refine aKW (fun r4 hr4 => ?_) (fun q hq => ?_)
 ·refine At.o 12 (aL [] (vB hr4)) ?_
  refine aKW (fun r10 hr10 => ?_) (fun q hq => ?_)
  ·refine At.o 7 (aL [] (vB hr10)) ?_
   refine At.J 5 0 [5, 8, 10] 4 (fun p15 => ([(50, (eB true))], [], [])) (fun p15 => ?_) fun p15 => ?_
   ·refine lx ?_; intro x16
    refine At.s 43 7 ?_ ?_
    ·refine At.g [43, 47] 7 ?_
     apply rt; exact At.jn 0
    ·refine At.g [43] 1 ?_
     refine At.o 0 (kR hT (t := 40) (x := (.v (.pointer none))) (b := false) (by kernel_rfl) rfl rfl (by kernel_rfl)) ?_
     refine At.g [43, 47] 5 ?_
     apply rt; exact At.jn 0
   ·refine At.b 1 (fun _ e => aL [] (cK e)) fun r17 => ?_
    apply rt; exact At.r 1
  ·refine aCK (fun r11 e => ?_) (fun q e => ?_)
   ·subst e
    have hr11 := hq
    refine At.o 7 (aL [] (vD hr11)) ?_
    refine At.J 5 0 [5, 8, 10] 5 (fun p18 => ([(50, (eB true))], [], [])) (fun p18 => ?_) fun p18 => ?_
    ·refine lx ?_; intro x19
     refine At.s 43 7 ?_ ?_
     ·refine At.g [43, 47] 7 ?_
      apply rt; exact At.jn 0
     ·refine At.g [43] 1 ?_
      refine At.o 0 (kR hT (t := 40) (x := (.v (.pointer none))) (b := false) (by kernel_rfl) rfl rfl (by kernel_rfl)) ?_
      refine At.g [43, 47] 5 ?_
      apply rt; exact At.jn 0
    ·refine At.b 1 (fun _ e => aL [] (cK e)) fun r20 => ?_
     apply rt; exact At.r 1
   ·subst e
    have hq := hq
    refine aCK (fun r12 e => ?_) (fun q e => ?_)
    ·subst e
     have hr12 := hq
     refine At.o 7 (aL [] (uZ hr12)) ?_
     refine At.J 5 0 [5, 8, 10] 11 (fun p21 => ([(50, (eB true))], [], [])) (fun p21 => ?_) fun p21 => ?_
     ·refine lx ?_; intro x22
      refine At.s 43 7 ?_ ?_
      ·refine At.g [43, 47] 7 ?_
       apply rt; exact At.jn 0
      ·refine At.g [43] 1 ?_
       refine At.o 0 (kR hT (t := 40) (x := (.v (.pointer none))) (b := false) (by kernel_rfl) rfl rfl (by kernel_rfl)) ?_
       refine At.g [43, 47] 5 ?_
       apply rt; exact At.jn 0
     ·refine At.b 1 (fun _ e => aL [] (cK e)) fun r23 => ?_
      apply rt; exact At.r 1
    ·subst e
     have hq := hq
     refine aCK (fun r13 e => ?_) (fun r14 e => ?_)
     ·subst e
      have hr13 := hq
      exact nn
     ·subst e
      have hr14 := hq
      exact nn
 ·refine aCK (fun r5 e => ?_) (fun q e => ?_)
  ·subst e
   have hr5 := hq
   refine At.o 12 (aL [] (vD hr5)) ?_
   refine aKW (fun r25 hr25 => ?_) (fun q hq => ?_)
   ·refine At.o 7 (aL [] (vB hr25)) ?_
    refine At.J 5 0 [5, 8, 10] 5 (fun p30 => ([(50, (eB true))], [], [])) (fun p30 => ?_) fun p30 => ?_
    ·refine lx ?_; intro x31
     refine At.s 43 7 ?_ ?_
     ·refine At.g [43, 47] 7 ?_
      apply rt; exact At.jn 0
     ·refine At.g [43] 1 ?_
      refine At.o 0 (kR hT (t := 40) (x := (.ref 4 [] 0)) (b := true) (by kernel_rfl) rfl rfl (by kernel_rfl)) ?_
      refine At.g [43, 47] 3 ?_
      refine At.o 0 (kR hT (t := 40) (x := (.v (.pointer none))) (b := false) (by kernel_rfl) rfl rfl (by kernel_rfl)) ?_
      refine At.g [47] 1 ?_
      apply rt; exact At.jn 0
    ·refine At.b 1 (fun _ e => aL [] (cK e)) fun r32 => ?_
     apply rt; exact At.r 1
   ·refine aCK (fun r26 e => ?_) (fun q e => ?_)
    ·subst e
     have hr26 := hq
     refine At.o 7 (aL [] (vD hr26)) ?_
     refine At.J 5 0 [5, 8, 10] 6 (fun p33 => ([(50, (eB p33))], [], [])) (fun p33 => ?_) fun p33 => ?_
     ·refine lx ?_; intro x34
      refine At.s 43 7 ?_ ?_
      ·refine At.g [43, 47] 7 ?_
       apply rt; exact At.jn 0
      ·refine At.g [43] 1 ?_
       refine At.o 0 (kR hT (t := 40) (x := (.ref 4 [] 0)) (b := true) (by kernel_rfl) rfl rfl (by kernel_rfl)) ?_
       refine At.g [43, 47] 3 ?_
       refine At.o 0 (kR hT (t := 40) (x := (.ref 5 [] 0)) (b := true) (by kernel_rfl) rfl rfl (by kernel_rfl)) ?_
       refine At.g [47] 1 ?_
       apply rt; exact At.jn 0
     ·refine At.c 0 ?_ ?_
      ·refine At.b 0 (fun _ e => aL [] (cK e)) fun r35 => ?_
       apply rt; exact At.r 1
      ·refine At.b 1 (fun _ e => aL [] (qR e)) fun r36 => ?_
       refine lx ?_; intro x37
       refine lx ?_; intro x38
       refine At.c 10 ?_ ?_
       ·apply rt; exact At.r 1
       ·refine At.L 4 [] 8 (fun p39 => ([], [], [])) (fun p39 J k => mY N a2 k  = some p39 ∧ J [5, 8, 10, 12, 13, 14] 8 [] [] []) N (fun _ h => ⟨h, jr⟩) (fun p39 k s hI => ?_) fun p39 => ?_
        ·obtain ⟨h, hj⟩ := hI
         cases k with
         | zero => cases h
         | succ k =>
          unfold mY at h
          dsimp only at h
          refine At.jr hj ?_ h
          refine At.c 2 ?_ ?_
          ·refine bi fun x40 hx40 => ?_
           refine bi fun x41 hx41 => ?_
           exact nn
          ·apply rt; exact At.x 0
        ·refine At.b 0 (fun _ e => aL [] (cK e)) fun r42 => ?_
         apply rt; exact At.r 1
    ·subst e
     have hq := hq
     refine aCK (fun r27 e => ?_) (fun q e => ?_)
     ·subst e
      have hr27 := hq
      refine At.o 7 (aL [] (uZ hr27)) ?_
      refine At.J 5 0 [5, 8, 10] 12 (fun p43 => ([(50, (eB p43))], [], [])) (fun p43 => ?_) fun p43 => ?_
      ·refine lx ?_; intro x44
       refine At.s 43 7 ?_ ?_
       ·refine At.g [43, 47] 7 ?_
        apply rt; exact At.jn 0
       ·refine At.g [43] 1 ?_
        refine At.o 0 (kR hT (t := 40) (x := (.ref 4 [] 0)) (b := true) (by kernel_rfl) rfl rfl (by kernel_rfl)) ?_
        refine At.g [43, 47] 3 ?_
        refine At.o 0 (kR hT (t := 40) (x := (.ref 5 [] 0)) (b := true) (by kernel_rfl) rfl rfl (by kernel_rfl)) ?_
        refine At.g [47] 1 ?_
        apply rt; exact At.jn 0
      ·refine At.c 0 ?_ ?_
       ·refine At.b 0 (fun _ e => aL [] (cK e)) fun r45 => ?_
        apply rt; exact At.r 1
       ·refine At.b 1 (fun _ e => aL [] (qR e)) fun r46 => ?_
        refine lx ?_; intro x47
        refine lx ?_; intro x48
        refine At.c 10 ?_ ?_
        ·apply rt; exact At.r 1
        ·refine At.L 4 [] 14 (fun p49 => ([], [], [])) (fun p49 J k => mX N a2 k  = some p49 ∧ J [5, 8, 10, 12, 13, 14] 14 [] [] []) N (fun _ h => ⟨h, jr⟩) (fun p49 k s hI => ?_) fun p49 => ?_
         ·obtain ⟨h, hj⟩ := hI
          cases k with
          | zero => cases h
          | succ k =>
           unfold mX at h
           dsimp only at h
           refine At.jr hj ?_ h
           refine At.c 2 ?_ ?_
           ·refine bi fun x50 hx50 => ?_
            refine bi fun x51 hx51 => ?_
            exact nn
           ·apply rt; exact At.x 0
         ·refine At.b 0 (fun _ e => aL [] (cK e)) fun r52 => ?_
          apply rt; exact At.r 1
     ·subst e
      have hq := hq
      refine aCK (fun r28 e => ?_) (fun r29 e => ?_)
      ·subst e
       have hr28 := hq
       exact nn
      ·subst e
       have hr29 := hq
       exact nn
  ·subst e
   have hq := hq
   refine aCK (fun r6 e => ?_) (fun q e => ?_)
   ·subst e
    have hr6 := hq
    refine At.o 12 (aL [] (uZ hr6)) ?_
    refine aKW (fun r54 hr54 => ?_) (fun q hq => ?_)
    ·refine At.o 7 (aL [] (vB hr54)) ?_
     refine At.J 5 0 [5, 8, 10] 11 (fun p59 => ([(50, (eB true))], [], [])) (fun p59 => ?_) fun p59 => ?_
     ·refine lx ?_; intro x60
      refine At.s 43 7 ?_ ?_
      ·refine At.g [43, 47] 7 ?_
       apply rt; exact At.jn 0
      ·refine At.g [43] 1 ?_
       refine At.o 0 (kR hT (t := 40) (x := (.ref 4 [] 0)) (b := true) (by kernel_rfl) rfl rfl (by kernel_rfl)) ?_
       refine At.g [43, 47] 3 ?_
       refine At.o 0 (kR hT (t := 40) (x := (.v (.pointer none))) (b := false) (by kernel_rfl) rfl rfl (by kernel_rfl)) ?_
       refine At.g [47] 1 ?_
       apply rt; exact At.jn 0
     ·refine At.b 1 (fun _ e => aL [] (cK e)) fun r61 => ?_
      apply rt; exact At.r 1
    ·refine aCK (fun r55 e => ?_) (fun q e => ?_)
     ·subst e
      have hr55 := hq
      refine At.o 7 (aL [] (vD hr55)) ?_
      refine At.J 5 0 [5, 8, 10] 12 (fun p62 => ([(50, (eB p62))], [], [])) (fun p62 => ?_) fun p62 => ?_
      ·refine lx ?_; intro x63
       refine At.s 43 7 ?_ ?_
       ·refine At.g [43, 47] 7 ?_
        apply rt; exact At.jn 0
       ·refine At.g [43] 1 ?_
        refine At.o 0 (kR hT (t := 40) (x := (.ref 4 [] 0)) (b := true) (by kernel_rfl) rfl rfl (by kernel_rfl)) ?_
        refine At.g [43, 47] 3 ?_
        refine At.o 0 (kR hT (t := 40) (x := (.ref 11 [] 0)) (b := true) (by kernel_rfl) rfl rfl (by kernel_rfl)) ?_
        refine At.g [47] 1 ?_
        apply rt; exact At.jn 0
      ·refine At.c 0 ?_ ?_
       ·refine At.b 0 (fun _ e => aL [] (cK e)) fun r64 => ?_
        apply rt; exact At.r 1
       ·refine At.b 1 (fun _ e => aL [] (qR e)) fun r65 => ?_
        refine lx ?_; intro x66
        refine lx ?_; intro x67
        refine At.c 10 ?_ ?_
        ·apply rt; exact At.r 1
        ·refine At.L 4 [] 14 (fun p68 => ([], [], [])) (fun p68 J k => mT N a2 k  = some p68 ∧ J [5, 8, 10, 12, 13, 14] 14 [] [] []) N (fun _ h => ⟨h, jr⟩) (fun p68 k s hI => ?_) fun p68 => ?_
         ·obtain ⟨h, hj⟩ := hI
          cases k with
          | zero => cases h
          | succ k =>
           unfold mT at h
           dsimp only at h
           refine At.jr hj ?_ h
           refine At.c 2 ?_ ?_
           ·refine bi fun x69 hx69 => ?_
            refine bi fun x70 hx70 => ?_
            exact nn
           ·apply rt; exact At.x 0
         ·refine At.b 0 (fun _ e => aL [] (cK e)) fun r71 => ?_
          apply rt; exact At.r 1
     ·subst e
      have hq := hq
      refine aCK (fun r56 e => ?_) (fun q e => ?_)
      ·subst e
       have hr56 := hq
       refine At.o 7 (aL [] (uZ hr56)) ?_
       refine At.J 5 0 [5, 8, 10] 18 (fun p72 => ([(50, (eB p72))], [], [])) (fun p72 => ?_) fun p72 => ?_
       ·refine lx ?_; intro x73
        refine At.s 43 7 ?_ ?_
        ·refine At.g [43, 47] 7 ?_
         apply rt; exact At.jn 0
        ·refine At.g [43] 1 ?_
         refine At.o 0 (kR hT (t := 40) (x := (.ref 4 [] 0)) (b := true) (by kernel_rfl) rfl rfl (by kernel_rfl)) ?_
         refine At.g [43, 47] 3 ?_
         refine At.o 0 (kR hT (t := 40) (x := (.ref 11 [] 0)) (b := true) (by kernel_rfl) rfl rfl (by kernel_rfl)) ?_
         refine At.g [47] 1 ?_
         apply rt; exact At.jn 0
       ·refine At.c 0 ?_ ?_
        ·refine At.b 0 (fun _ e => aL [] (cK e)) fun r74 => ?_
         apply rt; exact At.r 1
        ·refine At.b 1 (fun _ e => aL [] (qR e)) fun r75 => ?_
         refine lx ?_; intro x76
         refine lx ?_; intro x77
         refine At.c 10 ?_ ?_
         ·apply rt; exact At.r 1
         ·refine At.LS 4 [] 20 (fun p78 => ([], [(4, .var (.st 38 [(aE.enc p78.1), (aI.enc p78.2.1), (.ifc 88 (.ref 10 [] 0)), (eO 8 1 (eL 2 aD.enc) r6.2.2.2.1), (aB.enc r6.2.2.2.2.1), (aF.enc p78.2.2.1)])), (10, .var (aJ.enc p78.2.2.2.1)), (11, .var (.st 38 [(aE.enc p78.2.2.2.2.1), (aI.enc p78.2.2.2.2.2.1), (.ifc 88 (.ref 17 [] 0)), (eO 15 1 (eL 2 aD.enc) r56.2.2.2.1), (aB.enc r56.2.2.2.2.1), (aF.enc p78.2.2.2.2.2.2.1)])), (17, .var (aJ.enc p78.2.2.2.2.2.2.2.1)), (19, .var (aF.enc p78.2.2.2.2.2.2.2.2))], [])) (fun op78 J k => ∃ s79 s80 s81 s82 s83 s84 s85 s86 s87 s88, fU N a2 r6 r56 r75 k s79 s80 s81 s82 s83 s84 s85 s86 s87 s88 = some op78 ∧ J [5, 8, 10, 12, 13] 20 [(14, (j64 s88))] [(4, .var (.st 38 [(aE.enc s79), (aI.enc s80), (.ifc 88 (.ref 10 [] 0)), (eO 8 1 (eL 2 aD.enc) r6.2.2.2.1), (aB.enc r6.2.2.2.2.1), (aF.enc s81)])), (10, .var (aJ.enc s82)), (11, .var (.st 38 [(aE.enc s83), (aI.enc s84), (.ifc 88 (.ref 17 [] 0)), (eO 15 1 (eL 2 aD.enc) r56.2.2.2.1), (aB.enc r56.2.2.2.2.1), (aF.enc s85)])), (17, .var (aJ.enc s86)), (19, .var (aF.enc s87))] []) N (fun _ h => ⟨_, _, _, _, _, _, _, _, _, _, h, jr⟩) (fun op78 g78 k s hI => ?_) fun p78 => ?_
          ·obtain ⟨s79, s80, s81, s82, s83, s84, s85, s86, s87, s88, h, hj⟩ := hI
           cases k with
           | zero => cases h
           | succ k =>
            refine At.jr hj ?_ h
            refine At.c 2 ?_ ?_
            ·refine bi fun x89 hx89 => ?_
             refine bi fun x90 hx90 => ?_
             refine bi fun r91 hr91 => ?_
             refine At.d 0 (dE1 4 (fun _ => aEs hT hx89 (by kernel_rfl) (by kernel_rfl)) (dE1 8 (fun _ => aEs hT hx90 (by kernel_rfl) (by kernel_rfl)) dE0)) (dF 9 (.tup [(aH.enc r91.2.2.1), (j64 r91.2.2.2)]) [(4, .var (.st 38 [(aE.enc s79), (aI.enc s80), (.ifc 88 (.ref 10 [] 0)), (eO 8 1 (eL 2 aD.enc) r6.2.2.2.1), (aB.enc r6.2.2.2.2.1), (aF.enc r91.1)])), (10, .var (aJ.enc r91.2.1))] [] (bO (aL [4, 10, 8] (qU hr91))) dF0) ?_
             refine At.b 7 (fun _ e => aL [11, 17, 15] (qU e)) fun r92 => ?_
             refine lx ?_; intro x93
             refine lx ?_; intro x94
             refine lx ?_; intro x95
             refine At.J 17 0 [5, 8, 10, 12, 13, 14] 20 (fun p96 => ([(110, (eB p96))], [], [])) (fun p96 => ?_) fun p96 => ?_
             ·refine bi fun r97 hr97 => ?_
              refine lx ?_; intro x98
              refine boI (fun hc4 => ?_) (fun hc4 => ?_)
              ·refine At.d 0 (dE1 3 (fun _ => uQ aJc (r97 : aF) (aF.mk ((I64 (s87.gG + r75.gG))) ((I64 (s87.gK + r75.gK))) ((I64 (s87.gE + r75.gE))) : aF) (by kernel_rfl) (by kernel_rfl) (fun _ => rfl) (fun _ => rfl) (by kernel_rfl) (by kernel_rfl)) (dE1 4 (fun _ => cT hc4 rfl (cN hT (im := false) (by kernel_rfl))) dE0)) (dF 1 (aF.enc r97) [] [] (bO (aL [4, 10, 8] (pJ hr97))) dF0) ?_
               apply rt; exact At.jn 0
              ·refine bi fun r99 hr99 => ?_
               refine At.d 0 (dE1 3 (fun _ => uQ aJc (r97 : aF) (aF.mk ((I64 (s87.gG + r75.gG))) ((I64 (s87.gK + r75.gK))) ((I64 (s87.gE + r75.gE))) : aF) (by kernel_rfl) (by kernel_rfl) (fun _ => rfl) (fun _ => rfl) (by kernel_rfl) (by kernel_rfl)) (dE1 4 (fun _ => cT hc4 rfl (cN hT (im := false) (by kernel_rfl))) (dE1 8 (fun _ => uQ aJc (r99 : aF) (aF.mk ((I64 (s87.gG + r75.gG))) ((I64 (s87.gK + r75.gK))) ((I64 (s87.gE + r75.gE))) : aF) (by kernel_rfl) (by kernel_rfl) (fun _ => rfl) (fun _ => rfl) (by kernel_rfl) (by kernel_rfl)) dE0))) (dF 1 (aF.enc r97) [] [] (bO (aL [4, 10, 8] (pJ hr97))) (dF 6 (aF.enc r99) [] [] (bO (aL [11, 17, 15] (pJ hr99))) dF0)) ?_
               apply rt; exact At.jn 0
             ·refine At.c 0 ?_ ?_
              ·intro e; apply aBi g78 e; exact At.r 1
              ·exact fun h => At.k 3 ⟨_, _, _, _, _, _, _, _, _, _, h, jr⟩
            ·apply rt; exact At.xs 0
          ·refine At.b 0 (fun _ e => aL [] (cK e)) fun r100 => ?_
           apply rt; exact At.r 1
      ·subst e
       have hq := hq
       refine aCK (fun r57 e => ?_) (fun r58 e => ?_)
       ·subst e
        have hr57 := hq
        exact nn
       ·subst e
        have hr58 := hq
        exact nn
   ·subst e
    have hq := hq
    refine aCK (fun r7 e => ?_) (fun r8 e => ?_)
    ·subst e
     have hr7 := hq
     exact nn
    ·subst e
     have hr8 := hq
     exact nn

end Go.UK
