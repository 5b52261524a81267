/- A part of the proof: what the functions of the program compute. -/
import Derived.Test.YtcaadpceoajapaaG7
import Derived.Test.YtcaadpceoajapaaQ2
namespace Go.UK
open Go Go.Proofs
set_option maxRecDepth 20000
set_option maxHeartbeats 2000000
set_option linter.all false
/-! the plane's check -/
theorem between (N : Nat) (a b c : Int) : p_pam_between N a b c = some (decide (b ≤ a) && decide (a ≤ c)) := by
  unfold p_pam_between
  rw [letO_e]
  by_cases h : b ≤ a
  · rw [dt h]; rfl
  · rw [df h]; rfl
def badDim (p : S_api_Plane) : Bool := !(decide (1 ≤ p.gW) && decide (p.gW ≤ 64)) || !(decide (1 ≤ p.gH) && decide (p.gH ≤ 64)) || !(decide (1 ≤ p.gDeep) && decide (p.gDeep ≤ 4))
def badCh (c : UInt8) : Bool := decide ((c.toNat : Int) < 65) || decide ((c.toNat : Int) > 90)
def badName (s : ByteArray) : Bool := s.data.toList.any badCh || !(decide (1 ≤ (s.size : Int)) && decide ((s.size : Int) ≤ 16))
def badLen (p : S_api_Plane) : Bool := (p.gData.length : Int) != I64 (I64 (p.gW * p.gH) * p.gDeep)
def badV (x : Int) : Bool := !(decide (0 ≤ x) && decide (x ≤ 65535))
def chk (p : S_api_Plane) : Int := cond (badDim p) 2 (cond (badName p.gName || badLen p) 5 (cond (p.gData.any badV) 5 0))
structure Small42 (p : S_api_Plane) (N : Nat) : Prop where
  name : p.gName.size < N
  data : p.gData.length < N
  n1 : p.gName.size < 9223372036854775807
  d1 : p.gData.length < 9223372036854775807
theorem any_map_toNat (l : List UInt8) : (l.map fun b => (b.toNat : Int)).any (fun e => cond (decide (e < 65)) true (decide (e > 90))) = l.any badCh := by
  rw [List.any_map]
  congr 1
theorem size_data (s : ByteArray) : s.data.toList.length = s.size := by simp
theorem pamNamed (N : Nat) (s : ByteArray) (h : s.size < N) (h1 : s.size < 9223372036854775807) : p_pam_named N s = some (!badName s) := by
  unfold p_pam_named
  rw [letO_e]
  have hlen : (bytesI s).length = s.size := by unfold bytesI; simp
  rw [loopAny0 (bytesI s) (fun e => cond (decide (e < 65)) true (decide (e > 90))) false (p_pam_named_L1 N ((bytesI s).length : Int) s) (by omega) ?_ ?_ (by omega)]
  · rw [Option.bind_some]
    have e : (bytesI s).any (fun e => cond (decide (e < 65)) true (decide (e > 90))) = s.data.toList.any badCh := any_map_toNat _
    rw [e]
    unfold badName
    cases s.data.toList.any badCh with
    | true => rfl
    | false =>
      rw [cond_false]
      show Option.bind (p_pam_between N (s.size : Int) 1 16) (fun r8 => some r8) = _
      rw [between]
      simp
  · intro k i hi
    rw [p_pam_named_L1, dt (show (i : Int) < ((bytesI s).length : Int) by omega), cond_true, idx_at hi, Option.bind_some, letO_e]
  · intro k
    rw [p_pam_named_L1, df (by omega), cond_false]
theorem pamCheck (N : Nat) (p : S_api_Plane) (h : Small42 p N) : p_pam_Check N p = some (chk p) := by
  unfold p_pam_Check
  rw [between, between, between, pamNamed N _ h.name h.n1]
  simp only [Option.bind_some, letO_e]
  have e1 : (cond (!(decide (1 ≤ p.gW) && decide (p.gW ≤ 64))) (some true) (cond (!(decide (1 ≤ p.gH) && decide (p.gH ≤ 64))) (some true) (some (!(decide (1 ≤ p.gDeep) && decide (p.gDeep ≤ 4)))))) = some (badDim p) := by
    unfold badDim
    cases (!(decide (1 ≤ p.gW) && decide (p.gW ≤ 64))) <;> cases (!(decide (1 ≤ p.gH) && decide (p.gH ≤ 64))) <;> rfl
  rw [e1, Option.bind_some]
  unfold chk
  cases badDim p with
  | true => rfl
  | false =>
    rw [cond_false, cond_false]
    rw [loopAny0 p.gData badV 5 (p_pam_Check_L1 N (p.gData.length : Int) p) h.d1 ?_ ?_ h.data]
    · unfold badLen
      cases badName p.gName <;> cases ((p.gData.length : Int) != I64 (I64 (p.gW * p.gH) * p.gDeep)) <;> cases p.gData.any badV <;> rfl
    · intro k i hi
      rw [p_pam_Check_L1, dt (show (i : Int) < (p.gData.length : Int) by omega), cond_true, idx_at hi, Option.bind_some, between, Option.bind_some]
      rfl
    · intro k
      rw [p_pam_Check_L1, df (by omega), cond_false]
theorem refCheck (N : Nat) (p : S_api_Plane) (h : Small42 p N) : p_umbraref30_Check N p = some (chk p) := by
  unfold p_umbraref30_Check
  simp only [letO_e]
  have e1 : cond (cond (cond (cond (cond (decide (p.gW < 1)) true (decide (p.gW > 64))) true (decide (p.gH < 1))) true (decide (p.gH > 64))) true (decide (p.gDeep < 1))) true (decide (p.gDeep > 4)) = badDim p := by
    unfold badDim
    rw [Bool.eq_iff_iff]
    simp only [Bool.cond_eq_if, Bool.if_true_left, Bool.or_eq_true, decide_eq_true_eq, Bool.not_eq_true', Bool.and_eq_false_iff, decide_eq_false_iff_not]
    omega
  rw [e1]
  unfold chk
  cases badDim p with
  | true => rfl
  | false =>
    rw [cond_false, cond_false]
    rw [loopAny0 p.gName.data.toList badCh (5 : Int) (p_umbraref30_Check_L1 N p) (by rw [size_data]; exact h.n1) ?_ ?_ (by rw [size_data]; exact h.name)]
    · rw [loopAny0 p.gData badV (5 : Int) (p_umbraref30_Check_L2 N p) h.d1 ?_ ?_ h.data]
      · unfold badName badLen
        have e2 : cond (decide ((p.gName.size : Int) < 1)) true (decide ((p.gName.size : Int) > 16)) = !(decide (1 ≤ (p.gName.size : Int)) && decide ((p.gName.size : Int) ≤ 16)) := by
          rw [Bool.eq_iff_iff]
          simp only [Bool.cond_eq_if, Bool.if_true_left, Bool.or_eq_true, decide_eq_true_eq, Bool.not_eq_true', Bool.and_eq_false_iff, decide_eq_false_iff_not]
          omega
        rw [e2]
        cases (!(decide (1 ≤ (p.gName.size : Int)) && decide ((p.gName.size : Int) ≤ 16))) <;> cases ((p.gData.length : Int) != I64 (I64 (p.gW * p.gH) * p.gDeep)) <;> cases p.gName.data.toList.any badCh <;> cases p.gData.any badV <;> rfl
      · intro k i hi
        rw [p_umbraref30_Check_L2, letO_e, dt (show (i : Int) < (p.gData.length : Int) by omega), cond_true, idx_at hi, Option.bind_some, Option.bind_some]
        have e3 : cond (decide (p.gData[i] < 0)) (some true) (some (decide (p.gData[i] > 65535))) = some (badV p.gData[i]) := by
          unfold badV
          by_cases h1 : p.gData[i] < 0
          · rw [dt h1, df (show ¬ 0 ≤ p.gData[i] by omega)]; rfl
          · rw [df h1, dt (show 0 ≤ p.gData[i] by omega)]
            by_cases h2 : p.gData[i] ≤ 65535
            · rw [dt h2, df (show ¬ p.gData[i] > 65535 by omega)]; rfl
            · rw [df h2, dt (show p.gData[i] > 65535 by omega)]; rfl
        rw [e3, Option.bind_some]
      · intro k
        rw [p_umbraref30_Check_L2, letO_e, df (by omega), cond_false]
    · intro k i hi
      rw [p_umbraref30_Check_L1, letO_e, dt (show (i : Int) < (p.gName.size : Int) by rw [size_data] at hi; omega), cond_true, idx_at hi, Option.bind_some, Option.bind_some, letO_e, letO_e]
      have e3 : cond (decide ((p.gName.data.toList[i].toNat : Int) < 65)) (some true) (some (decide ((p.gName.data.toList[i].toNat : Int) > 90))) = some (badCh p.gName.data.toList[i]) := by
        unfold badCh
        cases decide ((p.gName.data.toList[i].toNat : Int) < 65) <;> rfl
      rw [e3, Option.bind_some]
    · intro k
      rw [p_umbraref30_Check_L1, letO_e, size_data, df (by omega), cond_false]
end Go.UK
