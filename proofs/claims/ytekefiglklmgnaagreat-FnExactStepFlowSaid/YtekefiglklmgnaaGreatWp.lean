/- Plain lemmas: sizes, copies and comparisons of the law's data. No condition. -/
import Derived.Test.YtekefiglklmgnaaGreatWb
namespace Go.Proofs.YtekefiglklmgnaaGreat.World
open Go Go.V Go.Proofs
set_option linter.unusedVariables false
set_option linter.unusedSimpArgs false
set_option maxRecDepth 100000
theorem qleqBattery (k : Nat) (x : I6) (hz : szT sI6 x ≤ 140737488351232) (hk : szT sI6 x + 1 < k) : FleqBattery k x x = some true := by
  obtain ⟨k, rfl⟩ : ∃ q, k = q + 1 := ⟨k - 1, by omega⟩
  have hk' : (szT (.i .i64) x.1 + (szT (.i .i64) x.2.1 + (szT (.i .i64) x.2.2.1 + (szT (.i .i64) x.2.2.2.1 + (szT (.i .i64) x.2.2.2.2.1 + szT (.i .i64) x.2.2.2.2.2))))) + 1 < k + 1 := hk
  have hz' : (szT (.i .i64) x.1 + (szT (.i .i64) x.2.1 + (szT (.i .i64) x.2.2.1 + (szT (.i .i64) x.2.2.2.1 + (szT (.i .i64) x.2.2.2.2.1 + szT (.i .i64) x.2.2.2.2.2))))) ≤ 140737488351232 := hz
  refine (eleqBattery k x x).trans ?_
  simp only [Option.bind_some, bne_self_eq_false, beq_self_eq_true, Bool.not_true, Bool.false_eq_true, if_false]
theorem qleqBatteryS (k : Nat) (x : List I6) (hz : szT (.l 176 sI6) x ≤ 140737488351232) (hk : szT (.l 176 sI6) x + 2 < k) : FleqBatteryS k x x = some true := by
  obtain ⟨k, rfl⟩ : ∃ q, k = q + 1 := ⟨k - 1, by omega⟩
  have hk' : x.length + sumL (szT sI6) x + 2 < k + 1 := hk
  have hz' : x.length + sumL (szT sI6) x ≤ 140737488351232 := hz
  refine (eleqBatteryS k x x).trans ?_
  rw [if_neg (by simp)]
  exact eqS_loop2 (α := Int × Int × Int × Int × Int × Int) (L := LleqBatteryS_0 k _ _ (x, x)) (f := fun y z => FleqBattery k y z) (fun _ _ => rfl) (a := x) (fun y hy => qleqBattery k y (by have := sumL_le (f := szT sI6) hy; omega) (by have := sumL_le (f := szT sI6) hy; omega)) (by omega) x.length k 0 (by omega) (by omega)
theorem qleqFault (k : Nat) (x : I4) (hz : szT sI4 x ≤ 140737488351232) (hk : szT sI4 x + 1 < k) : FleqFault k x x = some true := by
  obtain ⟨k, rfl⟩ : ∃ q, k = q + 1 := ⟨k - 1, by omega⟩
  have hk' : (szT (.i .i64) x.1 + (szT (.i .i64) x.2.1 + (szT (.i .i64) x.2.2.1 + szT (.i .i64) x.2.2.2))) + 1 < k + 1 := hk
  have hz' : (szT (.i .i64) x.1 + (szT (.i .i64) x.2.1 + (szT (.i .i64) x.2.2.1 + szT (.i .i64) x.2.2.2))) ≤ 140737488351232 := hz
  refine (eleqFault k x x).trans ?_
  simp only [Option.bind_some, bne_self_eq_false, beq_self_eq_true, Bool.not_true, Bool.false_eq_true, if_false]
theorem qleqFaultS (k : Nat) (x : List I4) (hz : szT (.l 66 sI4) x ≤ 140737488351232) (hk : szT (.l 66 sI4) x + 2 < k) : FleqFaultS k x x = some true := by
  obtain ⟨k, rfl⟩ : ∃ q, k = q + 1 := ⟨k - 1, by omega⟩
  have hk' : x.length + sumL (szT sI4) x + 2 < k + 1 := hk
  have hz' : x.length + sumL (szT sI4) x ≤ 140737488351232 := hz
  refine (eleqFaultS k x x).trans ?_
  rw [if_neg (by simp)]
  exact eqS_loop2 (α := Int × Int × Int × Int) (L := LleqFaultS_0 k _ _ (x, x)) (f := fun y z => FleqFault k y z) (fun _ _ => rfl) (a := x) (fun y hy => qleqFault k y (by have := sumL_le (f := szT sI4) hy; omega) (by have := sumL_le (f := szT sI4) hy; omega)) (by omega) x.length k 0 (by omega) (by omega)
theorem qleqFlow (k : Nat) (x : I4) (hz : szT sI4 x ≤ 140737488351232) (hk : szT sI4 x + 1 < k) : FleqFlow k x x = some true := by
  obtain ⟨k, rfl⟩ : ∃ q, k = q + 1 := ⟨k - 1, by omega⟩
  have hk' : (szT (.i .i64) x.1 + (szT (.i .i64) x.2.1 + (szT (.i .i64) x.2.2.1 + szT (.i .i64) x.2.2.2))) + 1 < k + 1 := hk
  have hz' : (szT (.i .i64) x.1 + (szT (.i .i64) x.2.1 + (szT (.i .i64) x.2.2.1 + szT (.i .i64) x.2.2.2))) ≤ 140737488351232 := hz
  refine (eleqFlow k x x).trans ?_
  simp only [Option.bind_some, bne_self_eq_false, beq_self_eq_true, Bool.not_true, Bool.false_eq_true, if_false]
theorem qleqFlowS (k : Nat) (x : List I4) (hz : szT (.l 76 sI4) x ≤ 140737488351232) (hk : szT (.l 76 sI4) x + 2 < k) : FleqFlowS k x x = some true := by
  obtain ⟨k, rfl⟩ : ∃ q, k = q + 1 := ⟨k - 1, by omega⟩
  have hk' : x.length + sumL (szT sI4) x + 2 < k + 1 := hk
  have hz' : x.length + sumL (szT sI4) x ≤ 140737488351232 := hz
  refine (eleqFlowS k x x).trans ?_
  rw [if_neg (by simp)]
  exact eqS_loop2 (α := Int × Int × Int × Int) (L := LleqFlowS_0 k _ _ (x, x)) (f := fun y z => FleqFlow k y z) (fun _ _ => rfl) (a := x) (fun y hy => qleqFlow k y (by have := sumL_le (f := szT sI4) hy; omega) (by have := sumL_le (f := szT sI4) hy; omega)) (by omega) x.length k 0 (by omega) (by omega)
theorem qleqIntS (k : Nat) (x : List Int) (hz : szT (.l 3 (.i .i64)) x ≤ 140737488351232) (hk : szT (.l 3 (.i .i64)) x + 1 < k) : FleqIntS k x x = some true := by
  obtain ⟨k, rfl⟩ : ∃ q, k = q + 1 := ⟨k - 1, by omega⟩
  have hk' : x.length + sumL (szT (.i .i64)) x + 1 < k + 1 := hk
  have hz' : x.length + sumL (szT (.i .i64)) x ≤ 140737488351232 := hz
  refine (eleqIntS k x x).trans ?_
  rw [if_neg (by simp)]
  exact eqI_loop2 (α := Int) (L := LleqIntS_0 k _ _ (x, x)) (fun _ _ => rfl) (a := x) (by omega) x.length k 0 (by omega) (by omega)
theorem qleqLaw (k : Nat) (x : List Int) (hz : szT sLaw x ≤ 140737488351232) (hk : szT sLaw x + 2 < k) : FleqLaw k x x = some true := by
  obtain ⟨k, rfl⟩ : ∃ q, k = q + 1 := ⟨k - 1, by omega⟩
  have hk' : szT (.l 3 (.i .i64)) x + 2 < k + 1 := hk
  have hz' : szT (.l 3 (.i .i64)) x ≤ 140737488351232 := hz
  have g0 : FleqIntS k x x = some true := qleqIntS k x (by omega) (by omega)
  refine (eleqLaw k x x).trans ?_
  simp only [g0, Option.bind_some, bne_self_eq_false, beq_self_eq_true, Bool.not_true, Bool.false_eq_true, if_false]
theorem qleqPacket (k : Nat) (x : I6) (hz : szT sI6 x ≤ 140737488351232) (hk : szT sI6 x + 1 < k) : FleqPacket k x x = some true := by
  obtain ⟨k, rfl⟩ : ∃ q, k = q + 1 := ⟨k - 1, by omega⟩
  have hk' : (szT (.i .i64) x.1 + (szT (.i .i64) x.2.1 + (szT (.i .i64) x.2.2.1 + (szT (.i .i64) x.2.2.2.1 + (szT (.i .i64) x.2.2.2.2.1 + szT (.i .i64) x.2.2.2.2.2))))) + 1 < k + 1 := hk
  have hz' : (szT (.i .i64) x.1 + (szT (.i .i64) x.2.1 + (szT (.i .i64) x.2.2.1 + (szT (.i .i64) x.2.2.2.1 + (szT (.i .i64) x.2.2.2.2.1 + szT (.i .i64) x.2.2.2.2.2))))) ≤ 140737488351232 := hz
  refine (eleqPacket k x x).trans ?_
  simp only [Option.bind_some, bne_self_eq_false, beq_self_eq_true, Bool.not_true, Bool.false_eq_true, if_false]
theorem qleqPacketS (k : Nat) (x : List I6) (hz : szT (.l 133 sI6) x ≤ 140737488351232) (hk : szT (.l 133 sI6) x + 2 < k) : FleqPacketS k x x = some true := by
  obtain ⟨k, rfl⟩ : ∃ q, k = q + 1 := ⟨k - 1, by omega⟩
  have hk' : x.length + sumL (szT sI6) x + 2 < k + 1 := hk
  have hz' : x.length + sumL (szT sI6) x ≤ 140737488351232 := hz
  refine (eleqPacketS k x x).trans ?_
  rw [if_neg (by simp)]
  exact eqS_loop2 (α := Int × Int × Int × Int × Int × Int) (L := LleqPacketS_0 k _ _ (x, x)) (f := fun y z => FleqPacket k y z) (fun _ _ => rfl) (a := x) (fun y hy => qleqPacket k y (by have := sumL_le (f := szT sI6) hy; omega) (by have := sumL_le (f := szT sI6) hy; omega)) (by omega) x.length k 0 (by omega) (by omega)
theorem qleqLink (k : Nat) (x : I2) (hz : szT sI2 x ≤ 140737488351232) (hk : szT sI2 x + 1 < k) : FleqLink k x x = some true := by
  obtain ⟨k, rfl⟩ : ∃ q, k = q + 1 := ⟨k - 1, by omega⟩
  have hk' : (szT (.i .i64) x.1 + szT (.i .i64) x.2) + 1 < k + 1 := hk
  have hz' : (szT (.i .i64) x.1 + szT (.i .i64) x.2) ≤ 140737488351232 := hz
  refine (eleqLink k x x).trans ?_
  simp only [Option.bind_some, bne_self_eq_false, beq_self_eq_true, Bool.not_true, Bool.false_eq_true, if_false]
theorem qleqLinkS (k : Nat) (x : List I2) (hz : szT (.l 283 sI2) x ≤ 140737488351232) (hk : szT (.l 283 sI2) x + 2 < k) : FleqLinkS k x x = some true := by
  obtain ⟨k, rfl⟩ : ∃ q, k = q + 1 := ⟨k - 1, by omega⟩
  have hk' : x.length + sumL (szT sI2) x + 2 < k + 1 := hk
  have hz' : x.length + sumL (szT sI2) x ≤ 140737488351232 := hz
  refine (eleqLinkS k x x).trans ?_
  rw [if_neg (by simp)]
  exact eqS_loop2 (α := Int × Int) (L := LleqLinkS_0 k _ _ (x, x)) (f := fun y z => FleqLink k y z) (fun _ _ => rfl) (a := x) (fun y hy => qleqLink k y (by have := sumL_le (f := szT sI2) hy; omega) (by have := sumL_le (f := szT sI2) hy; omega)) (by omega) x.length k 0 (by omega) (by omega)
theorem qleqSpan (k : Nat) (x : I2) (hz : szT sI2 x ≤ 140737488351232) (hk : szT sI2 x + 1 < k) : FleqSpan k x x = some true := by
  obtain ⟨k, rfl⟩ : ∃ q, k = q + 1 := ⟨k - 1, by omega⟩
  have hk' : (szT (.i .i64) x.1 + szT (.i .i64) x.2) + 1 < k + 1 := hk
  have hz' : (szT (.i .i64) x.1 + szT (.i .i64) x.2) ≤ 140737488351232 := hz
  refine (eleqSpan k x x).trans ?_
  simp only [Option.bind_some, bne_self_eq_false, beq_self_eq_true, Bool.not_true, Bool.false_eq_true, if_false]
theorem qleqTable (k : Nat) (x : Int × (List Int) × List Int) (hz : szT sTable x ≤ 140737488351232) (hk : szT sTable x + 2 < k) : FleqTable k x x = some true := by
  obtain ⟨k, rfl⟩ : ∃ q, k = q + 1 := ⟨k - 1, by omega⟩
  have hk' : (szT (.i .i64) x.1 + (szT (.l 3 (.i .i64)) x.2.1 + szT (.l 3 (.i .i64)) x.2.2)) + 2 < k + 1 := hk
  have hz' : (szT (.i .i64) x.1 + (szT (.l 3 (.i .i64)) x.2.1 + szT (.l 3 (.i .i64)) x.2.2)) ≤ 140737488351232 := hz
  have g0 : FleqIntS k x.2.1 x.2.1 = some true := qleqIntS k x.2.1 (by omega) (by omega)
  have g1 : FleqIntS k x.2.2 x.2.2 = some true := qleqIntS k x.2.2 (by omega) (by omega)
  refine (eleqTable k x x).trans ?_
  simp only [g0, g1, Option.bind_some, bne_self_eq_false, beq_self_eq_true, Bool.not_true, Bool.false_eq_true, if_false]
theorem qleqTableS (k : Nat) (x : List (Int × (List Int) × List Int)) (hz : szT (.l 211 sTable) x ≤ 140737488351232) (hk : szT (.l 211 sTable) x + 3 < k) : FleqTableS k x x = some true := by
  obtain ⟨k, rfl⟩ : ∃ q, k = q + 1 := ⟨k - 1, by omega⟩
  have hk' : x.length + sumL (szT sTable) x + 3 < k + 1 := hk
  have hz' : x.length + sumL (szT sTable) x ≤ 140737488351232 := hz
  refine (eleqTableS k x x).trans ?_
  rw [if_neg (by simp)]
  exact eqS_loop2 (α := Int × (List Int) × List Int) (L := LleqTableS_0 k _ _ (x, x)) (f := fun y z => FleqTable k y z) (fun _ _ => rfl) (a := x) (fun y hy => qleqTable k y (by have := sumL_le (f := szT sTable) hy; omega) (by have := sumL_le (f := szT sTable) hy; omega)) (by omega) x.length k 0 (by omega) (by omega)
theorem qleqPiece (k : Nat) (x : TLPiece) (hz : szT sPiece x ≤ 140737488351232) (hk : szT sPiece x + 4 < k) : FleqPiece k x x = some true := by
  obtain ⟨k, rfl⟩ : ∃ q, k = q + 1 := ⟨k - 1, by omega⟩
  have hk' : (szT sI2 x.1 + (szT (.l 283 sI2) x.2.1 + szT (.l 211 sTable) x.2.2)) + 4 < k + 1 := hk
  have hz' : (szT sI2 x.1 + (szT (.l 283 sI2) x.2.1 + szT (.l 211 sTable) x.2.2)) ≤ 140737488351232 := hz
  have g0 : FleqSpan k x.1 x.1 = some true := qleqSpan k x.1 (by omega) (by omega)
  have g1 : FleqLinkS k x.2.1 x.2.1 = some true := qleqLinkS k x.2.1 (by omega) (by omega)
  have g2 : FleqTableS k x.2.2 x.2.2 = some true := qleqTableS k x.2.2 (by omega) (by omega)
  refine (eleqPiece k x x).trans ?_
  simp only [g0, g1, g2, Option.bind_some, bne_self_eq_false, beq_self_eq_true, Bool.not_true, Bool.false_eq_true, if_false]
theorem qleqPieceS (k : Nat) (x : List TLPiece) (hz : szT (.l 219 sPiece) x ≤ 140737488351232) (hk : szT (.l 219 sPiece) x + 5 < k) : FleqPieceS k x x = some true := by
  obtain ⟨k, rfl⟩ : ∃ q, k = q + 1 := ⟨k - 1, by omega⟩
  have hk' : x.length + sumL (szT sPiece) x + 5 < k + 1 := hk
  have hz' : x.length + sumL (szT sPiece) x ≤ 140737488351232 := hz
  refine (eleqPieceS k x x).trans ?_
  rw [if_neg (by simp)]
  exact eqS_loop2 (α := I2 × (List I2) × List (Int × (List Int) × List Int)) (L := LleqPieceS_0 k _ _ (x, x)) (f := fun y z => FleqPiece k y z) (fun _ _ => rfl) (a := x) (fun y hy => qleqPiece k y (by have := sumL_le (f := szT sPiece) hy; omega) (by have := sumL_le (f := szT sPiece) hy; omega)) (by omega) x.length k 0 (by omega) (by omega)
theorem qleqProgram (k : Nat) (x : TLProgram) (hz : szT sProgram x ≤ 140737488351232) (hk : szT sProgram x + 6 < k) : FleqProgram k x x = some true := by
  obtain ⟨k, rfl⟩ : ∃ q, k = q + 1 := ⟨k - 1, by omega⟩
  have hk' : (szT (.i .i64) x.1 + (szT (.i .i64) x.2.1 + (szT (.i .i64) x.2.2.1 + szT (.l 219 sPiece) x.2.2.2))) + 6 < k + 1 := hk
  have hz' : (szT (.i .i64) x.1 + (szT (.i .i64) x.2.1 + (szT (.i .i64) x.2.2.1 + szT (.l 219 sPiece) x.2.2.2))) ≤ 140737488351232 := hz
  have g0 : FleqPieceS k x.2.2.2 x.2.2.2 = some true := qleqPieceS k x.2.2.2 (by omega) (by omega)
  refine (eleqProgram k x x).trans ?_
  simp only [g0, Option.bind_some, bne_self_eq_false, beq_self_eq_true, Bool.not_true, Bool.false_eq_true, if_false]
theorem qleqQueue (k : Nat) (x : List I6) (hz : szT sQueue x ≤ 140737488351232) (hk : szT sQueue x + 3 < k) : FleqQueue k x x = some true := by
  obtain ⟨k, rfl⟩ : ∃ q, k = q + 1 := ⟨k - 1, by omega⟩
  have hk' : szT (.l 133 sI6) x + 3 < k + 1 := hk
  have hz' : szT (.l 133 sI6) x ≤ 140737488351232 := hz
  have g0 : FleqPacketS k x x = some true := qleqPacketS k x (by omega) (by omega)
  refine (eleqQueue k x x).trans ?_
  simp only [g0, Option.bind_some, bne_self_eq_false, beq_self_eq_true, Bool.not_true, Bool.false_eq_true, if_false]
theorem qleqQueueS (k : Nat) (x : List (List I6)) (hz : szT (.l 136 sQueue) x ≤ 140737488351232) (hk : szT (.l 136 sQueue) x + 4 < k) : FleqQueueS k x x = some true := by
  obtain ⟨k, rfl⟩ : ∃ q, k = q + 1 := ⟨k - 1, by omega⟩
  have hk' : x.length + sumL (szT sQueue) x + 4 < k + 1 := hk
  have hz' : x.length + sumL (szT sQueue) x ≤ 140737488351232 := hz
  refine (eleqQueueS k x x).trans ?_
  rw [if_neg (by simp)]
  exact eqS_loop2 (α := List I6) (L := LleqQueueS_0 k _ _ (x, x)) (f := fun y z => FleqQueue k y z) (fun _ _ => rfl) (a := x) (fun y hy => qleqQueue k y (by have := sumL_le (f := szT sQueue) hy; omega) (by have := sumL_le (f := szT sQueue) hy; omega)) (by omega) x.length k 0 (by omega) (by omega)
theorem qleqSent (k : Nat) (x : I4) (hz : szT sI4 x ≤ 140737488351232) (hk : szT sI4 x + 1 < k) : FleqSent k x x = some true := by
  obtain ⟨k, rfl⟩ : ∃ q, k = q + 1 := ⟨k - 1, by omega⟩
  have hk' : (szT (.i .i64) x.1 + (szT (.i .i64) x.2.1 + (szT (.i .i64) x.2.2.1 + szT (.i .i64) x.2.2.2))) + 1 < k + 1 := hk
  have hz' : (szT (.i .i64) x.1 + (szT (.i .i64) x.2.1 + (szT (.i .i64) x.2.2.1 + szT (.i .i64) x.2.2.2))) ≤ 140737488351232 := hz
  refine (eleqSent k x x).trans ?_
  simp only [Option.bind_some, bne_self_eq_false, beq_self_eq_true, Bool.not_true, Bool.false_eq_true, if_false]
theorem qleqSentS (k : Nat) (x : List I4) (hz : szT (.l 84 sI4) x ≤ 140737488351232) (hk : szT (.l 84 sI4) x + 2 < k) : FleqSentS k x x = some true := by
  obtain ⟨k, rfl⟩ : ∃ q, k = q + 1 := ⟨k - 1, by omega⟩
  have hk' : x.length + sumL (szT sI4) x + 2 < k + 1 := hk
  have hz' : x.length + sumL (szT sI4) x ≤ 140737488351232 := hz
  refine (eleqSentS k x x).trans ?_
  rw [if_neg (by simp)]
  exact eqS_loop2 (α := Int × Int × Int × Int) (L := LleqSentS_0 k _ _ (x, x)) (f := fun y z => FleqSent k y z) (fun _ _ => rfl) (a := x) (fun y hy => qleqSent k y (by have := sumL_le (f := szT sI4) hy; omega) (by have := sumL_le (f := szT sI4) hy; omega)) (by omega) x.length k 0 (by omega) (by omega)
theorem qleqSat (k : Nat) (x : I4) (hz : szT sI4 x ≤ 140737488351232) (hk : szT sI4 x + 1 < k) : FleqSat k x x = some true := by
  obtain ⟨k, rfl⟩ : ∃ q, k = q + 1 := ⟨k - 1, by omega⟩
  have hk' : (szT (.i .i64) x.1 + (szT (.i .i64) x.2.1 + (szT (.i .i64) x.2.2.1 + szT (.i .i64) x.2.2.2))) + 1 < k + 1 := hk
  have hz' : (szT (.i .i64) x.1 + (szT (.i .i64) x.2.1 + (szT (.i .i64) x.2.2.1 + szT (.i .i64) x.2.2.2))) ≤ 140737488351232 := hz
  refine (eleqSat k x x).trans ?_
  simp only [Option.bind_some, bne_self_eq_false, beq_self_eq_true, Bool.not_true, Bool.false_eq_true, if_false]
theorem qleqSatS (k : Nat) (x : List I4) (hz : szT (.l 236 sI4) x ≤ 140737488351232) (hk : szT (.l 236 sI4) x + 2 < k) : FleqSatS k x x = some true := by
  obtain ⟨k, rfl⟩ : ∃ q, k = q + 1 := ⟨k - 1, by omega⟩
  have hk' : x.length + sumL (szT sI4) x + 2 < k + 1 := hk
  have hz' : x.length + sumL (szT sI4) x ≤ 140737488351232 := hz
  refine (eleqSatS k x x).trans ?_
  rw [if_neg (by simp)]
  exact eqS_loop2 (α := Int × Int × Int × Int) (L := LleqSatS_0 k _ _ (x, x)) (f := fun y z => FleqSat k y z) (fun _ _ => rfl) (a := x) (fun y hy => qleqSat k y (by have := sumL_le (f := szT sI4) hy; omega) (by have := sumL_le (f := szT sI4) hy; omega)) (by omega) x.length k 0 (by omega) (by omega)
theorem qleqSite (k : Nat) (x : I3) (hz : szT sI3 x ≤ 140737488351232) (hk : szT sI3 x + 1 < k) : FleqSite k x x = some true := by
  obtain ⟨k, rfl⟩ : ∃ q, k = q + 1 := ⟨k - 1, by omega⟩
  have hk' : (szT (.i .i64) x.1 + (szT (.i .i64) x.2.1 + szT (.i .i64) x.2.2)) + 1 < k + 1 := hk
  have hz' : (szT (.i .i64) x.1 + (szT (.i .i64) x.2.1 + szT (.i .i64) x.2.2)) ≤ 140737488351232 := hz
  refine (eleqSite k x x).trans ?_
  simp only [Option.bind_some, bne_self_eq_false, beq_self_eq_true, Bool.not_true, Bool.false_eq_true, if_false]
theorem qleqSiteS (k : Nat) (x : List I3) (hz : szT (.l 240 sI3) x ≤ 140737488351232) (hk : szT (.l 240 sI3) x + 2 < k) : FleqSiteS k x x = some true := by
  obtain ⟨k, rfl⟩ : ∃ q, k = q + 1 := ⟨k - 1, by omega⟩
  have hk' : x.length + sumL (szT sI3) x + 2 < k + 1 := hk
  have hz' : x.length + sumL (szT sI3) x ≤ 140737488351232 := hz
  refine (eleqSiteS k x x).trans ?_
  rw [if_neg (by simp)]
  exact eqS_loop2 (α := Int × Int × Int) (L := LleqSiteS_0 k _ _ (x, x)) (f := fun y z => FleqSite k y z) (fun _ _ => rfl) (a := x) (fun y hy => qleqSite k y (by have := sumL_le (f := szT sI3) hy; omega) (by have := sumL_le (f := szT sI3) hy; omega)) (by omega) x.length k 0 (by omega) (by omega)
theorem qleqArc (k : Nat) (x : I2) (hz : szT sI2 x ≤ 140737488351232) (hk : szT sI2 x + 1 < k) : FleqArc k x x = some true := by
  obtain ⟨k, rfl⟩ : ∃ q, k = q + 1 := ⟨k - 1, by omega⟩
  have hk' : (szT (.i .i64) x.1 + szT (.i .i64) x.2) + 1 < k + 1 := hk
  have hz' : (szT (.i .i64) x.1 + szT (.i .i64) x.2) ≤ 140737488351232 := hz
  refine (eleqArc k x x).trans ?_
  simp only [Option.bind_some, bne_self_eq_false, beq_self_eq_true, Bool.not_true, Bool.false_eq_true, if_false]
theorem qleqZone (k : Nat) (x : I3) (hz : szT sZone x ≤ 140737488351232) (hk : szT sZone x + 2 < k) : FleqZone k x x = some true := by
  obtain ⟨k, rfl⟩ : ∃ q, k = q + 1 := ⟨k - 1, by omega⟩
  have hk' : (szT (.i .i64) x.1 + szT sI2 x.2) + 2 < k + 1 := hk
  have hz' : (szT (.i .i64) x.1 + szT sI2 x.2) ≤ 140737488351232 := hz
  have g0 : FleqArc k x.2 x.2 = some true := qleqArc k x.2 (by omega) (by omega)
  refine (eleqZone k x x).trans ?_
  simp only [g0, Option.bind_some, bne_self_eq_false, beq_self_eq_true, Bool.not_true, Bool.false_eq_true, if_false]
theorem qleqZoneS (k : Nat) (x : List I3) (hz : szT (.l 246 sZone) x ≤ 140737488351232) (hk : szT (.l 246 sZone) x + 3 < k) : FleqZoneS k x x = some true := by
  obtain ⟨k, rfl⟩ : ∃ q, k = q + 1 := ⟨k - 1, by omega⟩
  have hk' : x.length + sumL (szT sZone) x + 3 < k + 1 := hk
  have hz' : x.length + sumL (szT sZone) x ≤ 140737488351232 := hz
  refine (eleqZoneS k x x).trans ?_
  rw [if_neg (by simp)]
  exact eqS_loop2 (α := Int × Int × Int) (L := LleqZoneS_0 k _ _ (x, x)) (f := fun y z => FleqZone k y z) (fun _ _ => rfl) (a := x) (fun y hy => qleqZone k y (by have := sumL_le (f := szT sZone) hy; omega) (by have := sumL_le (f := szT sZone) hy; omega)) (by omega) x.length k 0 (by omega) (by omega)
theorem qleqSky (k : Nat) (x : TLSky) (hz : szT sSky x ≤ 140737488351232) (hk : szT sSky x + 4 < k) : FleqSky k x x = some true := by
  obtain ⟨k, rfl⟩ : ∃ q, k = q + 1 := ⟨k - 1, by omega⟩
  have hk' : (szT (.i .i64) x.1 + (szT (.l 236 sI4) x.2.1 + (szT (.l 240 sI3) x.2.2.1 + (szT (.i .i64) x.2.2.2.1 + (szT (.i .i64) x.2.2.2.2.1 + (szT (.i .i64) x.2.2.2.2.2.1 + (szT (.i .i64) x.2.2.2.2.2.2.1 + (szT (.i .i64) x.2.2.2.2.2.2.2.1 + (szT (.l 246 sZone) x.2.2.2.2.2.2.2.2.1 + szT (.i .i64) x.2.2.2.2.2.2.2.2.2))))))))) + 4 < k + 1 := hk
  have hz' : (szT (.i .i64) x.1 + (szT (.l 236 sI4) x.2.1 + (szT (.l 240 sI3) x.2.2.1 + (szT (.i .i64) x.2.2.2.1 + (szT (.i .i64) x.2.2.2.2.1 + (szT (.i .i64) x.2.2.2.2.2.1 + (szT (.i .i64) x.2.2.2.2.2.2.1 + (szT (.i .i64) x.2.2.2.2.2.2.2.1 + (szT (.l 246 sZone) x.2.2.2.2.2.2.2.2.1 + szT (.i .i64) x.2.2.2.2.2.2.2.2.2))))))))) ≤ 140737488351232 := hz
  have g0 : FleqSatS k x.2.1 x.2.1 = some true := qleqSatS k x.2.1 (by omega) (by omega)
  have g1 : FleqSiteS k x.2.2.1 x.2.2.1 = some true := qleqSiteS k x.2.2.1 (by omega) (by omega)
  have g2 : FleqZoneS k x.2.2.2.2.2.2.2.2.1 x.2.2.2.2.2.2.2.2.1 = some true := qleqZoneS k x.2.2.2.2.2.2.2.2.1 (by omega) (by omega)
  refine (eleqSky k x x).trans ?_
  simp only [g0, g1, g2, Option.bind_some, bne_self_eq_false, beq_self_eq_true, Bool.not_true, Bool.false_eq_true, if_false]
theorem qleqStream (k : Nat) (x : Int × Int × List Int) (hz : szT sStream x ≤ 140737488351232) (hk : szT sStream x + 2 < k) : FleqStream k x x = some true := by
  obtain ⟨k, rfl⟩ : ∃ q, k = q + 1 := ⟨k - 1, by omega⟩
  have hk' : (szT (.i .i64) x.1 + (szT (.i .i64) x.2.1 + szT (.l 3 (.i .i64)) x.2.2)) + 2 < k + 1 := hk
  have hz' : (szT (.i .i64) x.1 + (szT (.i .i64) x.2.1 + szT (.l 3 (.i .i64)) x.2.2)) ≤ 140737488351232 := hz
  have g0 : FleqIntS k x.2.2 x.2.2 = some true := qleqIntS k x.2.2 (by omega) (by omega)
  refine (eleqStream k x x).trans ?_
  simp only [g0, Option.bind_some, bne_self_eq_false, beq_self_eq_true, Bool.not_true, Bool.false_eq_true, if_false]
theorem qleqStreamS (k : Nat) (x : List (Int × Int × List Int)) (hz : szT (.l 145 sStream) x ≤ 140737488351232) (hk : szT (.l 145 sStream) x + 3 < k) : FleqStreamS k x x = some true := by
  obtain ⟨k, rfl⟩ : ∃ q, k = q + 1 := ⟨k - 1, by omega⟩
  have hk' : x.length + sumL (szT sStream) x + 3 < k + 1 := hk
  have hz' : x.length + sumL (szT sStream) x ≤ 140737488351232 := hz
  refine (eleqStreamS k x x).trans ?_
  rw [if_neg (by simp)]
  exact eqS_loop2 (α := Int × Int × List Int) (L := LleqStreamS_0 k _ _ (x, x)) (f := fun y z => FleqStream k y z) (fun _ _ => rfl) (a := x) (fun y hy => qleqStream k y (by have := sumL_le (f := szT sStream) hy; omega) (by have := sumL_le (f := szT sStream) hy; omega)) (by omega) x.length k 0 (by omega) (by omega)
theorem qleqWorld (k : Nat) (x : TLWorld) (hz : szT sWorld x ≤ 140737488351232) (hk : szT sWorld x + 7 < k) : FleqWorld k x x = some true := by
  obtain ⟨k, rfl⟩ : ∃ q, k = q + 1 := ⟨k - 1, by omega⟩
  have hk' : (szT sSky x.1 + (szT sProgram x.2.1 + (szT sLaw x.2.2.1 + (szT (.l 3 (.i .i64)) x.2.2.2.1 + (szT (.l 176 sI6) x.2.2.2.2.1 + (szT (.l 136 sQueue) x.2.2.2.2.2.1 + (szT (.l 76 sI4) x.2.2.2.2.2.2.1 + (szT (.l 3 (.i .i64)) x.2.2.2.2.2.2.2.1 + (szT (.l 145 sStream) x.2.2.2.2.2.2.2.2.1 + (szT (.l 66 sI4) x.2.2.2.2.2.2.2.2.2.1 + (szT (.i .i64) x.2.2.2.2.2.2.2.2.2.2.1 + (szT (.i .i64) x.2.2.2.2.2.2.2.2.2.2.2.1 + (szT (.l 133 sI6) x.2.2.2.2.2.2.2.2.2.2.2.2.1 + szT (.l 84 sI4) x.2.2.2.2.2.2.2.2.2.2.2.2.2))))))))))))) + 7 < k + 1 := hk
  have hz' : (szT sSky x.1 + (szT sProgram x.2.1 + (szT sLaw x.2.2.1 + (szT (.l 3 (.i .i64)) x.2.2.2.1 + (szT (.l 176 sI6) x.2.2.2.2.1 + (szT (.l 136 sQueue) x.2.2.2.2.2.1 + (szT (.l 76 sI4) x.2.2.2.2.2.2.1 + (szT (.l 3 (.i .i64)) x.2.2.2.2.2.2.2.1 + (szT (.l 145 sStream) x.2.2.2.2.2.2.2.2.1 + (szT (.l 66 sI4) x.2.2.2.2.2.2.2.2.2.1 + (szT (.i .i64) x.2.2.2.2.2.2.2.2.2.2.1 + (szT (.i .i64) x.2.2.2.2.2.2.2.2.2.2.2.1 + (szT (.l 133 sI6) x.2.2.2.2.2.2.2.2.2.2.2.2.1 + szT (.l 84 sI4) x.2.2.2.2.2.2.2.2.2.2.2.2.2))))))))))))) ≤ 140737488351232 := hz
  have g0 : FleqSky k x.1 x.1 = some true := qleqSky k x.1 (by omega) (by omega)
  have g1 : FleqProgram k x.2.1 x.2.1 = some true := qleqProgram k x.2.1 (by omega) (by omega)
  have g2 : FleqLaw k x.2.2.1 x.2.2.1 = some true := qleqLaw k x.2.2.1 (by omega) (by omega)
  have g3 : FleqIntS k x.2.2.2.1 x.2.2.2.1 = some true := qleqIntS k x.2.2.2.1 (by omega) (by omega)
  have g4 : FleqBatteryS k x.2.2.2.2.1 x.2.2.2.2.1 = some true := qleqBatteryS k x.2.2.2.2.1 (by omega) (by omega)
  have g5 : FleqQueueS k x.2.2.2.2.2.1 x.2.2.2.2.2.1 = some true := qleqQueueS k x.2.2.2.2.2.1 (by omega) (by omega)
  have g6 : FleqFlowS k x.2.2.2.2.2.2.1 x.2.2.2.2.2.2.1 = some true := qleqFlowS k x.2.2.2.2.2.2.1 (by omega) (by omega)
  have g7 : FleqIntS k x.2.2.2.2.2.2.2.1 x.2.2.2.2.2.2.2.1 = some true := qleqIntS k x.2.2.2.2.2.2.2.1 (by omega) (by omega)
  have g8 : FleqStreamS k x.2.2.2.2.2.2.2.2.1 x.2.2.2.2.2.2.2.2.1 = some true := qleqStreamS k x.2.2.2.2.2.2.2.2.1 (by omega) (by omega)
  have g9 : FleqFaultS k x.2.2.2.2.2.2.2.2.2.1 x.2.2.2.2.2.2.2.2.2.1 = some true := qleqFaultS k x.2.2.2.2.2.2.2.2.2.1 (by omega) (by omega)
  have g10 : FleqPacketS k x.2.2.2.2.2.2.2.2.2.2.2.2.1 x.2.2.2.2.2.2.2.2.2.2.2.2.1 = some true := qleqPacketS k x.2.2.2.2.2.2.2.2.2.2.2.2.1 (by omega) (by omega)
  have g11 : FleqSentS k x.2.2.2.2.2.2.2.2.2.2.2.2.2 x.2.2.2.2.2.2.2.2.2.2.2.2.2 = some true := qleqSentS k x.2.2.2.2.2.2.2.2.2.2.2.2.2 (by omega) (by omega)
  refine (eleqWorld k x x).trans ?_
  simp only [g0, g1, g2, g3, g4, g5, g6, g7, g8, g9, g10, g11, Option.bind_some, bne_self_eq_false, beq_self_eq_true, Bool.not_true, Bool.false_eq_true, if_false]
theorem hlheldBatteryS (k : Nat) (x : List I6) (m : Int) (h0 : 0 ≤ m) (hB : m + 16 * szT (.l 176 sI6) x ≤ 1152921504606846976) (hz : szT (.l 176 sI6) x ≤ 140737488351232) (hk : szT (.l 176 sI6) x + 1 < k) : FlheldBatteryS k (mkT (.l 176 sI6) x m).1 m = some (mkT (.l 176 sI6) x m).2 := by
  obtain ⟨k, rfl⟩ : ∃ q, k = q + 1 := ⟨k - 1, by omega⟩
  have hz' : x.length + sumL (szT sI6) x ≤ 140737488351232 := hz
  have hk' : x.length + sumL (szT sI6) x + 1 < k + 1 := hk
  have hB' : m + 16 * ((x.length + sumL (szT sI6) x : Nat) : Int) ≤ 1152921504606846976 := hB
  obtain ⟨a, ha⟩ : ∃ a : List I6, (mkT (.l 176 sI6) x m).1 = a := ⟨_, rfl⟩
  rw [ha]
  refine (elheldBatteryS k a m).trans ?_
  refine (held_loop0 (α := Int × Int × Int × Int × Int × Int) (L := LlheldBatteryS_0 k _ _ _ _ _ _ _ _) (X := fun v => some v.1) (fun i m => (m, i)) (f := mkE sI6) (s := szT sI6) (B := 1152921504606846976) (P := fun y => szT sI6 y + 0 < k ∧ szT sI6 y ≤ 140737488351232) (r := x) (m := m) ha.symm (fun n i m x hi hx hP h0 hB hn hlt hin hw => ?_) (fun n m => ?_) (fun x m => ?_) (fun y hy => ?_) (by omega) (by omega) h0 hB')
  · have hd : decide ((i : Int) < (a.length : Int)) = true := decide_eq_true hlt
    have e1 : mkE sI6 x m = ((m, (m + 1), ((m + 1) + 1), (((m + 1) + 1) + 1), ((((m + 1) + 1) + 1) + 1), (((((m + 1) + 1) + 1) + 1) + 1)), ((((((m + 1) + 1) + 1) + 1) + 1) + 1)) := rfl
    have es : szT sI6 x = 0 := szT_flat _ _ rfl
    rw [es] at hB
    have w0 : IntKind.i64.wrap (m + 1) = m + 1 := wrap_id (by omega) (by omega)
    have w1 : IntKind.i64.wrap ((m + 1) + 1) = (m + 1) + 1 := wrap_id (by omega) (by omega)
    have w2 : IntKind.i64.wrap (((m + 1) + 1) + 1) = ((m + 1) + 1) + 1 := wrap_id (by omega) (by omega)
    have w3 : IntKind.i64.wrap ((((m + 1) + 1) + 1) + 1) = (((m + 1) + 1) + 1) + 1 := wrap_id (by omega) (by omega)
    have w4 : IntKind.i64.wrap (((((m + 1) + 1) + 1) + 1) + 1) = ((((m + 1) + 1) + 1) + 1) + 1 := wrap_id (by omega) (by omega)
    have w5 : IntKind.i64.wrap ((((((m + 1) + 1) + 1) + 1) + 1) + 1) = (((((m + 1) + 1) + 1) + 1) + 1) + 1 := wrap_id (by omega) (by omega)
    rw [e1] at hx
    show BlheldBatteryS_0 k _ _ _ _ _ _ _ _ _ _ = _
    simp only [BlheldBatteryS_0, hd, if_true, if_pos hn, hin, ix_some hx, hw, e1, w0, w1, w2, w3, w4, w5, Option.bind_some, bne_self_eq_false, Bool.false_eq_true, if_false]
  · show BlheldBatteryS_0 k _ _ _ _ _ _ _ _ _ _ = _
    simp only [BlheldBatteryS_0]
    rw [if_neg (by simp)]
  · have := mkE_le sI6 x m rfl
    have hl : Sh.leafs sI6 ≤ 16 := by decide
    omega
  · have := sumL_le (f := szT sI6) hy
    constructor <;> omega
theorem hlheldFaultS (k : Nat) (x : List I4) (m : Int) (h0 : 0 ≤ m) (hB : m + 16 * szT (.l 66 sI4) x ≤ 1152921504606846976) (hz : szT (.l 66 sI4) x ≤ 140737488351232) (hk : szT (.l 66 sI4) x + 1 < k) : FlheldFaultS k (mkT (.l 66 sI4) x m).1 m = some (mkT (.l 66 sI4) x m).2 := by
  obtain ⟨k, rfl⟩ : ∃ q, k = q + 1 := ⟨k - 1, by omega⟩
  have hz' : x.length + sumL (szT sI4) x ≤ 140737488351232 := hz
  have hk' : x.length + sumL (szT sI4) x + 1 < k + 1 := hk
  have hB' : m + 16 * ((x.length + sumL (szT sI4) x : Nat) : Int) ≤ 1152921504606846976 := hB
  obtain ⟨a, ha⟩ : ∃ a : List I4, (mkT (.l 66 sI4) x m).1 = a := ⟨_, rfl⟩
  rw [ha]
  refine (elheldFaultS k a m).trans ?_
  refine (held_loop0 (α := Int × Int × Int × Int) (L := LlheldFaultS_0 k _ _ _ _ _ _) (X := fun v => some v.1) (fun i m => (m, i)) (f := mkE sI4) (s := szT sI4) (B := 1152921504606846976) (P := fun y => szT sI4 y + 0 < k ∧ szT sI4 y ≤ 140737488351232) (r := x) (m := m) ha.symm (fun n i m x hi hx hP h0 hB hn hlt hin hw => ?_) (fun n m => ?_) (fun x m => ?_) (fun y hy => ?_) (by omega) (by omega) h0 hB')
  · have hd : decide ((i : Int) < (a.length : Int)) = true := decide_eq_true hlt
    have e1 : mkE sI4 x m = ((m, (m + 1), ((m + 1) + 1), (((m + 1) + 1) + 1)), ((((m + 1) + 1) + 1) + 1)) := rfl
    have es : szT sI4 x = 0 := szT_flat _ _ rfl
    rw [es] at hB
    have w0 : IntKind.i64.wrap (m + 1) = m + 1 := wrap_id (by omega) (by omega)
    have w1 : IntKind.i64.wrap ((m + 1) + 1) = (m + 1) + 1 := wrap_id (by omega) (by omega)
    have w2 : IntKind.i64.wrap (((m + 1) + 1) + 1) = ((m + 1) + 1) + 1 := wrap_id (by omega) (by omega)
    have w3 : IntKind.i64.wrap ((((m + 1) + 1) + 1) + 1) = (((m + 1) + 1) + 1) + 1 := wrap_id (by omega) (by omega)
    rw [e1] at hx
    show BlheldFaultS_0 k _ _ _ _ _ _ _ _ = _
    simp only [BlheldFaultS_0, hd, if_true, if_pos hn, hin, ix_some hx, hw, e1, w0, w1, w2, w3, Option.bind_some, bne_self_eq_false, Bool.false_eq_true, if_false]
  · show BlheldFaultS_0 k _ _ _ _ _ _ _ _ = _
    simp only [BlheldFaultS_0]
    rw [if_neg (by simp)]
  · have := mkE_le sI4 x m rfl
    have hl : Sh.leafs sI4 ≤ 16 := by decide
    omega
  · have := sumL_le (f := szT sI4) hy
    constructor <;> omega
theorem hlheldFlowS (k : Nat) (x : List I4) (m : Int) (h0 : 0 ≤ m) (hB : m + 16 * szT (.l 76 sI4) x ≤ 1152921504606846976) (hz : szT (.l 76 sI4) x ≤ 140737488351232) (hk : szT (.l 76 sI4) x + 1 < k) : FlheldFlowS k (mkT (.l 76 sI4) x m).1 m = some (mkT (.l 76 sI4) x m).2 := by
  obtain ⟨k, rfl⟩ : ∃ q, k = q + 1 := ⟨k - 1, by omega⟩
  have hz' : x.length + sumL (szT sI4) x ≤ 140737488351232 := hz
  have hk' : x.length + sumL (szT sI4) x + 1 < k + 1 := hk
  have hB' : m + 16 * ((x.length + sumL (szT sI4) x : Nat) : Int) ≤ 1152921504606846976 := hB
  obtain ⟨a, ha⟩ : ∃ a : List I4, (mkT (.l 76 sI4) x m).1 = a := ⟨_, rfl⟩
  rw [ha]
  refine (elheldFlowS k a m).trans ?_
  refine (held_loop0 (α := Int × Int × Int × Int) (L := LlheldFlowS_0 k _ _ _ _ _ _) (X := fun v => some v.1) (fun i m => (m, i)) (f := mkE sI4) (s := szT sI4) (B := 1152921504606846976) (P := fun y => szT sI4 y + 0 < k ∧ szT sI4 y ≤ 140737488351232) (r := x) (m := m) ha.symm (fun n i m x hi hx hP h0 hB hn hlt hin hw => ?_) (fun n m => ?_) (fun x m => ?_) (fun y hy => ?_) (by omega) (by omega) h0 hB')
  · have hd : decide ((i : Int) < (a.length : Int)) = true := decide_eq_true hlt
    have e1 : mkE sI4 x m = ((m, (m + 1), ((m + 1) + 1), (((m + 1) + 1) + 1)), ((((m + 1) + 1) + 1) + 1)) := rfl
    have es : szT sI4 x = 0 := szT_flat _ _ rfl
    rw [es] at hB
    have w0 : IntKind.i64.wrap (m + 1) = m + 1 := wrap_id (by omega) (by omega)
    have w1 : IntKind.i64.wrap ((m + 1) + 1) = (m + 1) + 1 := wrap_id (by omega) (by omega)
    have w2 : IntKind.i64.wrap (((m + 1) + 1) + 1) = ((m + 1) + 1) + 1 := wrap_id (by omega) (by omega)
    have w3 : IntKind.i64.wrap ((((m + 1) + 1) + 1) + 1) = (((m + 1) + 1) + 1) + 1 := wrap_id (by omega) (by omega)
    rw [e1] at hx
    show BlheldFlowS_0 k _ _ _ _ _ _ _ _ = _
    simp only [BlheldFlowS_0, hd, if_true, if_pos hn, hin, ix_some hx, hw, e1, w0, w1, w2, w3, Option.bind_some, bne_self_eq_false, Bool.false_eq_true, if_false]
  · show BlheldFlowS_0 k _ _ _ _ _ _ _ _ = _
    simp only [BlheldFlowS_0]
    rw [if_neg (by simp)]
  · have := mkE_le sI4 x m rfl
    have hl : Sh.leafs sI4 ≤ 16 := by decide
    omega
  · have := sumL_le (f := szT sI4) hy
    constructor <;> omega
theorem hlheldIntS (k : Nat) (x : List Int) (m : Int) (h0 : 0 ≤ m) (hB : m + 16 * szT (.l 3 (.i .i64)) x ≤ 1152921504606846976) (hz : szT (.l 3 (.i .i64)) x ≤ 140737488351232) (hk : szT (.l 3 (.i .i64)) x + 1 < k) : FlheldIntS k (mkT (.l 3 (.i .i64)) x m).1 m = some (mkT (.l 3 (.i .i64)) x m).2 := by
  obtain ⟨k, rfl⟩ : ∃ q, k = q + 1 := ⟨k - 1, by omega⟩
  have hz' : x.length + sumL (szT (.i .i64)) x ≤ 140737488351232 := hz
  have hk' : x.length + sumL (szT (.i .i64)) x + 1 < k + 1 := hk
  have hB' : m + 16 * ((x.length + sumL (szT (.i .i64)) x : Nat) : Int) ≤ 1152921504606846976 := hB
  obtain ⟨a, ha⟩ : ∃ a : List Int, (mkT (.l 3 (.i .i64)) x m).1 = a := ⟨_, rfl⟩
  rw [ha]
  refine (elheldIntS k a m).trans ?_
  refine (held_loop0 (α := Int) (L := LlheldIntS_0 k _ _ _) (X := fun v => some v.1) (fun i m => (m, i)) (f := mkE (.i .i64)) (s := szT (.i .i64)) (B := 1152921504606846976) (P := fun y => szT (.i .i64) y + 0 < k ∧ szT (.i .i64) y ≤ 140737488351232) (r := x) (m := m) ha.symm (fun n i m x hi hx hP h0 hB hn hlt hin hw => ?_) (fun n m => ?_) (fun x m => ?_) (fun y hy => ?_) (by omega) (by omega) h0 hB')
  · have hd : decide ((i : Int) < (a.length : Int)) = true := decide_eq_true hlt
    have e1 : mkE (.i .i64) x m = (m, (m + 1)) := rfl
    have es : szT (.i .i64) x = 0 := szT_flat _ _ rfl
    rw [es] at hB
    have w0 : IntKind.i64.wrap (m + 1) = m + 1 := wrap_id (by omega) (by omega)
    rw [e1] at hx
    show BlheldIntS_0 k _ _ _ _ _ = _
    simp only [BlheldIntS_0, hd, if_true, if_pos hn, hin, ix_some hx, hw, e1, w0, Option.bind_some, bne_self_eq_false, Bool.false_eq_true, if_false]
  · show BlheldIntS_0 k _ _ _ _ _ = _
    simp only [BlheldIntS_0]
    rw [if_neg (by simp)]
  · have := mkE_le (.i .i64) x m rfl
    have hl : Sh.leafs (.i .i64) ≤ 16 := by decide
    omega
  · have := sumL_le (f := szT (.i .i64)) hy
    constructor <;> omega
theorem hlheldLaw (k : Nat) (x : List Int) (m : Int) (h0 : 0 ≤ m) (hB : m + 16 * szT sLaw x ≤ 1152921504606846976) (hz : szT sLaw x ≤ 140737488351232) (hk : szT sLaw x + 2 < k) : FlheldLaw k (mkT sLaw x m).1 m = some (mkT sLaw x m).2 := by
  obtain ⟨k, rfl⟩ : ∃ q, k = q + 1 := ⟨k - 1, by omega⟩
  have es : szT sLaw x = szT (.l 3 (.i .i64)) x := rfl
  rw [es] at hB hz hk
  have b0 := mkT_le (.l 3 (.i .i64)) x m rfl
  have g0 := hlheldIntS k x m (by omega) (by omega) (by omega) (by omega)
  have n0 : decide ((mkT (.l 3 (.i .i64)) x m).2 < 0) = false := by rw [decide_eq_false]; omega
  refine (elheldLaw k _ m).trans ?_
  refine (congrArg (fun z => Option.bind z _) g0).trans ?_
  rw [Option.bind_some]
  refine (if_neg (by rw [n0]; decide)).trans ?_
  rfl
theorem hlheldPacketS (k : Nat) (x : List I6) (m : Int) (h0 : 0 ≤ m) (hB : m + 16 * szT (.l 133 sI6) x ≤ 1152921504606846976) (hz : szT (.l 133 sI6) x ≤ 140737488351232) (hk : szT (.l 133 sI6) x + 1 < k) : FlheldPacketS k (mkT (.l 133 sI6) x m).1 m = some (mkT (.l 133 sI6) x m).2 := by
  obtain ⟨k, rfl⟩ : ∃ q, k = q + 1 := ⟨k - 1, by omega⟩
  have hz' : x.length + sumL (szT sI6) x ≤ 140737488351232 := hz
  have hk' : x.length + sumL (szT sI6) x + 1 < k + 1 := hk
  have hB' : m + 16 * ((x.length + sumL (szT sI6) x : Nat) : Int) ≤ 1152921504606846976 := hB
  obtain ⟨a, ha⟩ : ∃ a : List I6, (mkT (.l 133 sI6) x m).1 = a := ⟨_, rfl⟩
  rw [ha]
  refine (elheldPacketS k a m).trans ?_
  refine (held_loop0 (α := Int × Int × Int × Int × Int × Int) (L := LlheldPacketS_0 k _ _ _ _ _ _ _ _) (X := fun v => some v.1) (fun i m => (m, i)) (f := mkE sI6) (s := szT sI6) (B := 1152921504606846976) (P := fun y => szT sI6 y + 0 < k ∧ szT sI6 y ≤ 140737488351232) (r := x) (m := m) ha.symm (fun n i m x hi hx hP h0 hB hn hlt hin hw => ?_) (fun n m => ?_) (fun x m => ?_) (fun y hy => ?_) (by omega) (by omega) h0 hB')
  · have hd : decide ((i : Int) < (a.length : Int)) = true := decide_eq_true hlt
    have e1 : mkE sI6 x m = ((m, (m + 1), ((m + 1) + 1), (((m + 1) + 1) + 1), ((((m + 1) + 1) + 1) + 1), (((((m + 1) + 1) + 1) + 1) + 1)), ((((((m + 1) + 1) + 1) + 1) + 1) + 1)) := rfl
    have es : szT sI6 x = 0 := szT_flat _ _ rfl
    rw [es] at hB
    have w0 : IntKind.i64.wrap (m + 1) = m + 1 := wrap_id (by omega) (by omega)
    have w1 : IntKind.i64.wrap ((m + 1) + 1) = (m + 1) + 1 := wrap_id (by omega) (by omega)
    have w2 : IntKind.i64.wrap (((m + 1) + 1) + 1) = ((m + 1) + 1) + 1 := wrap_id (by omega) (by omega)
    have w3 : IntKind.i64.wrap ((((m + 1) + 1) + 1) + 1) = (((m + 1) + 1) + 1) + 1 := wrap_id (by omega) (by omega)
    have w4 : IntKind.i64.wrap (((((m + 1) + 1) + 1) + 1) + 1) = ((((m + 1) + 1) + 1) + 1) + 1 := wrap_id (by omega) (by omega)
    have w5 : IntKind.i64.wrap ((((((m + 1) + 1) + 1) + 1) + 1) + 1) = (((((m + 1) + 1) + 1) + 1) + 1) + 1 := wrap_id (by omega) (by omega)
    rw [e1] at hx
    show BlheldPacketS_0 k _ _ _ _ _ _ _ _ _ _ = _
    simp only [BlheldPacketS_0, hd, if_true, if_pos hn, hin, ix_some hx, hw, e1, w0, w1, w2, w3, w4, w5, Option.bind_some, bne_self_eq_false, Bool.false_eq_true, if_false]
  · show BlheldPacketS_0 k _ _ _ _ _ _ _ _ _ _ = _
    simp only [BlheldPacketS_0]
    rw [if_neg (by simp)]
  · have := mkE_le sI6 x m rfl
    have hl : Sh.leafs sI6 ≤ 16 := by decide
    omega
  · have := sumL_le (f := szT sI6) hy
    constructor <;> omega
theorem hlheldLinkS (k : Nat) (x : List I2) (m : Int) (h0 : 0 ≤ m) (hB : m + 16 * szT (.l 283 sI2) x ≤ 1152921504606846976) (hz : szT (.l 283 sI2) x ≤ 140737488351232) (hk : szT (.l 283 sI2) x + 1 < k) : FlheldLinkS k (mkT (.l 283 sI2) x m).1 m = some (mkT (.l 283 sI2) x m).2 := by
  obtain ⟨k, rfl⟩ : ∃ q, k = q + 1 := ⟨k - 1, by omega⟩
  have hz' : x.length + sumL (szT sI2) x ≤ 140737488351232 := hz
  have hk' : x.length + sumL (szT sI2) x + 1 < k + 1 := hk
  have hB' : m + 16 * ((x.length + sumL (szT sI2) x : Nat) : Int) ≤ 1152921504606846976 := hB
  obtain ⟨a, ha⟩ : ∃ a : List I2, (mkT (.l 283 sI2) x m).1 = a := ⟨_, rfl⟩
  rw [ha]
  refine (elheldLinkS k a m).trans ?_
  refine (held_loop0 (α := Int × Int) (L := LlheldLinkS_0 k _ _ _ _) (X := fun v => some v.1) (fun i m => (m, i)) (f := mkE sI2) (s := szT sI2) (B := 1152921504606846976) (P := fun y => szT sI2 y + 0 < k ∧ szT sI2 y ≤ 140737488351232) (r := x) (m := m) ha.symm (fun n i m x hi hx hP h0 hB hn hlt hin hw => ?_) (fun n m => ?_) (fun x m => ?_) (fun y hy => ?_) (by omega) (by omega) h0 hB')
  · have hd : decide ((i : Int) < (a.length : Int)) = true := decide_eq_true hlt
    have e1 : mkE sI2 x m = ((m, (m + 1)), ((m + 1) + 1)) := rfl
    have es : szT sI2 x = 0 := szT_flat _ _ rfl
    rw [es] at hB
    have w0 : IntKind.i64.wrap (m + 1) = m + 1 := wrap_id (by omega) (by omega)
    have w1 : IntKind.i64.wrap ((m + 1) + 1) = (m + 1) + 1 := wrap_id (by omega) (by omega)
    rw [e1] at hx
    show BlheldLinkS_0 k _ _ _ _ _ _ = _
    simp only [BlheldLinkS_0, hd, if_true, if_pos hn, hin, ix_some hx, hw, e1, w0, w1, Option.bind_some, bne_self_eq_false, Bool.false_eq_true, if_false]
  · show BlheldLinkS_0 k _ _ _ _ _ _ = _
    simp only [BlheldLinkS_0]
    rw [if_neg (by simp)]
  · have := mkE_le sI2 x m rfl
    have hl : Sh.leafs sI2 ≤ 16 := by decide
    omega
  · have := sumL_le (f := szT sI2) hy
    constructor <;> omega
theorem hlheldTableS (k : Nat) (x : List (Int × (List Int) × List Int)) (m : Int) (h0 : 0 ≤ m) (hB : m + 16 * szT (.l 211 sTable) x ≤ 1152921504606846976) (hz : szT (.l 211 sTable) x ≤ 140737488351232) (hk : szT (.l 211 sTable) x + 2 < k) : FlheldTableS k (mkT (.l 211 sTable) x m).1 m = some (mkT (.l 211 sTable) x m).2 := by
  obtain ⟨k, rfl⟩ : ∃ q, k = q + 1 := ⟨k - 1, by omega⟩
  have hz' : x.length + sumL (szT sTable) x ≤ 140737488351232 := hz
  have hk' : x.length + sumL (szT sTable) x + 2 < k + 1 := hk
  have hB' : m + 16 * ((x.length + sumL (szT sTable) x : Nat) : Int) ≤ 1152921504606846976 := hB
  obtain ⟨a, ha⟩ : ∃ a : List (Int × (List Int) × List Int), (mkT (.l 211 sTable) x m).1 = a := ⟨_, rfl⟩
  rw [ha]
  refine (elheldTableS k a m).trans ?_
  refine (held_loop0 (α := Int × (List Int) × List Int) (L := LlheldTableS_0 k _ _ _ _ _) (X := fun v => some v.1) (fun i m => (m, i)) (f := mkE sTable) (s := szT sTable) (B := 1152921504606846976) (P := fun y => szT sTable y + 1 < k ∧ szT sTable y ≤ 140737488351232) (r := x) (m := m) ha.symm (fun n i m x hi hx hP h0 hB hn hlt hin hw => ?_) (fun n m => ?_) (fun x m => ?_) (fun y hy => ?_) (by omega) (by omega) h0 hB')
  · have hd : decide ((i : Int) < (a.length : Int)) = true := decide_eq_true hlt
    have e1 : mkE sTable x m = ((m, (mkT (.l 3 (.i .i64)) x.2.1 (m + 1)).1, (mkT (.l 3 (.i .i64)) x.2.2 (mkT (.l 3 (.i .i64)) x.2.1 (m + 1)).2).1), (mkT (.l 3 (.i .i64)) x.2.2 (mkT (.l 3 (.i .i64)) x.2.1 (m + 1)).2).2) := rfl
    have es : szT sTable x = (0 + (szT (.l 3 (.i .i64)) x.2.1 + szT (.l 3 (.i .i64)) x.2.2)) := rfl
    have b0 := mkT_le (.l 3 (.i .i64)) x.2.1 (m + 1) rfl
    have b1 := mkT_le (.l 3 (.i .i64)) x.2.2 ((mkT (.l 3 (.i .i64)) x.2.1 (m + 1)).2) rfl
    obtain ⟨hP1, hP2⟩ := hP
    rw [es] at hP1 hP2 hB
    have g0 := hlheldIntS k x.2.1 (m + 1) (by omega) (by omega) (by omega) (by omega)
    have g1 := hlheldIntS k x.2.2 ((mkT (.l 3 (.i .i64)) x.2.1 (m + 1)).2) (by omega) (by omega) (by omega) (by omega)
    have w0 : IntKind.i64.wrap (m + 1) = m + 1 := wrap_id (by omega) (by omega)
    have n0 : decide ((mkT (.l 3 (.i .i64)) x.2.1 (m + 1)).2 < 0) = false := by rw [decide_eq_false]; omega
    have n1 : decide ((mkT (.l 3 (.i .i64)) x.2.2 ((mkT (.l 3 (.i .i64)) x.2.1 (m + 1)).2)).2 < 0) = false := by rw [decide_eq_false]; omega
    rw [e1] at hx
    show BlheldTableS_0 k _ _ _ _ _ _ _ = _
    simp only [BlheldTableS_0, hd, if_true, if_pos hn, hin, ix_some hx, hw, e1, w0, g0, g1, Option.bind_some, n0, n1, bne_self_eq_false, Bool.false_eq_true, if_false]
    try rfl
  · show BlheldTableS_0 k _ _ _ _ _ _ _ = _
    simp only [BlheldTableS_0]
    rw [if_neg (by simp)]
  · have := mkE_le sTable x m rfl
    have hl : Sh.leafs sTable ≤ 16 := by decide
    omega
  · have := sumL_le (f := szT sTable) hy
    constructor <;> omega
theorem hlheldPieceS (k : Nat) (x : List TLPiece) (m : Int) (h0 : 0 ≤ m) (hB : m + 16 * szT (.l 219 sPiece) x ≤ 1152921504606846976) (hz : szT (.l 219 sPiece) x ≤ 140737488351232) (hk : szT (.l 219 sPiece) x + 3 < k) : FlheldPieceS k (mkT (.l 219 sPiece) x m).1 m = some (mkT (.l 219 sPiece) x m).2 := by
  obtain ⟨k, rfl⟩ : ∃ q, k = q + 1 := ⟨k - 1, by omega⟩
  have hz' : x.length + sumL (szT sPiece) x ≤ 140737488351232 := hz
  have hk' : x.length + sumL (szT sPiece) x + 3 < k + 1 := hk
  have hB' : m + 16 * ((x.length + sumL (szT sPiece) x : Nat) : Int) ≤ 1152921504606846976 := hB
  obtain ⟨a, ha⟩ : ∃ a : List TLPiece, (mkT (.l 219 sPiece) x m).1 = a := ⟨_, rfl⟩
  rw [ha]
  refine (elheldPieceS k a m).trans ?_
  refine (held_loop0 (α := I2 × (List I2) × List (Int × (List Int) × List Int)) (L := LlheldPieceS_0 k _ _ _ _ _ _) (X := fun v => some v.1) (fun i m => (m, i)) (f := mkE sPiece) (s := szT sPiece) (B := 1152921504606846976) (P := fun y => szT sPiece y + 2 < k ∧ szT sPiece y ≤ 140737488351232) (r := x) (m := m) ha.symm (fun n i m x hi hx hP h0 hB hn hlt hin hw => ?_) (fun n m => ?_) (fun x m => ?_) (fun y hy => ?_) (by omega) (by omega) h0 hB')
  · have hd : decide ((i : Int) < (a.length : Int)) = true := decide_eq_true hlt
    have e1 : mkE sPiece x m = (((m, (m + 1)), (mkT (.l 283 sI2) x.2.1 ((m + 1) + 1)).1, (mkT (.l 211 sTable) x.2.2 (mkT (.l 283 sI2) x.2.1 ((m + 1) + 1)).2).1), (mkT (.l 211 sTable) x.2.2 (mkT (.l 283 sI2) x.2.1 ((m + 1) + 1)).2).2) := rfl
    have es : szT sPiece x = ((0 + 0) + (szT (.l 283 sI2) x.2.1 + szT (.l 211 sTable) x.2.2)) := rfl
    have b0 := mkT_le (.l 283 sI2) x.2.1 ((m + 1) + 1) rfl
    have b1 := mkT_le (.l 211 sTable) x.2.2 ((mkT (.l 283 sI2) x.2.1 ((m + 1) + 1)).2) rfl
    obtain ⟨hP1, hP2⟩ := hP
    rw [es] at hP1 hP2 hB
    have g0 := hlheldLinkS k x.2.1 ((m + 1) + 1) (by omega) (by omega) (by omega) (by omega)
    have g1 := hlheldTableS k x.2.2 ((mkT (.l 283 sI2) x.2.1 ((m + 1) + 1)).2) (by omega) (by omega) (by omega) (by omega)
    have w0 : IntKind.i64.wrap (m + 1) = m + 1 := wrap_id (by omega) (by omega)
    have w1 : IntKind.i64.wrap ((m + 1) + 1) = (m + 1) + 1 := wrap_id (by omega) (by omega)
    have n0 : decide ((mkT (.l 283 sI2) x.2.1 ((m + 1) + 1)).2 < 0) = false := by rw [decide_eq_false]; omega
    have n1 : decide ((mkT (.l 211 sTable) x.2.2 ((mkT (.l 283 sI2) x.2.1 ((m + 1) + 1)).2)).2 < 0) = false := by rw [decide_eq_false]; omega
    rw [e1] at hx
    show BlheldPieceS_0 k _ _ _ _ _ _ _ _ = _
    simp only [BlheldPieceS_0, hd, if_true, if_pos hn, hin, ix_some hx, hw, e1, w0, w1, g0, g1, Option.bind_some, n0, n1, bne_self_eq_false, Bool.false_eq_true, if_false]
    try rfl
  · show BlheldPieceS_0 k _ _ _ _ _ _ _ _ = _
    simp only [BlheldPieceS_0]
    rw [if_neg (by simp)]
  · have := mkE_le sPiece x m rfl
    have hl : Sh.leafs sPiece ≤ 16 := by decide
    omega
  · have := sumL_le (f := szT sPiece) hy
    constructor <;> omega
theorem hlheldProgram (k : Nat) (x : TLProgram) (m : Int) (h0 : 0 ≤ m) (hB : m + 16 * szT sProgram x ≤ 1152921504606846976) (hz : szT sProgram x ≤ 140737488351232) (hk : szT sProgram x + 4 < k) : FlheldProgram k (mkT sProgram x m).1 m = some (mkT sProgram x m).2 := by
  obtain ⟨k, rfl⟩ : ∃ q, k = q + 1 := ⟨k - 1, by omega⟩
  have es : szT sProgram x = (0 + (0 + (0 + szT (.l 219 sPiece) x.2.2.2))) := rfl
  rw [es] at hB hz hk
  have b0 := mkT_le (.l 219 sPiece) x.2.2.2 m rfl
  have g0 := hlheldPieceS k x.2.2.2 m (by omega) (by omega) (by omega) (by omega)
  have n0 : decide ((mkT (.l 219 sPiece) x.2.2.2 m).2 < 0) = false := by rw [decide_eq_false]; omega
  refine (elheldProgram k _ m).trans ?_
  refine (congrArg (fun z => Option.bind z _) g0).trans ?_
  rw [Option.bind_some]
  refine (if_neg (by rw [n0]; decide)).trans ?_
  rfl
theorem hlheldQueueS (k : Nat) (x : List (List I6)) (m : Int) (h0 : 0 ≤ m) (hB : m + 16 * szT (.l 136 sQueue) x ≤ 1152921504606846976) (hz : szT (.l 136 sQueue) x ≤ 140737488351232) (hk : szT (.l 136 sQueue) x + 2 < k) : FlheldQueueS k (mkT (.l 136 sQueue) x m).1 m = some (mkT (.l 136 sQueue) x m).2 := by
  obtain ⟨k, rfl⟩ : ∃ q, k = q + 1 := ⟨k - 1, by omega⟩
  have hz' : x.length + sumL (szT sQueue) x ≤ 140737488351232 := hz
  have hk' : x.length + sumL (szT sQueue) x + 2 < k + 1 := hk
  have hB' : m + 16 * ((x.length + sumL (szT sQueue) x : Nat) : Int) ≤ 1152921504606846976 := hB
  obtain ⟨a, ha⟩ : ∃ a : List (List I6), (mkT (.l 136 sQueue) x m).1 = a := ⟨_, rfl⟩
  rw [ha]
  refine (elheldQueueS k a m).trans ?_
  refine (held_loop0 (α := List I6) (L := LlheldQueueS_0 k _ _ _) (X := fun v => some v.1) (fun i m => (m, i)) (f := mkE sQueue) (s := szT sQueue) (B := 1152921504606846976) (P := fun y => szT sQueue y + 1 < k ∧ szT sQueue y ≤ 140737488351232) (r := x) (m := m) ha.symm (fun n i m x hi hx hP h0 hB hn hlt hin hw => ?_) (fun n m => ?_) (fun x m => ?_) (fun y hy => ?_) (by omega) (by omega) h0 hB')
  · have hd : decide ((i : Int) < (a.length : Int)) = true := decide_eq_true hlt
    have e1 : mkE sQueue x m = ((mkT (.l 133 sI6) x m).1, (mkT (.l 133 sI6) x m).2) := rfl
    have es : szT sQueue x = szT (.l 133 sI6) x := rfl
    have b0 := mkT_le (.l 133 sI6) x m rfl
    obtain ⟨hP1, hP2⟩ := hP
    rw [es] at hP1 hP2 hB
    have g0 := hlheldPacketS k x m (by omega) (by omega) (by omega) (by omega)
    have n0 : decide ((mkT (.l 133 sI6) x m).2 < 0) = false := by rw [decide_eq_false]; omega
    rw [e1] at hx
    show BlheldQueueS_0 k _ _ _ _ _ = _
    simp only [BlheldQueueS_0, hd, if_true, if_pos hn, hin, ix_some hx, hw, e1, g0, Option.bind_some, n0, bne_self_eq_false, Bool.false_eq_true, if_false]
    try rfl
  · show BlheldQueueS_0 k _ _ _ _ _ = _
    simp only [BlheldQueueS_0]
    rw [if_neg (by simp)]
  · have := mkE_le sQueue x m rfl
    have hl : Sh.leafs sQueue ≤ 16 := by decide
    omega
  · have := sumL_le (f := szT sQueue) hy
    constructor <;> omega
theorem hlheldSentS (k : Nat) (x : List I4) (m : Int) (h0 : 0 ≤ m) (hB : m + 16 * szT (.l 84 sI4) x ≤ 1152921504606846976) (hz : szT (.l 84 sI4) x ≤ 140737488351232) (hk : szT (.l 84 sI4) x + 1 < k) : FlheldSentS k (mkT (.l 84 sI4) x m).1 m = some (mkT (.l 84 sI4) x m).2 := by
  obtain ⟨k, rfl⟩ : ∃ q, k = q + 1 := ⟨k - 1, by omega⟩
  have hz' : x.length + sumL (szT sI4) x ≤ 140737488351232 := hz
  have hk' : x.length + sumL (szT sI4) x + 1 < k + 1 := hk
  have hB' : m + 16 * ((x.length + sumL (szT sI4) x : Nat) : Int) ≤ 1152921504606846976 := hB
  obtain ⟨a, ha⟩ : ∃ a : List I4, (mkT (.l 84 sI4) x m).1 = a := ⟨_, rfl⟩
  rw [ha]
  refine (elheldSentS k a m).trans ?_
  refine (held_loop0 (α := Int × Int × Int × Int) (L := LlheldSentS_0 k _ _ _ _ _ _) (X := fun v => some v.1) (fun i m => (m, i)) (f := mkE sI4) (s := szT sI4) (B := 1152921504606846976) (P := fun y => szT sI4 y + 0 < k ∧ szT sI4 y ≤ 140737488351232) (r := x) (m := m) ha.symm (fun n i m x hi hx hP h0 hB hn hlt hin hw => ?_) (fun n m => ?_) (fun x m => ?_) (fun y hy => ?_) (by omega) (by omega) h0 hB')
  · have hd : decide ((i : Int) < (a.length : Int)) = true := decide_eq_true hlt
    have e1 : mkE sI4 x m = ((m, (m + 1), ((m + 1) + 1), (((m + 1) + 1) + 1)), ((((m + 1) + 1) + 1) + 1)) := rfl
    have es : szT sI4 x = 0 := szT_flat _ _ rfl
    rw [es] at hB
    have w0 : IntKind.i64.wrap (m + 1) = m + 1 := wrap_id (by omega) (by omega)
    have w1 : IntKind.i64.wrap ((m + 1) + 1) = (m + 1) + 1 := wrap_id (by omega) (by omega)
    have w2 : IntKind.i64.wrap (((m + 1) + 1) + 1) = ((m + 1) + 1) + 1 := wrap_id (by omega) (by omega)
    have w3 : IntKind.i64.wrap ((((m + 1) + 1) + 1) + 1) = (((m + 1) + 1) + 1) + 1 := wrap_id (by omega) (by omega)
    rw [e1] at hx
    show BlheldSentS_0 k _ _ _ _ _ _ _ _ = _
    simp only [BlheldSentS_0, hd, if_true, if_pos hn, hin, ix_some hx, hw, e1, w0, w1, w2, w3, Option.bind_some, bne_self_eq_false, Bool.false_eq_true, if_false]
  · show BlheldSentS_0 k _ _ _ _ _ _ _ _ = _
    simp only [BlheldSentS_0]
    rw [if_neg (by simp)]
  · have := mkE_le sI4 x m rfl
    have hl : Sh.leafs sI4 ≤ 16 := by decide
    omega
  · have := sumL_le (f := szT sI4) hy
    constructor <;> omega
theorem hlheldSatS (k : Nat) (x : List I4) (m : Int) (h0 : 0 ≤ m) (hB : m + 16 * szT (.l 236 sI4) x ≤ 1152921504606846976) (hz : szT (.l 236 sI4) x ≤ 140737488351232) (hk : szT (.l 236 sI4) x + 1 < k) : FlheldSatS k (mkT (.l 236 sI4) x m).1 m = some (mkT (.l 236 sI4) x m).2 := by
  obtain ⟨k, rfl⟩ : ∃ q, k = q + 1 := ⟨k - 1, by omega⟩
  have hz' : x.length + sumL (szT sI4) x ≤ 140737488351232 := hz
  have hk' : x.length + sumL (szT sI4) x + 1 < k + 1 := hk
  have hB' : m + 16 * ((x.length + sumL (szT sI4) x : Nat) : Int) ≤ 1152921504606846976 := hB
  obtain ⟨a, ha⟩ : ∃ a : List I4, (mkT (.l 236 sI4) x m).1 = a := ⟨_, rfl⟩
  rw [ha]
  refine (elheldSatS k a m).trans ?_
  refine (held_loop0 (α := Int × Int × Int × Int) (L := LlheldSatS_0 k _ _ _ _ _ _) (X := fun v => some v.1) (fun i m => (m, i)) (f := mkE sI4) (s := szT sI4) (B := 1152921504606846976) (P := fun y => szT sI4 y + 0 < k ∧ szT sI4 y ≤ 140737488351232) (r := x) (m := m) ha.symm (fun n i m x hi hx hP h0 hB hn hlt hin hw => ?_) (fun n m => ?_) (fun x m => ?_) (fun y hy => ?_) (by omega) (by omega) h0 hB')
  · have hd : decide ((i : Int) < (a.length : Int)) = true := decide_eq_true hlt
    have e1 : mkE sI4 x m = ((m, (m + 1), ((m + 1) + 1), (((m + 1) + 1) + 1)), ((((m + 1) + 1) + 1) + 1)) := rfl
    have es : szT sI4 x = 0 := szT_flat _ _ rfl
    rw [es] at hB
    have w0 : IntKind.i64.wrap (m + 1) = m + 1 := wrap_id (by omega) (by omega)
    have w1 : IntKind.i64.wrap ((m + 1) + 1) = (m + 1) + 1 := wrap_id (by omega) (by omega)
    have w2 : IntKind.i64.wrap (((m + 1) + 1) + 1) = ((m + 1) + 1) + 1 := wrap_id (by omega) (by omega)
    have w3 : IntKind.i64.wrap ((((m + 1) + 1) + 1) + 1) = (((m + 1) + 1) + 1) + 1 := wrap_id (by omega) (by omega)
    rw [e1] at hx
    show BlheldSatS_0 k _ _ _ _ _ _ _ _ = _
    simp only [BlheldSatS_0, hd, if_true, if_pos hn, hin, ix_some hx, hw, e1, w0, w1, w2, w3, Option.bind_some, bne_self_eq_false, Bool.false_eq_true, if_false]
  · show BlheldSatS_0 k _ _ _ _ _ _ _ _ = _
    simp only [BlheldSatS_0]
    rw [if_neg (by simp)]
  · have := mkE_le sI4 x m rfl
    have hl : Sh.leafs sI4 ≤ 16 := by decide
    omega
  · have := sumL_le (f := szT sI4) hy
    constructor <;> omega
theorem hlheldSiteS (k : Nat) (x : List I3) (m : Int) (h0 : 0 ≤ m) (hB : m + 16 * szT (.l 240 sI3) x ≤ 1152921504606846976) (hz : szT (.l 240 sI3) x ≤ 140737488351232) (hk : szT (.l 240 sI3) x + 1 < k) : FlheldSiteS k (mkT (.l 240 sI3) x m).1 m = some (mkT (.l 240 sI3) x m).2 := by
  obtain ⟨k, rfl⟩ : ∃ q, k = q + 1 := ⟨k - 1, by omega⟩
  have hz' : x.length + sumL (szT sI3) x ≤ 140737488351232 := hz
  have hk' : x.length + sumL (szT sI3) x + 1 < k + 1 := hk
  have hB' : m + 16 * ((x.length + sumL (szT sI3) x : Nat) : Int) ≤ 1152921504606846976 := hB
  obtain ⟨a, ha⟩ : ∃ a : List I3, (mkT (.l 240 sI3) x m).1 = a := ⟨_, rfl⟩
  rw [ha]
  refine (elheldSiteS k a m).trans ?_
  refine (held_loop0 (α := Int × Int × Int) (L := LlheldSiteS_0 k _ _ _ _ _) (X := fun v => some v.1) (fun i m => (m, i)) (f := mkE sI3) (s := szT sI3) (B := 1152921504606846976) (P := fun y => szT sI3 y + 0 < k ∧ szT sI3 y ≤ 140737488351232) (r := x) (m := m) ha.symm (fun n i m x hi hx hP h0 hB hn hlt hin hw => ?_) (fun n m => ?_) (fun x m => ?_) (fun y hy => ?_) (by omega) (by omega) h0 hB')
  · have hd : decide ((i : Int) < (a.length : Int)) = true := decide_eq_true hlt
    have e1 : mkE sI3 x m = ((m, (m + 1), ((m + 1) + 1)), (((m + 1) + 1) + 1)) := rfl
    have es : szT sI3 x = 0 := szT_flat _ _ rfl
    rw [es] at hB
    have w0 : IntKind.i64.wrap (m + 1) = m + 1 := wrap_id (by omega) (by omega)
    have w1 : IntKind.i64.wrap ((m + 1) + 1) = (m + 1) + 1 := wrap_id (by omega) (by omega)
    have w2 : IntKind.i64.wrap (((m + 1) + 1) + 1) = ((m + 1) + 1) + 1 := wrap_id (by omega) (by omega)
    rw [e1] at hx
    show BlheldSiteS_0 k _ _ _ _ _ _ _ = _
    simp only [BlheldSiteS_0, hd, if_true, if_pos hn, hin, ix_some hx, hw, e1, w0, w1, w2, Option.bind_some, bne_self_eq_false, Bool.false_eq_true, if_false]
  · show BlheldSiteS_0 k _ _ _ _ _ _ _ = _
    simp only [BlheldSiteS_0]
    rw [if_neg (by simp)]
  · have := mkE_le sI3 x m rfl
    have hl : Sh.leafs sI3 ≤ 16 := by decide
    omega
  · have := sumL_le (f := szT sI3) hy
    constructor <;> omega
theorem hlheldZoneS (k : Nat) (x : List I3) (m : Int) (h0 : 0 ≤ m) (hB : m + 16 * szT (.l 246 sZone) x ≤ 1152921504606846976) (hz : szT (.l 246 sZone) x ≤ 140737488351232) (hk : szT (.l 246 sZone) x + 1 < k) : FlheldZoneS k (mkT (.l 246 sZone) x m).1 m = some (mkT (.l 246 sZone) x m).2 := by
  obtain ⟨k, rfl⟩ : ∃ q, k = q + 1 := ⟨k - 1, by omega⟩
  have hz' : x.length + sumL (szT sZone) x ≤ 140737488351232 := hz
  have hk' : x.length + sumL (szT sZone) x + 1 < k + 1 := hk
  have hB' : m + 16 * ((x.length + sumL (szT sZone) x : Nat) : Int) ≤ 1152921504606846976 := hB
  obtain ⟨a, ha⟩ : ∃ a : List I3, (mkT (.l 246 sZone) x m).1 = a := ⟨_, rfl⟩
  rw [ha]
  refine (elheldZoneS k a m).trans ?_
  refine (held_loop0 (α := Int × Int × Int) (L := LlheldZoneS_0 k _ _ _ _ _) (X := fun v => some v.1) (fun i m => (m, i)) (f := mkE sZone) (s := szT sZone) (B := 1152921504606846976) (P := fun y => szT sZone y + 0 < k ∧ szT sZone y ≤ 140737488351232) (r := x) (m := m) ha.symm (fun n i m x hi hx hP h0 hB hn hlt hin hw => ?_) (fun n m => ?_) (fun x m => ?_) (fun y hy => ?_) (by omega) (by omega) h0 hB')
  · have hd : decide ((i : Int) < (a.length : Int)) = true := decide_eq_true hlt
    have e1 : mkE sZone x m = ((m, ((m + 1), ((m + 1) + 1))), (((m + 1) + 1) + 1)) := rfl
    have es : szT sZone x = 0 := szT_flat _ _ rfl
    rw [es] at hB
    have w0 : IntKind.i64.wrap (m + 1) = m + 1 := wrap_id (by omega) (by omega)
    have w1 : IntKind.i64.wrap ((m + 1) + 1) = (m + 1) + 1 := wrap_id (by omega) (by omega)
    have w2 : IntKind.i64.wrap (((m + 1) + 1) + 1) = ((m + 1) + 1) + 1 := wrap_id (by omega) (by omega)
    rw [e1] at hx
    show BlheldZoneS_0 k _ _ _ _ _ _ _ = _
    simp only [BlheldZoneS_0, hd, if_true, if_pos hn, hin, ix_some hx, hw, e1, w0, w1, w2, Option.bind_some, bne_self_eq_false, Bool.false_eq_true, if_false]
  · show BlheldZoneS_0 k _ _ _ _ _ _ _ = _
    simp only [BlheldZoneS_0]
    rw [if_neg (by simp)]
  · have := mkE_le sZone x m rfl
    have hl : Sh.leafs sZone ≤ 16 := by decide
    omega
  · have := sumL_le (f := szT sZone) hy
    constructor <;> omega
theorem hlheldSky (k : Nat) (x : TLSky) (m : Int) (h0 : 0 ≤ m) (hB : m + 16 * szT sSky x ≤ 1152921504606846976) (hz : szT sSky x ≤ 140737488351232) (hk : szT sSky x + 2 < k) : FlheldSky k (mkT sSky x m).1 m = some (mkT sSky x m).2 := by
  obtain ⟨k, rfl⟩ : ∃ q, k = q + 1 := ⟨k - 1, by omega⟩
  have es : szT sSky x = (0 + (szT (.l 236 sI4) x.2.1 + (szT (.l 240 sI3) x.2.2.1 + (0 + (0 + (0 + (0 + (0 + (szT (.l 246 sZone) x.2.2.2.2.2.2.2.2.1 + 0))))))))) := rfl
  rw [es] at hB hz hk
  have b0 := mkT_le (.l 236 sI4) x.2.1 m rfl
  have b1 := mkT_le (.l 240 sI3) x.2.2.1 ((mkT (.l 236 sI4) x.2.1 m).2) rfl
  have b2 := mkT_le (.l 246 sZone) x.2.2.2.2.2.2.2.2.1 ((mkT (.l 240 sI3) x.2.2.1 (mkT (.l 236 sI4) x.2.1 m).2).2) rfl
  have g0 := hlheldSatS k x.2.1 m (by omega) (by omega) (by omega) (by omega)
  have g1 := hlheldSiteS k x.2.2.1 ((mkT (.l 236 sI4) x.2.1 m).2) (by omega) (by omega) (by omega) (by omega)
  have g2 := hlheldZoneS k x.2.2.2.2.2.2.2.2.1 ((mkT (.l 240 sI3) x.2.2.1 (mkT (.l 236 sI4) x.2.1 m).2).2) (by omega) (by omega) (by omega) (by omega)
  have n0 : decide ((mkT (.l 236 sI4) x.2.1 m).2 < 0) = false := by rw [decide_eq_false]; omega
  have n1 : decide ((mkT (.l 240 sI3) x.2.2.1 ((mkT (.l 236 sI4) x.2.1 m).2)).2 < 0) = false := by rw [decide_eq_false]; omega
  have n2 : decide ((mkT (.l 246 sZone) x.2.2.2.2.2.2.2.2.1 ((mkT (.l 240 sI3) x.2.2.1 (mkT (.l 236 sI4) x.2.1 m).2).2)).2 < 0) = false := by rw [decide_eq_false]; omega
  refine (elheldSky k _ m).trans ?_
  refine (congrArg (fun z => Option.bind z _) g0).trans ?_
  rw [Option.bind_some]
  refine (if_neg (by rw [n0]; decide)).trans ?_
  refine (congrArg (fun z => Option.bind z _) g1).trans ?_
  rw [Option.bind_some]
  refine (if_neg (by rw [n1]; decide)).trans ?_
  refine (congrArg (fun z => Option.bind z _) g2).trans ?_
  rw [Option.bind_some]
  refine (if_neg (by rw [n2]; decide)).trans ?_
  rfl
theorem hlheldStreamS (k : Nat) (x : List (Int × Int × List Int)) (m : Int) (h0 : 0 ≤ m) (hB : m + 16 * szT (.l 145 sStream) x ≤ 1152921504606846976) (hz : szT (.l 145 sStream) x ≤ 140737488351232) (hk : szT (.l 145 sStream) x + 2 < k) : FlheldStreamS k (mkT (.l 145 sStream) x m).1 m = some (mkT (.l 145 sStream) x m).2 := by
  obtain ⟨k, rfl⟩ : ∃ q, k = q + 1 := ⟨k - 1, by omega⟩
  have hz' : x.length + sumL (szT sStream) x ≤ 140737488351232 := hz
  have hk' : x.length + sumL (szT sStream) x + 2 < k + 1 := hk
  have hB' : m + 16 * ((x.length + sumL (szT sStream) x : Nat) : Int) ≤ 1152921504606846976 := hB
  obtain ⟨a, ha⟩ : ∃ a : List (Int × Int × List Int), (mkT (.l 145 sStream) x m).1 = a := ⟨_, rfl⟩
  rw [ha]
  refine (elheldStreamS k a m).trans ?_
  refine (held_loop0 (α := Int × Int × List Int) (L := LlheldStreamS_0 k _ _ _ _ _) (X := fun v => some v.1) (fun i m => (m, i)) (f := mkE sStream) (s := szT sStream) (B := 1152921504606846976) (P := fun y => szT sStream y + 1 < k ∧ szT sStream y ≤ 140737488351232) (r := x) (m := m) ha.symm (fun n i m x hi hx hP h0 hB hn hlt hin hw => ?_) (fun n m => ?_) (fun x m => ?_) (fun y hy => ?_) (by omega) (by omega) h0 hB')
  · have hd : decide ((i : Int) < (a.length : Int)) = true := decide_eq_true hlt
    have e1 : mkE sStream x m = ((m, (m + 1), (mkT (.l 3 (.i .i64)) x.2.2 ((m + 1) + 1)).1), (mkT (.l 3 (.i .i64)) x.2.2 ((m + 1) + 1)).2) := rfl
    have es : szT sStream x = (0 + (0 + szT (.l 3 (.i .i64)) x.2.2)) := rfl
    have b0 := mkT_le (.l 3 (.i .i64)) x.2.2 ((m + 1) + 1) rfl
    obtain ⟨hP1, hP2⟩ := hP
    rw [es] at hP1 hP2 hB
    have g0 := hlheldIntS k x.2.2 ((m + 1) + 1) (by omega) (by omega) (by omega) (by omega)
    have w0 : IntKind.i64.wrap (m + 1) = m + 1 := wrap_id (by omega) (by omega)
    have w1 : IntKind.i64.wrap ((m + 1) + 1) = (m + 1) + 1 := wrap_id (by omega) (by omega)
    have n0 : decide ((mkT (.l 3 (.i .i64)) x.2.2 ((m + 1) + 1)).2 < 0) = false := by rw [decide_eq_false]; omega
    rw [e1] at hx
    show BlheldStreamS_0 k _ _ _ _ _ _ _ = _
    simp only [BlheldStreamS_0, hd, if_true, if_pos hn, hin, ix_some hx, hw, e1, w0, w1, g0, Option.bind_some, n0, bne_self_eq_false, Bool.false_eq_true, if_false]
    try rfl
  · show BlheldStreamS_0 k _ _ _ _ _ _ _ = _
    simp only [BlheldStreamS_0]
    rw [if_neg (by simp)]
  · have := mkE_le sStream x m rfl
    have hl : Sh.leafs sStream ≤ 16 := by decide
    omega
  · have := sumL_le (f := szT sStream) hy
    constructor <;> omega
theorem hlheldWorld (k : Nat) (x : TLWorld) (m : Int) (h0 : 0 ≤ m) (hB : m + 16 * szT sWorld x ≤ 1152921504606846976) (hz : szT sWorld x ≤ 140737488351232) (hk : szT sWorld x + 5 < k) : FlheldWorld k (mkT sWorld x m).1 m = some (mkT sWorld x m).2 := by
  obtain ⟨k, rfl⟩ : ∃ q, k = q + 1 := ⟨k - 1, by omega⟩
  have es : szT sWorld x = (szT sSky x.1 + (szT sProgram x.2.1 + (szT sLaw x.2.2.1 + (szT (.l 3 (.i .i64)) x.2.2.2.1 + (szT (.l 176 sI6) x.2.2.2.2.1 + (szT (.l 136 sQueue) x.2.2.2.2.2.1 + (szT (.l 76 sI4) x.2.2.2.2.2.2.1 + (szT (.l 3 (.i .i64)) x.2.2.2.2.2.2.2.1 + (szT (.l 145 sStream) x.2.2.2.2.2.2.2.2.1 + (szT (.l 66 sI4) x.2.2.2.2.2.2.2.2.2.1 + (0 + (0 + (szT (.l 133 sI6) x.2.2.2.2.2.2.2.2.2.2.2.2.1 + szT (.l 84 sI4) x.2.2.2.2.2.2.2.2.2.2.2.2.2))))))))))))) := rfl
  rw [es] at hB hz hk
  have b0 := mkT_le sSky x.1 m rfl
  have b1 := mkT_le sProgram x.2.1 ((mkT sSky x.1 m).2) rfl
  have b2 := mkT_le sLaw x.2.2.1 ((mkT sProgram x.2.1 (mkT sSky x.1 m).2).2) rfl
  have b3 := mkT_le (.l 3 (.i .i64)) x.2.2.2.1 ((mkT sLaw x.2.2.1 (mkT sProgram x.2.1 (mkT sSky x.1 m).2).2).2) rfl
  have b4 := mkT_le (.l 176 sI6) x.2.2.2.2.1 ((mkT (.l 3 (.i .i64)) x.2.2.2.1 (mkT sLaw x.2.2.1 (mkT sProgram x.2.1 (mkT sSky x.1 m).2).2).2).2) rfl
  have b5 := mkT_le (.l 136 sQueue) x.2.2.2.2.2.1 ((mkT (.l 176 sI6) x.2.2.2.2.1 (mkT (.l 3 (.i .i64)) x.2.2.2.1 (mkT sLaw x.2.2.1 (mkT sProgram x.2.1 (mkT sSky x.1 m).2).2).2).2).2) rfl
  have b6 := mkT_le (.l 76 sI4) x.2.2.2.2.2.2.1 ((mkT (.l 136 sQueue) x.2.2.2.2.2.1 (mkT (.l 176 sI6) x.2.2.2.2.1 (mkT (.l 3 (.i .i64)) x.2.2.2.1 (mkT sLaw x.2.2.1 (mkT sProgram x.2.1 (mkT sSky x.1 m).2).2).2).2).2).2) rfl
  have b7 := mkT_le (.l 3 (.i .i64)) x.2.2.2.2.2.2.2.1 ((mkT (.l 76 sI4) x.2.2.2.2.2.2.1 (mkT (.l 136 sQueue) x.2.2.2.2.2.1 (mkT (.l 176 sI6) x.2.2.2.2.1 (mkT (.l 3 (.i .i64)) x.2.2.2.1 (mkT sLaw x.2.2.1 (mkT sProgram x.2.1 (mkT sSky x.1 m).2).2).2).2).2).2).2) rfl
  have b8 := mkT_le (.l 145 sStream) x.2.2.2.2.2.2.2.2.1 ((mkT (.l 3 (.i .i64)) x.2.2.2.2.2.2.2.1 (mkT (.l 76 sI4) x.2.2.2.2.2.2.1 (mkT (.l 136 sQueue) x.2.2.2.2.2.1 (mkT (.l 176 sI6) x.2.2.2.2.1 (mkT (.l 3 (.i .i64)) x.2.2.2.1 (mkT sLaw x.2.2.1 (mkT sProgram x.2.1 (mkT sSky x.1 m).2).2).2).2).2).2).2).2) rfl
  have b9 := mkT_le (.l 66 sI4) x.2.2.2.2.2.2.2.2.2.1 ((mkT (.l 145 sStream) x.2.2.2.2.2.2.2.2.1 (mkT (.l 3 (.i .i64)) x.2.2.2.2.2.2.2.1 (mkT (.l 76 sI4) x.2.2.2.2.2.2.1 (mkT (.l 136 sQueue) x.2.2.2.2.2.1 (mkT (.l 176 sI6) x.2.2.2.2.1 (mkT (.l 3 (.i .i64)) x.2.2.2.1 (mkT sLaw x.2.2.1 (mkT sProgram x.2.1 (mkT sSky x.1 m).2).2).2).2).2).2).2).2).2) rfl
  have b10 := mkT_le (.l 133 sI6) x.2.2.2.2.2.2.2.2.2.2.2.2.1 ((mkT (.l 66 sI4) x.2.2.2.2.2.2.2.2.2.1 (mkT (.l 145 sStream) x.2.2.2.2.2.2.2.2.1 (mkT (.l 3 (.i .i64)) x.2.2.2.2.2.2.2.1 (mkT (.l 76 sI4) x.2.2.2.2.2.2.1 (mkT (.l 136 sQueue) x.2.2.2.2.2.1 (mkT (.l 176 sI6) x.2.2.2.2.1 (mkT (.l 3 (.i .i64)) x.2.2.2.1 (mkT sLaw x.2.2.1 (mkT sProgram x.2.1 (mkT sSky x.1 m).2).2).2).2).2).2).2).2).2).2) rfl
  have b11 := mkT_le (.l 84 sI4) x.2.2.2.2.2.2.2.2.2.2.2.2.2 ((mkT (.l 133 sI6) x.2.2.2.2.2.2.2.2.2.2.2.2.1 (mkT (.l 66 sI4) x.2.2.2.2.2.2.2.2.2.1 (mkT (.l 145 sStream) x.2.2.2.2.2.2.2.2.1 (mkT (.l 3 (.i .i64)) x.2.2.2.2.2.2.2.1 (mkT (.l 76 sI4) x.2.2.2.2.2.2.1 (mkT (.l 136 sQueue) x.2.2.2.2.2.1 (mkT (.l 176 sI6) x.2.2.2.2.1 (mkT (.l 3 (.i .i64)) x.2.2.2.1 (mkT sLaw x.2.2.1 (mkT sProgram x.2.1 (mkT sSky x.1 m).2).2).2).2).2).2).2).2).2).2).2) rfl
  have g0 := hlheldSky k x.1 m (by omega) (by omega) (by omega) (by omega)
  have g1 := hlheldProgram k x.2.1 ((mkT sSky x.1 m).2) (by omega) (by omega) (by omega) (by omega)
  have g2 := hlheldLaw k x.2.2.1 ((mkT sProgram x.2.1 (mkT sSky x.1 m).2).2) (by omega) (by omega) (by omega) (by omega)
  have g3 := hlheldIntS k x.2.2.2.1 ((mkT sLaw x.2.2.1 (mkT sProgram x.2.1 (mkT sSky x.1 m).2).2).2) (by omega) (by omega) (by omega) (by omega)
  have g4 := hlheldBatteryS k x.2.2.2.2.1 ((mkT (.l 3 (.i .i64)) x.2.2.2.1 (mkT sLaw x.2.2.1 (mkT sProgram x.2.1 (mkT sSky x.1 m).2).2).2).2) (by omega) (by omega) (by omega) (by omega)
  have g5 := hlheldQueueS k x.2.2.2.2.2.1 ((mkT (.l 176 sI6) x.2.2.2.2.1 (mkT (.l 3 (.i .i64)) x.2.2.2.1 (mkT sLaw x.2.2.1 (mkT sProgram x.2.1 (mkT sSky x.1 m).2).2).2).2).2) (by omega) (by omega) (by omega) (by omega)
  have g6 := hlheldFlowS k x.2.2.2.2.2.2.1 ((mkT (.l 136 sQueue) x.2.2.2.2.2.1 (mkT (.l 176 sI6) x.2.2.2.2.1 (mkT (.l 3 (.i .i64)) x.2.2.2.1 (mkT sLaw x.2.2.1 (mkT sProgram x.2.1 (mkT sSky x.1 m).2).2).2).2).2).2) (by omega) (by omega) (by omega) (by omega)
  have g7 := hlheldIntS k x.2.2.2.2.2.2.2.1 ((mkT (.l 76 sI4) x.2.2.2.2.2.2.1 (mkT (.l 136 sQueue) x.2.2.2.2.2.1 (mkT (.l 176 sI6) x.2.2.2.2.1 (mkT (.l 3 (.i .i64)) x.2.2.2.1 (mkT sLaw x.2.2.1 (mkT sProgram x.2.1 (mkT sSky x.1 m).2).2).2).2).2).2).2) (by omega) (by omega) (by omega) (by omega)
  have g8 := hlheldStreamS k x.2.2.2.2.2.2.2.2.1 ((mkT (.l 3 (.i .i64)) x.2.2.2.2.2.2.2.1 (mkT (.l 76 sI4) x.2.2.2.2.2.2.1 (mkT (.l 136 sQueue) x.2.2.2.2.2.1 (mkT (.l 176 sI6) x.2.2.2.2.1 (mkT (.l 3 (.i .i64)) x.2.2.2.1 (mkT sLaw x.2.2.1 (mkT sProgram x.2.1 (mkT sSky x.1 m).2).2).2).2).2).2).2).2) (by omega) (by omega) (by omega) (by omega)
  have g9 := hlheldFaultS k x.2.2.2.2.2.2.2.2.2.1 ((mkT (.l 145 sStream) x.2.2.2.2.2.2.2.2.1 (mkT (.l 3 (.i .i64)) x.2.2.2.2.2.2.2.1 (mkT (.l 76 sI4) x.2.2.2.2.2.2.1 (mkT (.l 136 sQueue) x.2.2.2.2.2.1 (mkT (.l 176 sI6) x.2.2.2.2.1 (mkT (.l 3 (.i .i64)) x.2.2.2.1 (mkT sLaw x.2.2.1 (mkT sProgram x.2.1 (mkT sSky x.1 m).2).2).2).2).2).2).2).2).2) (by omega) (by omega) (by omega) (by omega)
  have g10 := hlheldPacketS k x.2.2.2.2.2.2.2.2.2.2.2.2.1 ((mkT (.l 66 sI4) x.2.2.2.2.2.2.2.2.2.1 (mkT (.l 145 sStream) x.2.2.2.2.2.2.2.2.1 (mkT (.l 3 (.i .i64)) x.2.2.2.2.2.2.2.1 (mkT (.l 76 sI4) x.2.2.2.2.2.2.1 (mkT (.l 136 sQueue) x.2.2.2.2.2.1 (mkT (.l 176 sI6) x.2.2.2.2.1 (mkT (.l 3 (.i .i64)) x.2.2.2.1 (mkT sLaw x.2.2.1 (mkT sProgram x.2.1 (mkT sSky x.1 m).2).2).2).2).2).2).2).2).2).2) (by omega) (by omega) (by omega) (by omega)
  have g11 := hlheldSentS k x.2.2.2.2.2.2.2.2.2.2.2.2.2 ((mkT (.l 133 sI6) x.2.2.2.2.2.2.2.2.2.2.2.2.1 (mkT (.l 66 sI4) x.2.2.2.2.2.2.2.2.2.1 (mkT (.l 145 sStream) x.2.2.2.2.2.2.2.2.1 (mkT (.l 3 (.i .i64)) x.2.2.2.2.2.2.2.1 (mkT (.l 76 sI4) x.2.2.2.2.2.2.1 (mkT (.l 136 sQueue) x.2.2.2.2.2.1 (mkT (.l 176 sI6) x.2.2.2.2.1 (mkT (.l 3 (.i .i64)) x.2.2.2.1 (mkT sLaw x.2.2.1 (mkT sProgram x.2.1 (mkT sSky x.1 m).2).2).2).2).2).2).2).2).2).2).2) (by omega) (by omega) (by omega) (by omega)
  have n0 : decide ((mkT sSky x.1 m).2 < 0) = false := by rw [decide_eq_false]; omega
  have n1 : decide ((mkT sProgram x.2.1 ((mkT sSky x.1 m).2)).2 < 0) = false := by rw [decide_eq_false]; omega
  have n2 : decide ((mkT sLaw x.2.2.1 ((mkT sProgram x.2.1 (mkT sSky x.1 m).2).2)).2 < 0) = false := by rw [decide_eq_false]; omega
  have n3 : decide ((mkT (.l 3 (.i .i64)) x.2.2.2.1 ((mkT sLaw x.2.2.1 (mkT sProgram x.2.1 (mkT sSky x.1 m).2).2).2)).2 < 0) = false := by rw [decide_eq_false]; omega
  have n4 : decide ((mkT (.l 176 sI6) x.2.2.2.2.1 ((mkT (.l 3 (.i .i64)) x.2.2.2.1 (mkT sLaw x.2.2.1 (mkT sProgram x.2.1 (mkT sSky x.1 m).2).2).2).2)).2 < 0) = false := by rw [decide_eq_false]; omega
  have n5 : decide ((mkT (.l 136 sQueue) x.2.2.2.2.2.1 ((mkT (.l 176 sI6) x.2.2.2.2.1 (mkT (.l 3 (.i .i64)) x.2.2.2.1 (mkT sLaw x.2.2.1 (mkT sProgram x.2.1 (mkT sSky x.1 m).2).2).2).2).2)).2 < 0) = false := by rw [decide_eq_false]; omega
  have n6 : decide ((mkT (.l 76 sI4) x.2.2.2.2.2.2.1 ((mkT (.l 136 sQueue) x.2.2.2.2.2.1 (mkT (.l 176 sI6) x.2.2.2.2.1 (mkT (.l 3 (.i .i64)) x.2.2.2.1 (mkT sLaw x.2.2.1 (mkT sProgram x.2.1 (mkT sSky x.1 m).2).2).2).2).2).2)).2 < 0) = false := by rw [decide_eq_false]; omega
  have n7 : decide ((mkT (.l 3 (.i .i64)) x.2.2.2.2.2.2.2.1 ((mkT (.l 76 sI4) x.2.2.2.2.2.2.1 (mkT (.l 136 sQueue) x.2.2.2.2.2.1 (mkT (.l 176 sI6) x.2.2.2.2.1 (mkT (.l 3 (.i .i64)) x.2.2.2.1 (mkT sLaw x.2.2.1 (mkT sProgram x.2.1 (mkT sSky x.1 m).2).2).2).2).2).2).2)).2 < 0) = false := by rw [decide_eq_false]; omega
  have n8 : decide ((mkT (.l 145 sStream) x.2.2.2.2.2.2.2.2.1 ((mkT (.l 3 (.i .i64)) x.2.2.2.2.2.2.2.1 (mkT (.l 76 sI4) x.2.2.2.2.2.2.1 (mkT (.l 136 sQueue) x.2.2.2.2.2.1 (mkT (.l 176 sI6) x.2.2.2.2.1 (mkT (.l 3 (.i .i64)) x.2.2.2.1 (mkT sLaw x.2.2.1 (mkT sProgram x.2.1 (mkT sSky x.1 m).2).2).2).2).2).2).2).2)).2 < 0) = false := by rw [decide_eq_false]; omega
  have n9 : decide ((mkT (.l 66 sI4) x.2.2.2.2.2.2.2.2.2.1 ((mkT (.l 145 sStream) x.2.2.2.2.2.2.2.2.1 (mkT (.l 3 (.i .i64)) x.2.2.2.2.2.2.2.1 (mkT (.l 76 sI4) x.2.2.2.2.2.2.1 (mkT (.l 136 sQueue) x.2.2.2.2.2.1 (mkT (.l 176 sI6) x.2.2.2.2.1 (mkT (.l 3 (.i .i64)) x.2.2.2.1 (mkT sLaw x.2.2.1 (mkT sProgram x.2.1 (mkT sSky x.1 m).2).2).2).2).2).2).2).2).2)).2 < 0) = false := by rw [decide_eq_false]; omega
  have n10 : decide ((mkT (.l 133 sI6) x.2.2.2.2.2.2.2.2.2.2.2.2.1 ((mkT (.l 66 sI4) x.2.2.2.2.2.2.2.2.2.1 (mkT (.l 145 sStream) x.2.2.2.2.2.2.2.2.1 (mkT (.l 3 (.i .i64)) x.2.2.2.2.2.2.2.1 (mkT (.l 76 sI4) x.2.2.2.2.2.2.1 (mkT (.l 136 sQueue) x.2.2.2.2.2.1 (mkT (.l 176 sI6) x.2.2.2.2.1 (mkT (.l 3 (.i .i64)) x.2.2.2.1 (mkT sLaw x.2.2.1 (mkT sProgram x.2.1 (mkT sSky x.1 m).2).2).2).2).2).2).2).2).2).2)).2 < 0) = false := by rw [decide_eq_false]; omega
  have n11 : decide ((mkT (.l 84 sI4) x.2.2.2.2.2.2.2.2.2.2.2.2.2 ((mkT (.l 133 sI6) x.2.2.2.2.2.2.2.2.2.2.2.2.1 (mkT (.l 66 sI4) x.2.2.2.2.2.2.2.2.2.1 (mkT (.l 145 sStream) x.2.2.2.2.2.2.2.2.1 (mkT (.l 3 (.i .i64)) x.2.2.2.2.2.2.2.1 (mkT (.l 76 sI4) x.2.2.2.2.2.2.1 (mkT (.l 136 sQueue) x.2.2.2.2.2.1 (mkT (.l 176 sI6) x.2.2.2.2.1 (mkT (.l 3 (.i .i64)) x.2.2.2.1 (mkT sLaw x.2.2.1 (mkT sProgram x.2.1 (mkT sSky x.1 m).2).2).2).2).2).2).2).2).2).2).2)).2 < 0) = false := by rw [decide_eq_false]; omega
  refine (elheldWorld k _ m).trans ?_
  refine (congrArg (fun z => Option.bind z _) g0).trans ?_
  rw [Option.bind_some]
  refine (if_neg (by rw [n0]; decide)).trans ?_
  refine (congrArg (fun z => Option.bind z _) g1).trans ?_
  rw [Option.bind_some]
  refine (if_neg (by rw [n1]; decide)).trans ?_
  refine (congrArg (fun z => Option.bind z _) g2).trans ?_
  rw [Option.bind_some]
  refine (if_neg (by rw [n2]; decide)).trans ?_
  refine (congrArg (fun z => Option.bind z _) g3).trans ?_
  rw [Option.bind_some]
  refine (if_neg (by rw [n3]; decide)).trans ?_
  refine (congrArg (fun z => Option.bind z _) g4).trans ?_
  rw [Option.bind_some]
  refine (if_neg (by rw [n4]; decide)).trans ?_
  refine (congrArg (fun z => Option.bind z _) g5).trans ?_
  rw [Option.bind_some]
  refine (if_neg (by rw [n5]; decide)).trans ?_
  refine (congrArg (fun z => Option.bind z _) g6).trans ?_
  rw [Option.bind_some]
  refine (if_neg (by rw [n6]; decide)).trans ?_
  refine (congrArg (fun z => Option.bind z _) g7).trans ?_
  rw [Option.bind_some]
  refine (if_neg (by rw [n7]; decide)).trans ?_
  refine (congrArg (fun z => Option.bind z _) g8).trans ?_
  rw [Option.bind_some]
  refine (if_neg (by rw [n8]; decide)).trans ?_
  refine (congrArg (fun z => Option.bind z _) g9).trans ?_
  rw [Option.bind_some]
  refine (if_neg (by rw [n9]; decide)).trans ?_
  refine (congrArg (fun z => Option.bind z _) g10).trans ?_
  rw [Option.bind_some]
  refine (if_neg (by rw [n10]; decide)).trans ?_
  refine (congrArg (fun z => Option.bind z _) g11).trans ?_
  rw [Option.bind_some]
  refine (if_neg (by rw [n11]; decide)).trans ?_
  rfl
theorem mlmarkBatteryS (k : Nat) (x : List I6) (m : Int) (h0 : 0 ≤ m) (hB : m + 16 * szT (.l 176 sI6) x ≤ 1152921504606846976) (hz : szT (.l 176 sI6) x ≤ 140737488351232) (hk : szT (.l 176 sI6) x + 1 < k) : FlmarkBatteryS k x m = (some ((mkT (.l 176 sI6) x m).2, (mkT (.l 176 sI6) x m).1) : Option (Int × List I6)) := by
  obtain ⟨k, rfl⟩ : ∃ q, k = q + 1 := ⟨k - 1, by omega⟩
  have hz' : x.length + sumL (szT sI6) x ≤ 140737488351232 := hz
  have hk' : x.length + sumL (szT sI6) x + 1 < k + 1 := hk
  have hB' : m + 16 * ((x.length + sumL (szT sI6) x : Nat) : Int) ≤ 1152921504606846976 := hB
  refine (elmarkBatteryS k x m).trans ?_
  refine (mark_loop0 (α := Int × Int × Int × Int × Int × Int) (L := LlmarkBatteryS_0 k _ _) (X := fun v => some (v.1, v.2.2)) (fun a i m => (m, i, a)) (f := mkE sI6) (s := szT sI6) (B := 1152921504606846976) (P := fun y => szT sI6 y + 0 < k ∧ szT sI6 y ≤ 140737488351232) (fun n a i m x hi hx hP h0 hB hn hlt hin hw => ?_) (fun n a m => ?_) (fun x m => ?_) (fun y hy => ?_) (by omega) (by omega) h0 hB')
  · have hd : decide ((i : Int) < (a.length : Int)) = true := decide_eq_true hlt
    have e1 : mkE sI6 x m = ((m, (m + 1), ((m + 1) + 1), (((m + 1) + 1) + 1), ((((m + 1) + 1) + 1) + 1), (((((m + 1) + 1) + 1) + 1) + 1)), ((((((m + 1) + 1) + 1) + 1) + 1) + 1)) := rfl
    have es : szT sI6 x = 0 := szT_flat _ _ rfl
    rw [es] at hB
    have w0 : IntKind.i64.wrap (m + 1) = m + 1 := wrap_id (by omega) (by omega)
    have w1 : IntKind.i64.wrap ((m + 1) + 1) = (m + 1) + 1 := wrap_id (by omega) (by omega)
    have w2 : IntKind.i64.wrap (((m + 1) + 1) + 1) = ((m + 1) + 1) + 1 := wrap_id (by omega) (by omega)
    have w3 : IntKind.i64.wrap ((((m + 1) + 1) + 1) + 1) = (((m + 1) + 1) + 1) + 1 := wrap_id (by omega) (by omega)
    have w4 : IntKind.i64.wrap (((((m + 1) + 1) + 1) + 1) + 1) = ((((m + 1) + 1) + 1) + 1) + 1 := wrap_id (by omega) (by omega)
    have w5 : IntKind.i64.wrap ((((((m + 1) + 1) + 1) + 1) + 1) + 1) = (((((m + 1) + 1) + 1) + 1) + 1) + 1 := wrap_id (by omega) (by omega)
    show BlmarkBatteryS_0 k _ _ _ _ = _
    simp only [BlmarkBatteryS_0, hd, if_true, if_pos hn, if_pos hlt, List.length_set, hin, ix_some hx, ix_set hi, List.set_set, hw, e1, w0, w1, w2, w3, w4, w5, Option.bind_some]
  · show BlmarkBatteryS_0 k _ _ _ _ = _
    simp only [BlmarkBatteryS_0]
    rw [if_neg (by simp)]
  · have := mkE_le sI6 x m rfl
    have hl : Sh.leafs sI6 ≤ 16 := by decide
    omega
  · have := sumL_le (f := szT sI6) hy
    constructor <;> omega
theorem mlmarkFaultS (k : Nat) (x : List I4) (m : Int) (h0 : 0 ≤ m) (hB : m + 16 * szT (.l 66 sI4) x ≤ 1152921504606846976) (hz : szT (.l 66 sI4) x ≤ 140737488351232) (hk : szT (.l 66 sI4) x + 1 < k) : FlmarkFaultS k x m = (some ((mkT (.l 66 sI4) x m).2, (mkT (.l 66 sI4) x m).1) : Option (Int × List I4)) := by
  obtain ⟨k, rfl⟩ : ∃ q, k = q + 1 := ⟨k - 1, by omega⟩
  have hz' : x.length + sumL (szT sI4) x ≤ 140737488351232 := hz
  have hk' : x.length + sumL (szT sI4) x + 1 < k + 1 := hk
  have hB' : m + 16 * ((x.length + sumL (szT sI4) x : Nat) : Int) ≤ 1152921504606846976 := hB
  refine (elmarkFaultS k x m).trans ?_
  refine (mark_loop0 (α := Int × Int × Int × Int) (L := LlmarkFaultS_0 k _ _) (X := fun v => some (v.1, v.2.2)) (fun a i m => (m, i, a)) (f := mkE sI4) (s := szT sI4) (B := 1152921504606846976) (P := fun y => szT sI4 y + 0 < k ∧ szT sI4 y ≤ 140737488351232) (fun n a i m x hi hx hP h0 hB hn hlt hin hw => ?_) (fun n a m => ?_) (fun x m => ?_) (fun y hy => ?_) (by omega) (by omega) h0 hB')
  · have hd : decide ((i : Int) < (a.length : Int)) = true := decide_eq_true hlt
    have e1 : mkE sI4 x m = ((m, (m + 1), ((m + 1) + 1), (((m + 1) + 1) + 1)), ((((m + 1) + 1) + 1) + 1)) := rfl
    have es : szT sI4 x = 0 := szT_flat _ _ rfl
    rw [es] at hB
    have w0 : IntKind.i64.wrap (m + 1) = m + 1 := wrap_id (by omega) (by omega)
    have w1 : IntKind.i64.wrap ((m + 1) + 1) = (m + 1) + 1 := wrap_id (by omega) (by omega)
    have w2 : IntKind.i64.wrap (((m + 1) + 1) + 1) = ((m + 1) + 1) + 1 := wrap_id (by omega) (by omega)
    have w3 : IntKind.i64.wrap ((((m + 1) + 1) + 1) + 1) = (((m + 1) + 1) + 1) + 1 := wrap_id (by omega) (by omega)
    show BlmarkFaultS_0 k _ _ _ _ = _
    simp only [BlmarkFaultS_0, hd, if_true, if_pos hn, if_pos hlt, List.length_set, hin, ix_some hx, ix_set hi, List.set_set, hw, e1, w0, w1, w2, w3, Option.bind_some]
  · show BlmarkFaultS_0 k _ _ _ _ = _
    simp only [BlmarkFaultS_0]
    rw [if_neg (by simp)]
  · have := mkE_le sI4 x m rfl
    have hl : Sh.leafs sI4 ≤ 16 := by decide
    omega
  · have := sumL_le (f := szT sI4) hy
    constructor <;> omega
theorem mlmarkFlowS (k : Nat) (x : List I4) (m : Int) (h0 : 0 ≤ m) (hB : m + 16 * szT (.l 76 sI4) x ≤ 1152921504606846976) (hz : szT (.l 76 sI4) x ≤ 140737488351232) (hk : szT (.l 76 sI4) x + 1 < k) : FlmarkFlowS k x m = (some ((mkT (.l 76 sI4) x m).2, (mkT (.l 76 sI4) x m).1) : Option (Int × List I4)) := by
  obtain ⟨k, rfl⟩ : ∃ q, k = q + 1 := ⟨k - 1, by omega⟩
  have hz' : x.length + sumL (szT sI4) x ≤ 140737488351232 := hz
  have hk' : x.length + sumL (szT sI4) x + 1 < k + 1 := hk
  have hB' : m + 16 * ((x.length + sumL (szT sI4) x : Nat) : Int) ≤ 1152921504606846976 := hB
  refine (elmarkFlowS k x m).trans ?_
  refine (mark_loop0 (α := Int × Int × Int × Int) (L := LlmarkFlowS_0 k _ _) (X := fun v => some (v.1, v.2.2)) (fun a i m => (m, i, a)) (f := mkE sI4) (s := szT sI4) (B := 1152921504606846976) (P := fun y => szT sI4 y + 0 < k ∧ szT sI4 y ≤ 140737488351232) (fun n a i m x hi hx hP h0 hB hn hlt hin hw => ?_) (fun n a m => ?_) (fun x m => ?_) (fun y hy => ?_) (by omega) (by omega) h0 hB')
  · have hd : decide ((i : Int) < (a.length : Int)) = true := decide_eq_true hlt
    have e1 : mkE sI4 x m = ((m, (m + 1), ((m + 1) + 1), (((m + 1) + 1) + 1)), ((((m + 1) + 1) + 1) + 1)) := rfl
    have es : szT sI4 x = 0 := szT_flat _ _ rfl
    rw [es] at hB
    have w0 : IntKind.i64.wrap (m + 1) = m + 1 := wrap_id (by omega) (by omega)
    have w1 : IntKind.i64.wrap ((m + 1) + 1) = (m + 1) + 1 := wrap_id (by omega) (by omega)
    have w2 : IntKind.i64.wrap (((m + 1) + 1) + 1) = ((m + 1) + 1) + 1 := wrap_id (by omega) (by omega)
    have w3 : IntKind.i64.wrap ((((m + 1) + 1) + 1) + 1) = (((m + 1) + 1) + 1) + 1 := wrap_id (by omega) (by omega)
    show BlmarkFlowS_0 k _ _ _ _ = _
    simp only [BlmarkFlowS_0, hd, if_true, if_pos hn, if_pos hlt, List.length_set, hin, ix_some hx, ix_set hi, List.set_set, hw, e1, w0, w1, w2, w3, Option.bind_some]
  · show BlmarkFlowS_0 k _ _ _ _ = _
    simp only [BlmarkFlowS_0]
    rw [if_neg (by simp)]
  · have := mkE_le sI4 x m rfl
    have hl : Sh.leafs sI4 ≤ 16 := by decide
    omega
  · have := sumL_le (f := szT sI4) hy
    constructor <;> omega
theorem mlmarkIntS (k : Nat) (x : List Int) (m : Int) (h0 : 0 ≤ m) (hB : m + 16 * szT (.l 3 (.i .i64)) x ≤ 1152921504606846976) (hz : szT (.l 3 (.i .i64)) x ≤ 140737488351232) (hk : szT (.l 3 (.i .i64)) x + 1 < k) : FlmarkIntS k x m = (some ((mkT (.l 3 (.i .i64)) x m).2, (mkT (.l 3 (.i .i64)) x m).1) : Option (Int × List Int)) := by
  obtain ⟨k, rfl⟩ : ∃ q, k = q + 1 := ⟨k - 1, by omega⟩
  have hz' : x.length + sumL (szT (.i .i64)) x ≤ 140737488351232 := hz
  have hk' : x.length + sumL (szT (.i .i64)) x + 1 < k + 1 := hk
  have hB' : m + 16 * ((x.length + sumL (szT (.i .i64)) x : Nat) : Int) ≤ 1152921504606846976 := hB
  refine (elmarkIntS k x m).trans ?_
  refine (mark_loop0 (α := Int) (L := LlmarkIntS_0 k _ _) (X := fun v => some (v.1, v.2.2)) (fun a i m => (m, i, a)) (f := mkE (.i .i64)) (s := szT (.i .i64)) (B := 1152921504606846976) (P := fun y => szT (.i .i64) y + 0 < k ∧ szT (.i .i64) y ≤ 140737488351232) (fun n a i m x hi hx hP h0 hB hn hlt hin hw => ?_) (fun n a m => ?_) (fun x m => ?_) (fun y hy => ?_) (by omega) (by omega) h0 hB')
  · have hd : decide ((i : Int) < (a.length : Int)) = true := decide_eq_true hlt
    have e1 : mkE (.i .i64) x m = (m, (m + 1)) := rfl
    have es : szT (.i .i64) x = 0 := szT_flat _ _ rfl
    rw [es] at hB
    have w0 : IntKind.i64.wrap (m + 1) = m + 1 := wrap_id (by omega) (by omega)
    show BlmarkIntS_0 k _ _ _ _ = _
    simp only [BlmarkIntS_0, hd, if_true, if_pos hn, if_pos hlt, List.length_set, hin, ix_some hx, ix_set hi, List.set_set, hw, e1, w0, Option.bind_some]
  · show BlmarkIntS_0 k _ _ _ _ = _
    simp only [BlmarkIntS_0]
    rw [if_neg (by simp)]
  · have := mkE_le (.i .i64) x m rfl
    have hl : Sh.leafs (.i .i64) ≤ 16 := by decide
    omega
  · have := sumL_le (f := szT (.i .i64)) hy
    constructor <;> omega
theorem mlmarkLaw (k : Nat) (x : List Int) (m : Int) (h0 : 0 ≤ m) (hB : m + 16 * szT sLaw x ≤ 1152921504606846976) (hz : szT sLaw x ≤ 140737488351232) (hk : szT sLaw x + 2 < k) : FlmarkLaw k x m = (some ((mkT sLaw x m).2, (mkT sLaw x m).1) : Option (Int × List Int)) := by
  obtain ⟨k, rfl⟩ : ∃ q, k = q + 1 := ⟨k - 1, by omega⟩
  have es : szT sLaw x = szT (.l 3 (.i .i64)) x := rfl
  rw [es] at hB hz hk
  have b0 := mkT_le (.l 3 (.i .i64)) x m rfl
  have g0 := mlmarkIntS k x m (by omega) (by omega) (by omega) (by omega)
  rw [elmarkLaw]
  simp only [g0, Option.bind_some]
  rfl
theorem mlmarkPacketS (k : Nat) (x : List I6) (m : Int) (h0 : 0 ≤ m) (hB : m + 16 * szT (.l 133 sI6) x ≤ 1152921504606846976) (hz : szT (.l 133 sI6) x ≤ 140737488351232) (hk : szT (.l 133 sI6) x + 1 < k) : FlmarkPacketS k x m = (some ((mkT (.l 133 sI6) x m).2, (mkT (.l 133 sI6) x m).1) : Option (Int × List I6)) := by
  obtain ⟨k, rfl⟩ : ∃ q, k = q + 1 := ⟨k - 1, by omega⟩
  have hz' : x.length + sumL (szT sI6) x ≤ 140737488351232 := hz
  have hk' : x.length + sumL (szT sI6) x + 1 < k + 1 := hk
  have hB' : m + 16 * ((x.length + sumL (szT sI6) x : Nat) : Int) ≤ 1152921504606846976 := hB
  refine (elmarkPacketS k x m).trans ?_
  refine (mark_loop0 (α := Int × Int × Int × Int × Int × Int) (L := LlmarkPacketS_0 k _ _) (X := fun v => some (v.1, v.2.2)) (fun a i m => (m, i, a)) (f := mkE sI6) (s := szT sI6) (B := 1152921504606846976) (P := fun y => szT sI6 y + 0 < k ∧ szT sI6 y ≤ 140737488351232) (fun n a i m x hi hx hP h0 hB hn hlt hin hw => ?_) (fun n a m => ?_) (fun x m => ?_) (fun y hy => ?_) (by omega) (by omega) h0 hB')
  · have hd : decide ((i : Int) < (a.length : Int)) = true := decide_eq_true hlt
    have e1 : mkE sI6 x m = ((m, (m + 1), ((m + 1) + 1), (((m + 1) + 1) + 1), ((((m + 1) + 1) + 1) + 1), (((((m + 1) + 1) + 1) + 1) + 1)), ((((((m + 1) + 1) + 1) + 1) + 1) + 1)) := rfl
    have es : szT sI6 x = 0 := szT_flat _ _ rfl
    rw [es] at hB
    have w0 : IntKind.i64.wrap (m + 1) = m + 1 := wrap_id (by omega) (by omega)
    have w1 : IntKind.i64.wrap ((m + 1) + 1) = (m + 1) + 1 := wrap_id (by omega) (by omega)
    have w2 : IntKind.i64.wrap (((m + 1) + 1) + 1) = ((m + 1) + 1) + 1 := wrap_id (by omega) (by omega)
    have w3 : IntKind.i64.wrap ((((m + 1) + 1) + 1) + 1) = (((m + 1) + 1) + 1) + 1 := wrap_id (by omega) (by omega)
    have w4 : IntKind.i64.wrap (((((m + 1) + 1) + 1) + 1) + 1) = ((((m + 1) + 1) + 1) + 1) + 1 := wrap_id (by omega) (by omega)
    have w5 : IntKind.i64.wrap ((((((m + 1) + 1) + 1) + 1) + 1) + 1) = (((((m + 1) + 1) + 1) + 1) + 1) + 1 := wrap_id (by omega) (by omega)
    show BlmarkPacketS_0 k _ _ _ _ = _
    simp only [BlmarkPacketS_0, hd, if_true, if_pos hn, if_pos hlt, List.length_set, hin, ix_some hx, ix_set hi, List.set_set, hw, e1, w0, w1, w2, w3, w4, w5, Option.bind_some]
  · show BlmarkPacketS_0 k _ _ _ _ = _
    simp only [BlmarkPacketS_0]
    rw [if_neg (by simp)]
  · have := mkE_le sI6 x m rfl
    have hl : Sh.leafs sI6 ≤ 16 := by decide
    omega
  · have := sumL_le (f := szT sI6) hy
    constructor <;> omega
theorem mlmarkLinkS (k : Nat) (x : List I2) (m : Int) (h0 : 0 ≤ m) (hB : m + 16 * szT (.l 283 sI2) x ≤ 1152921504606846976) (hz : szT (.l 283 sI2) x ≤ 140737488351232) (hk : szT (.l 283 sI2) x + 1 < k) : FlmarkLinkS k x m = (some ((mkT (.l 283 sI2) x m).2, (mkT (.l 283 sI2) x m).1) : Option (Int × List I2)) := by
  obtain ⟨k, rfl⟩ : ∃ q, k = q + 1 := ⟨k - 1, by omega⟩
  have hz' : x.length + sumL (szT sI2) x ≤ 140737488351232 := hz
  have hk' : x.length + sumL (szT sI2) x + 1 < k + 1 := hk
  have hB' : m + 16 * ((x.length + sumL (szT sI2) x : Nat) : Int) ≤ 1152921504606846976 := hB
  refine (elmarkLinkS k x m).trans ?_
  refine (mark_loop0 (α := Int × Int) (L := LlmarkLinkS_0 k _ _) (X := fun v => some (v.1, v.2.2)) (fun a i m => (m, i, a)) (f := mkE sI2) (s := szT sI2) (B := 1152921504606846976) (P := fun y => szT sI2 y + 0 < k ∧ szT sI2 y ≤ 140737488351232) (fun n a i m x hi hx hP h0 hB hn hlt hin hw => ?_) (fun n a m => ?_) (fun x m => ?_) (fun y hy => ?_) (by omega) (by omega) h0 hB')
  · have hd : decide ((i : Int) < (a.length : Int)) = true := decide_eq_true hlt
    have e1 : mkE sI2 x m = ((m, (m + 1)), ((m + 1) + 1)) := rfl
    have es : szT sI2 x = 0 := szT_flat _ _ rfl
    rw [es] at hB
    have w0 : IntKind.i64.wrap (m + 1) = m + 1 := wrap_id (by omega) (by omega)
    have w1 : IntKind.i64.wrap ((m + 1) + 1) = (m + 1) + 1 := wrap_id (by omega) (by omega)
    show BlmarkLinkS_0 k _ _ _ _ = _
    simp only [BlmarkLinkS_0, hd, if_true, if_pos hn, if_pos hlt, List.length_set, hin, ix_some hx, ix_set hi, List.set_set, hw, e1, w0, w1, Option.bind_some]
  · show BlmarkLinkS_0 k _ _ _ _ = _
    simp only [BlmarkLinkS_0]
    rw [if_neg (by simp)]
  · have := mkE_le sI2 x m rfl
    have hl : Sh.leafs sI2 ≤ 16 := by decide
    omega
  · have := sumL_le (f := szT sI2) hy
    constructor <;> omega
theorem mlmarkTableS (k : Nat) (x : List (Int × (List Int) × List Int)) (m : Int) (h0 : 0 ≤ m) (hB : m + 16 * szT (.l 211 sTable) x ≤ 1152921504606846976) (hz : szT (.l 211 sTable) x ≤ 140737488351232) (hk : szT (.l 211 sTable) x + 2 < k) : FlmarkTableS k x m = (some ((mkT (.l 211 sTable) x m).2, (mkT (.l 211 sTable) x m).1) : Option (Int × List (Int × (List Int) × List Int))) := by
  obtain ⟨k, rfl⟩ : ∃ q, k = q + 1 := ⟨k - 1, by omega⟩
  have hz' : x.length + sumL (szT sTable) x ≤ 140737488351232 := hz
  have hk' : x.length + sumL (szT sTable) x + 2 < k + 1 := hk
  have hB' : m + 16 * ((x.length + sumL (szT sTable) x : Nat) : Int) ≤ 1152921504606846976 := hB
  refine (elmarkTableS k x m).trans ?_
  refine (mark_loop0 (α := Int × (List Int) × List Int) (L := LlmarkTableS_0 k _ _) (X := fun v => some (v.1, v.2.2)) (fun a i m => (m, i, a)) (f := mkE sTable) (s := szT sTable) (B := 1152921504606846976) (P := fun y => szT sTable y + 1 < k ∧ szT sTable y ≤ 140737488351232) (fun n a i m x hi hx hP h0 hB hn hlt hin hw => ?_) (fun n a m => ?_) (fun x m => ?_) (fun y hy => ?_) (by omega) (by omega) h0 hB')
  · have hd : decide ((i : Int) < (a.length : Int)) = true := decide_eq_true hlt
    have e1 : mkE sTable x m = ((m, (mkT (.l 3 (.i .i64)) x.2.1 (m + 1)).1, (mkT (.l 3 (.i .i64)) x.2.2 (mkT (.l 3 (.i .i64)) x.2.1 (m + 1)).2).1), (mkT (.l 3 (.i .i64)) x.2.2 (mkT (.l 3 (.i .i64)) x.2.1 (m + 1)).2).2) := rfl
    have es : szT sTable x = (0 + (szT (.l 3 (.i .i64)) x.2.1 + szT (.l 3 (.i .i64)) x.2.2)) := rfl
    have b0 := mkT_le (.l 3 (.i .i64)) x.2.1 (m + 1) rfl
    have b1 := mkT_le (.l 3 (.i .i64)) x.2.2 ((mkT (.l 3 (.i .i64)) x.2.1 (m + 1)).2) rfl
    obtain ⟨hP1, hP2⟩ := hP
    rw [es] at hP1 hP2 hB
    have g0 := mlmarkIntS k x.2.1 (m + 1) (by omega) (by omega) (by omega) (by omega)
    have g1 := mlmarkIntS k x.2.2 ((mkT (.l 3 (.i .i64)) x.2.1 (m + 1)).2) (by omega) (by omega) (by omega) (by omega)
    have w0 : IntKind.i64.wrap (m + 1) = m + 1 := wrap_id (by omega) (by omega)
    show BlmarkTableS_0 k _ _ _ _ = _
    simp only [BlmarkTableS_0, hd, if_true, if_pos hn, if_pos hlt, List.length_set, hin, ix_some hx, ix_set hi, List.set_set, hw, e1, w0, g0, g1, Option.bind_some]
    try rfl
  · show BlmarkTableS_0 k _ _ _ _ = _
    simp only [BlmarkTableS_0]
    rw [if_neg (by simp)]
  · have := mkE_le sTable x m rfl
    have hl : Sh.leafs sTable ≤ 16 := by decide
    omega
  · have := sumL_le (f := szT sTable) hy
    constructor <;> omega
theorem mlmarkPieceS (k : Nat) (x : List TLPiece) (m : Int) (h0 : 0 ≤ m) (hB : m + 16 * szT (.l 219 sPiece) x ≤ 1152921504606846976) (hz : szT (.l 219 sPiece) x ≤ 140737488351232) (hk : szT (.l 219 sPiece) x + 3 < k) : FlmarkPieceS k x m = (some ((mkT (.l 219 sPiece) x m).2, (mkT (.l 219 sPiece) x m).1) : Option (Int × List TLPiece)) := by
  obtain ⟨k, rfl⟩ : ∃ q, k = q + 1 := ⟨k - 1, by omega⟩
  have hz' : x.length + sumL (szT sPiece) x ≤ 140737488351232 := hz
  have hk' : x.length + sumL (szT sPiece) x + 3 < k + 1 := hk
  have hB' : m + 16 * ((x.length + sumL (szT sPiece) x : Nat) : Int) ≤ 1152921504606846976 := hB
  refine (elmarkPieceS k x m).trans ?_
  refine (mark_loop0 (α := I2 × (List I2) × List (Int × (List Int) × List Int)) (L := LlmarkPieceS_0 k _ _) (X := fun v => some (v.1, v.2.2)) (fun a i m => (m, i, a)) (f := mkE sPiece) (s := szT sPiece) (B := 1152921504606846976) (P := fun y => szT sPiece y + 2 < k ∧ szT sPiece y ≤ 140737488351232) (fun n a i m x hi hx hP h0 hB hn hlt hin hw => ?_) (fun n a m => ?_) (fun x m => ?_) (fun y hy => ?_) (by omega) (by omega) h0 hB')
  · have hd : decide ((i : Int) < (a.length : Int)) = true := decide_eq_true hlt
    have e1 : mkE sPiece x m = (((m, (m + 1)), (mkT (.l 283 sI2) x.2.1 ((m + 1) + 1)).1, (mkT (.l 211 sTable) x.2.2 (mkT (.l 283 sI2) x.2.1 ((m + 1) + 1)).2).1), (mkT (.l 211 sTable) x.2.2 (mkT (.l 283 sI2) x.2.1 ((m + 1) + 1)).2).2) := rfl
    have es : szT sPiece x = ((0 + 0) + (szT (.l 283 sI2) x.2.1 + szT (.l 211 sTable) x.2.2)) := rfl
    have b0 := mkT_le (.l 283 sI2) x.2.1 ((m + 1) + 1) rfl
    have b1 := mkT_le (.l 211 sTable) x.2.2 ((mkT (.l 283 sI2) x.2.1 ((m + 1) + 1)).2) rfl
    obtain ⟨hP1, hP2⟩ := hP
    rw [es] at hP1 hP2 hB
    have g0 := mlmarkLinkS k x.2.1 ((m + 1) + 1) (by omega) (by omega) (by omega) (by omega)
    have g1 := mlmarkTableS k x.2.2 ((mkT (.l 283 sI2) x.2.1 ((m + 1) + 1)).2) (by omega) (by omega) (by omega) (by omega)
    have w0 : IntKind.i64.wrap (m + 1) = m + 1 := wrap_id (by omega) (by omega)
    have w1 : IntKind.i64.wrap ((m + 1) + 1) = (m + 1) + 1 := wrap_id (by omega) (by omega)
    show BlmarkPieceS_0 k _ _ _ _ = _
    simp only [BlmarkPieceS_0, hd, if_true, if_pos hn, if_pos hlt, List.length_set, hin, ix_some hx, ix_set hi, List.set_set, hw, e1, w0, w1, g0, g1, Option.bind_some]
    try rfl
  · show BlmarkPieceS_0 k _ _ _ _ = _
    simp only [BlmarkPieceS_0]
    rw [if_neg (by simp)]
  · have := mkE_le sPiece x m rfl
    have hl : Sh.leafs sPiece ≤ 16 := by decide
    omega
  · have := sumL_le (f := szT sPiece) hy
    constructor <;> omega
theorem mlmarkProgram (k : Nat) (x : TLProgram) (m : Int) (h0 : 0 ≤ m) (hB : m + 16 * szT sProgram x ≤ 1152921504606846976) (hz : szT sProgram x ≤ 140737488351232) (hk : szT sProgram x + 4 < k) : FlmarkProgram k x m = (some ((mkT sProgram x m).2, ((mkT sProgram x m).1).2.2.2) : Option (Int × List TLPiece)) := by
  obtain ⟨k, rfl⟩ : ∃ q, k = q + 1 := ⟨k - 1, by omega⟩
  have es : szT sProgram x = (0 + (0 + (0 + szT (.l 219 sPiece) x.2.2.2))) := rfl
  rw [es] at hB hz hk
  have b0 := mkT_le (.l 219 sPiece) x.2.2.2 m rfl
  have g0 := mlmarkPieceS k x.2.2.2 m (by omega) (by omega) (by omega) (by omega)
  rw [elmarkProgram]
  simp only [g0, Option.bind_some]
  rfl
theorem mlmarkQueueS (k : Nat) (x : List (List I6)) (m : Int) (h0 : 0 ≤ m) (hB : m + 16 * szT (.l 136 sQueue) x ≤ 1152921504606846976) (hz : szT (.l 136 sQueue) x ≤ 140737488351232) (hk : szT (.l 136 sQueue) x + 2 < k) : FlmarkQueueS k x m = (some ((mkT (.l 136 sQueue) x m).2, (mkT (.l 136 sQueue) x m).1) : Option (Int × List (List I6))) := by
  obtain ⟨k, rfl⟩ : ∃ q, k = q + 1 := ⟨k - 1, by omega⟩
  have hz' : x.length + sumL (szT sQueue) x ≤ 140737488351232 := hz
  have hk' : x.length + sumL (szT sQueue) x + 2 < k + 1 := hk
  have hB' : m + 16 * ((x.length + sumL (szT sQueue) x : Nat) : Int) ≤ 1152921504606846976 := hB
  refine (elmarkQueueS k x m).trans ?_
  refine (mark_loop0 (α := List I6) (L := LlmarkQueueS_0 k _ _) (X := fun v => some (v.1, v.2.2)) (fun a i m => (m, i, a)) (f := mkE sQueue) (s := szT sQueue) (B := 1152921504606846976) (P := fun y => szT sQueue y + 1 < k ∧ szT sQueue y ≤ 140737488351232) (fun n a i m x hi hx hP h0 hB hn hlt hin hw => ?_) (fun n a m => ?_) (fun x m => ?_) (fun y hy => ?_) (by omega) (by omega) h0 hB')
  · have hd : decide ((i : Int) < (a.length : Int)) = true := decide_eq_true hlt
    have e1 : mkE sQueue x m = ((mkT (.l 133 sI6) x m).1, (mkT (.l 133 sI6) x m).2) := rfl
    have es : szT sQueue x = szT (.l 133 sI6) x := rfl
    have b0 := mkT_le (.l 133 sI6) x m rfl
    obtain ⟨hP1, hP2⟩ := hP
    rw [es] at hP1 hP2 hB
    have g0 := mlmarkPacketS k x m (by omega) (by omega) (by omega) (by omega)
    show BlmarkQueueS_0 k _ _ _ _ = _
    simp only [BlmarkQueueS_0, hd, if_true, if_pos hn, if_pos hlt, List.length_set, hin, ix_some hx, ix_set hi, List.set_set, hw, e1, g0, Option.bind_some]
    try rfl
  · show BlmarkQueueS_0 k _ _ _ _ = _
    simp only [BlmarkQueueS_0]
    rw [if_neg (by simp)]
  · have := mkE_le sQueue x m rfl
    have hl : Sh.leafs sQueue ≤ 16 := by decide
    omega
  · have := sumL_le (f := szT sQueue) hy
    constructor <;> omega
theorem mlmarkSentS (k : Nat) (x : List I4) (m : Int) (h0 : 0 ≤ m) (hB : m + 16 * szT (.l 84 sI4) x ≤ 1152921504606846976) (hz : szT (.l 84 sI4) x ≤ 140737488351232) (hk : szT (.l 84 sI4) x + 1 < k) : FlmarkSentS k x m = (some ((mkT (.l 84 sI4) x m).2, (mkT (.l 84 sI4) x m).1) : Option (Int × List I4)) := by
  obtain ⟨k, rfl⟩ : ∃ q, k = q + 1 := ⟨k - 1, by omega⟩
  have hz' : x.length + sumL (szT sI4) x ≤ 140737488351232 := hz
  have hk' : x.length + sumL (szT sI4) x + 1 < k + 1 := hk
  have hB' : m + 16 * ((x.length + sumL (szT sI4) x : Nat) : Int) ≤ 1152921504606846976 := hB
  refine (elmarkSentS k x m).trans ?_
  refine (mark_loop0 (α := Int × Int × Int × Int) (L := LlmarkSentS_0 k _ _) (X := fun v => some (v.1, v.2.2)) (fun a i m => (m, i, a)) (f := mkE sI4) (s := szT sI4) (B := 1152921504606846976) (P := fun y => szT sI4 y + 0 < k ∧ szT sI4 y ≤ 140737488351232) (fun n a i m x hi hx hP h0 hB hn hlt hin hw => ?_) (fun n a m => ?_) (fun x m => ?_) (fun y hy => ?_) (by omega) (by omega) h0 hB')
  · have hd : decide ((i : Int) < (a.length : Int)) = true := decide_eq_true hlt
    have e1 : mkE sI4 x m = ((m, (m + 1), ((m + 1) + 1), (((m + 1) + 1) + 1)), ((((m + 1) + 1) + 1) + 1)) := rfl
    have es : szT sI4 x = 0 := szT_flat _ _ rfl
    rw [es] at hB
    have w0 : IntKind.i64.wrap (m + 1) = m + 1 := wrap_id (by omega) (by omega)
    have w1 : IntKind.i64.wrap ((m + 1) + 1) = (m + 1) + 1 := wrap_id (by omega) (by omega)
    have w2 : IntKind.i64.wrap (((m + 1) + 1) + 1) = ((m + 1) + 1) + 1 := wrap_id (by omega) (by omega)
    have w3 : IntKind.i64.wrap ((((m + 1) + 1) + 1) + 1) = (((m + 1) + 1) + 1) + 1 := wrap_id (by omega) (by omega)
    show BlmarkSentS_0 k _ _ _ _ = _
    simp only [BlmarkSentS_0, hd, if_true, if_pos hn, if_pos hlt, List.length_set, hin, ix_some hx, ix_set hi, List.set_set, hw, e1, w0, w1, w2, w3, Option.bind_some]
  · show BlmarkSentS_0 k _ _ _ _ = _
    simp only [BlmarkSentS_0]
    rw [if_neg (by simp)]
  · have := mkE_le sI4 x m rfl
    have hl : Sh.leafs sI4 ≤ 16 := by decide
    omega
  · have := sumL_le (f := szT sI4) hy
    constructor <;> omega
theorem mlmarkSatS (k : Nat) (x : List I4) (m : Int) (h0 : 0 ≤ m) (hB : m + 16 * szT (.l 236 sI4) x ≤ 1152921504606846976) (hz : szT (.l 236 sI4) x ≤ 140737488351232) (hk : szT (.l 236 sI4) x + 1 < k) : FlmarkSatS k x m = (some ((mkT (.l 236 sI4) x m).2, (mkT (.l 236 sI4) x m).1) : Option (Int × List I4)) := by
  obtain ⟨k, rfl⟩ : ∃ q, k = q + 1 := ⟨k - 1, by omega⟩
  have hz' : x.length + sumL (szT sI4) x ≤ 140737488351232 := hz
  have hk' : x.length + sumL (szT sI4) x + 1 < k + 1 := hk
  have hB' : m + 16 * ((x.length + sumL (szT sI4) x : Nat) : Int) ≤ 1152921504606846976 := hB
  refine (elmarkSatS k x m).trans ?_
  refine (mark_loop0 (α := Int × Int × Int × Int) (L := LlmarkSatS_0 k _ _) (X := fun v => some (v.1, v.2.2)) (fun a i m => (m, i, a)) (f := mkE sI4) (s := szT sI4) (B := 1152921504606846976) (P := fun y => szT sI4 y + 0 < k ∧ szT sI4 y ≤ 140737488351232) (fun n a i m x hi hx hP h0 hB hn hlt hin hw => ?_) (fun n a m => ?_) (fun x m => ?_) (fun y hy => ?_) (by omega) (by omega) h0 hB')
  · have hd : decide ((i : Int) < (a.length : Int)) = true := decide_eq_true hlt
    have e1 : mkE sI4 x m = ((m, (m + 1), ((m + 1) + 1), (((m + 1) + 1) + 1)), ((((m + 1) + 1) + 1) + 1)) := rfl
    have es : szT sI4 x = 0 := szT_flat _ _ rfl
    rw [es] at hB
    have w0 : IntKind.i64.wrap (m + 1) = m + 1 := wrap_id (by omega) (by omega)
    have w1 : IntKind.i64.wrap ((m + 1) + 1) = (m + 1) + 1 := wrap_id (by omega) (by omega)
    have w2 : IntKind.i64.wrap (((m + 1) + 1) + 1) = ((m + 1) + 1) + 1 := wrap_id (by omega) (by omega)
    have w3 : IntKind.i64.wrap ((((m + 1) + 1) + 1) + 1) = (((m + 1) + 1) + 1) + 1 := wrap_id (by omega) (by omega)
    show BlmarkSatS_0 k _ _ _ _ = _
    simp only [BlmarkSatS_0, hd, if_true, if_pos hn, if_pos hlt, List.length_set, hin, ix_some hx, ix_set hi, List.set_set, hw, e1, w0, w1, w2, w3, Option.bind_some]
  · show BlmarkSatS_0 k _ _ _ _ = _
    simp only [BlmarkSatS_0]
    rw [if_neg (by simp)]
  · have := mkE_le sI4 x m rfl
    have hl : Sh.leafs sI4 ≤ 16 := by decide
    omega
  · have := sumL_le (f := szT sI4) hy
    constructor <;> omega
theorem mlmarkSiteS (k : Nat) (x : List I3) (m : Int) (h0 : 0 ≤ m) (hB : m + 16 * szT (.l 240 sI3) x ≤ 1152921504606846976) (hz : szT (.l 240 sI3) x ≤ 140737488351232) (hk : szT (.l 240 sI3) x + 1 < k) : FlmarkSiteS k x m = (some ((mkT (.l 240 sI3) x m).2, (mkT (.l 240 sI3) x m).1) : Option (Int × List I3)) := by
  obtain ⟨k, rfl⟩ : ∃ q, k = q + 1 := ⟨k - 1, by omega⟩
  have hz' : x.length + sumL (szT sI3) x ≤ 140737488351232 := hz
  have hk' : x.length + sumL (szT sI3) x + 1 < k + 1 := hk
  have hB' : m + 16 * ((x.length + sumL (szT sI3) x : Nat) : Int) ≤ 1152921504606846976 := hB
  refine (elmarkSiteS k x m).trans ?_
  refine (mark_loop0 (α := Int × Int × Int) (L := LlmarkSiteS_0 k _ _) (X := fun v => some (v.1, v.2.2)) (fun a i m => (m, i, a)) (f := mkE sI3) (s := szT sI3) (B := 1152921504606846976) (P := fun y => szT sI3 y + 0 < k ∧ szT sI3 y ≤ 140737488351232) (fun n a i m x hi hx hP h0 hB hn hlt hin hw => ?_) (fun n a m => ?_) (fun x m => ?_) (fun y hy => ?_) (by omega) (by omega) h0 hB')
  · have hd : decide ((i : Int) < (a.length : Int)) = true := decide_eq_true hlt
    have e1 : mkE sI3 x m = ((m, (m + 1), ((m + 1) + 1)), (((m + 1) + 1) + 1)) := rfl
    have es : szT sI3 x = 0 := szT_flat _ _ rfl
    rw [es] at hB
    have w0 : IntKind.i64.wrap (m + 1) = m + 1 := wrap_id (by omega) (by omega)
    have w1 : IntKind.i64.wrap ((m + 1) + 1) = (m + 1) + 1 := wrap_id (by omega) (by omega)
    have w2 : IntKind.i64.wrap (((m + 1) + 1) + 1) = ((m + 1) + 1) + 1 := wrap_id (by omega) (by omega)
    show BlmarkSiteS_0 k _ _ _ _ = _
    simp only [BlmarkSiteS_0, hd, if_true, if_pos hn, if_pos hlt, List.length_set, hin, ix_some hx, ix_set hi, List.set_set, hw, e1, w0, w1, w2, Option.bind_some]
  · show BlmarkSiteS_0 k _ _ _ _ = _
    simp only [BlmarkSiteS_0]
    rw [if_neg (by simp)]
  · have := mkE_le sI3 x m rfl
    have hl : Sh.leafs sI3 ≤ 16 := by decide
    omega
  · have := sumL_le (f := szT sI3) hy
    constructor <;> omega
theorem mlmarkZoneS (k : Nat) (x : List I3) (m : Int) (h0 : 0 ≤ m) (hB : m + 16 * szT (.l 246 sZone) x ≤ 1152921504606846976) (hz : szT (.l 246 sZone) x ≤ 140737488351232) (hk : szT (.l 246 sZone) x + 1 < k) : FlmarkZoneS k x m = (some ((mkT (.l 246 sZone) x m).2, (mkT (.l 246 sZone) x m).1) : Option (Int × List I3)) := by
  obtain ⟨k, rfl⟩ : ∃ q, k = q + 1 := ⟨k - 1, by omega⟩
  have hz' : x.length + sumL (szT sZone) x ≤ 140737488351232 := hz
  have hk' : x.length + sumL (szT sZone) x + 1 < k + 1 := hk
  have hB' : m + 16 * ((x.length + sumL (szT sZone) x : Nat) : Int) ≤ 1152921504606846976 := hB
  refine (elmarkZoneS k x m).trans ?_
  refine (mark_loop0 (α := Int × Int × Int) (L := LlmarkZoneS_0 k _ _) (X := fun v => some (v.1, v.2.2)) (fun a i m => (m, i, a)) (f := mkE sZone) (s := szT sZone) (B := 1152921504606846976) (P := fun y => szT sZone y + 0 < k ∧ szT sZone y ≤ 140737488351232) (fun n a i m x hi hx hP h0 hB hn hlt hin hw => ?_) (fun n a m => ?_) (fun x m => ?_) (fun y hy => ?_) (by omega) (by omega) h0 hB')
  · have hd : decide ((i : Int) < (a.length : Int)) = true := decide_eq_true hlt
    have e1 : mkE sZone x m = ((m, ((m + 1), ((m + 1) + 1))), (((m + 1) + 1) + 1)) := rfl
    have es : szT sZone x = 0 := szT_flat _ _ rfl
    rw [es] at hB
    have w0 : IntKind.i64.wrap (m + 1) = m + 1 := wrap_id (by omega) (by omega)
    have w1 : IntKind.i64.wrap ((m + 1) + 1) = (m + 1) + 1 := wrap_id (by omega) (by omega)
    have w2 : IntKind.i64.wrap (((m + 1) + 1) + 1) = ((m + 1) + 1) + 1 := wrap_id (by omega) (by omega)
    show BlmarkZoneS_0 k _ _ _ _ = _
    simp only [BlmarkZoneS_0, hd, if_true, if_pos hn, if_pos hlt, List.length_set, hin, ix_some hx, ix_set hi, List.set_set, hw, e1, w0, w1, w2, Option.bind_some]
  · show BlmarkZoneS_0 k _ _ _ _ = _
    simp only [BlmarkZoneS_0]
    rw [if_neg (by simp)]
  · have := mkE_le sZone x m rfl
    have hl : Sh.leafs sZone ≤ 16 := by decide
    omega
  · have := sumL_le (f := szT sZone) hy
    constructor <;> omega
theorem mlmarkSky (k : Nat) (x : TLSky) (m : Int) (h0 : 0 ≤ m) (hB : m + 16 * szT sSky x ≤ 1152921504606846976) (hz : szT sSky x ≤ 140737488351232) (hk : szT sSky x + 2 < k) : FlmarkSky k x m = (some ((mkT sSky x m).2, ((mkT sSky x m).1).2.1, ((mkT sSky x m).1).2.2.1, ((mkT sSky x m).1).2.2.2.2.2.2.2.2.1) : Option (Int × (List I4) × (List I3) × List I3)) := by
  obtain ⟨k, rfl⟩ : ∃ q, k = q + 1 := ⟨k - 1, by omega⟩
  have es : szT sSky x = (0 + (szT (.l 236 sI4) x.2.1 + (szT (.l 240 sI3) x.2.2.1 + (0 + (0 + (0 + (0 + (0 + (szT (.l 246 sZone) x.2.2.2.2.2.2.2.2.1 + 0))))))))) := rfl
  rw [es] at hB hz hk
  have b0 := mkT_le (.l 236 sI4) x.2.1 m rfl
  have b1 := mkT_le (.l 240 sI3) x.2.2.1 ((mkT (.l 236 sI4) x.2.1 m).2) rfl
  have b2 := mkT_le (.l 246 sZone) x.2.2.2.2.2.2.2.2.1 ((mkT (.l 240 sI3) x.2.2.1 (mkT (.l 236 sI4) x.2.1 m).2).2) rfl
  have g0 := mlmarkSatS k x.2.1 m (by omega) (by omega) (by omega) (by omega)
  have g1 := mlmarkSiteS k x.2.2.1 ((mkT (.l 236 sI4) x.2.1 m).2) (by omega) (by omega) (by omega) (by omega)
  have g2 := mlmarkZoneS k x.2.2.2.2.2.2.2.2.1 ((mkT (.l 240 sI3) x.2.2.1 (mkT (.l 236 sI4) x.2.1 m).2).2) (by omega) (by omega) (by omega) (by omega)
  rw [elmarkSky]
  simp only [g0, g1, g2, Option.bind_some]
  rfl
theorem mlmarkStreamS (k : Nat) (x : List (Int × Int × List Int)) (m : Int) (h0 : 0 ≤ m) (hB : m + 16 * szT (.l 145 sStream) x ≤ 1152921504606846976) (hz : szT (.l 145 sStream) x ≤ 140737488351232) (hk : szT (.l 145 sStream) x + 2 < k) : FlmarkStreamS k x m = (some ((mkT (.l 145 sStream) x m).2, (mkT (.l 145 sStream) x m).1) : Option (Int × List (Int × Int × List Int))) := by
  obtain ⟨k, rfl⟩ : ∃ q, k = q + 1 := ⟨k - 1, by omega⟩
  have hz' : x.length + sumL (szT sStream) x ≤ 140737488351232 := hz
  have hk' : x.length + sumL (szT sStream) x + 2 < k + 1 := hk
  have hB' : m + 16 * ((x.length + sumL (szT sStream) x : Nat) : Int) ≤ 1152921504606846976 := hB
  refine (elmarkStreamS k x m).trans ?_
  refine (mark_loop0 (α := Int × Int × List Int) (L := LlmarkStreamS_0 k _ _) (X := fun v => some (v.1, v.2.2)) (fun a i m => (m, i, a)) (f := mkE sStream) (s := szT sStream) (B := 1152921504606846976) (P := fun y => szT sStream y + 1 < k ∧ szT sStream y ≤ 140737488351232) (fun n a i m x hi hx hP h0 hB hn hlt hin hw => ?_) (fun n a m => ?_) (fun x m => ?_) (fun y hy => ?_) (by omega) (by omega) h0 hB')
  · have hd : decide ((i : Int) < (a.length : Int)) = true := decide_eq_true hlt
    have e1 : mkE sStream x m = ((m, (m + 1), (mkT (.l 3 (.i .i64)) x.2.2 ((m + 1) + 1)).1), (mkT (.l 3 (.i .i64)) x.2.2 ((m + 1) + 1)).2) := rfl
    have es : szT sStream x = (0 + (0 + szT (.l 3 (.i .i64)) x.2.2)) := rfl
    have b0 := mkT_le (.l 3 (.i .i64)) x.2.2 ((m + 1) + 1) rfl
    obtain ⟨hP1, hP2⟩ := hP
    rw [es] at hP1 hP2 hB
    have g0 := mlmarkIntS k x.2.2 ((m + 1) + 1) (by omega) (by omega) (by omega) (by omega)
    have w0 : IntKind.i64.wrap (m + 1) = m + 1 := wrap_id (by omega) (by omega)
    have w1 : IntKind.i64.wrap ((m + 1) + 1) = (m + 1) + 1 := wrap_id (by omega) (by omega)
    show BlmarkStreamS_0 k _ _ _ _ = _
    simp only [BlmarkStreamS_0, hd, if_true, if_pos hn, if_pos hlt, List.length_set, hin, ix_some hx, ix_set hi, List.set_set, hw, e1, w0, w1, g0, Option.bind_some]
    try rfl
  · show BlmarkStreamS_0 k _ _ _ _ = _
    simp only [BlmarkStreamS_0]
    rw [if_neg (by simp)]
  · have := mkE_le sStream x m rfl
    have hl : Sh.leafs sStream ≤ 16 := by decide
    omega
  · have := sumL_le (f := szT sStream) hy
    constructor <;> omega
theorem mlmarkWorld (k : Nat) (x : TLWorld) (m : Int) (h0 : 0 ≤ m) (hB : m + 16 * szT sWorld x ≤ 1152921504606846976) (hz : szT sWorld x ≤ 140737488351232) (hk : szT sWorld x + 5 < k) : FlmarkWorld k x m = (some ((mkT sWorld x m).2, (((mkT sWorld x m).1).1).2.1, (((mkT sWorld x m).1).1).2.2.1, (((mkT sWorld x m).1).1).2.2.2.2.2.2.2.2.1, (((mkT sWorld x m).1).2.1).2.2.2, ((mkT sWorld x m).1).2.2.1, ((mkT sWorld x m).1).2.2.2.1, ((mkT sWorld x m).1).2.2.2.2.1, ((mkT sWorld x m).1).2.2.2.2.2.1, ((mkT sWorld x m).1).2.2.2.2.2.2.1, ((mkT sWorld x m).1).2.2.2.2.2.2.2.1, ((mkT sWorld x m).1).2.2.2.2.2.2.2.2.1, ((mkT sWorld x m).1).2.2.2.2.2.2.2.2.2.1, ((mkT sWorld x m).1).2.2.2.2.2.2.2.2.2.2.2.2.1, ((mkT sWorld x m).1).2.2.2.2.2.2.2.2.2.2.2.2.2) : Option (Int × (List I4) × (List I3) × (List I3) × (List TLPiece) × (List Int) × (List Int) × (List I6) × (List (List I6)) × (List I4) × (List Int) × (List (Int × Int × List Int)) × (List I4) × (List I6) × List I4)) := by
  obtain ⟨k, rfl⟩ : ∃ q, k = q + 1 := ⟨k - 1, by omega⟩
  have es : szT sWorld x = (szT sSky x.1 + (szT sProgram x.2.1 + (szT sLaw x.2.2.1 + (szT (.l 3 (.i .i64)) x.2.2.2.1 + (szT (.l 176 sI6) x.2.2.2.2.1 + (szT (.l 136 sQueue) x.2.2.2.2.2.1 + (szT (.l 76 sI4) x.2.2.2.2.2.2.1 + (szT (.l 3 (.i .i64)) x.2.2.2.2.2.2.2.1 + (szT (.l 145 sStream) x.2.2.2.2.2.2.2.2.1 + (szT (.l 66 sI4) x.2.2.2.2.2.2.2.2.2.1 + (0 + (0 + (szT (.l 133 sI6) x.2.2.2.2.2.2.2.2.2.2.2.2.1 + szT (.l 84 sI4) x.2.2.2.2.2.2.2.2.2.2.2.2.2))))))))))))) := rfl
  rw [es] at hB hz hk
  have b0 := mkT_le sSky x.1 m rfl
  have b1 := mkT_le sProgram x.2.1 ((mkT sSky x.1 m).2) rfl
  have b2 := mkT_le sLaw x.2.2.1 ((mkT sProgram x.2.1 (mkT sSky x.1 m).2).2) rfl
  have b3 := mkT_le (.l 3 (.i .i64)) x.2.2.2.1 ((mkT sLaw x.2.2.1 (mkT sProgram x.2.1 (mkT sSky x.1 m).2).2).2) rfl
  have b4 := mkT_le (.l 176 sI6) x.2.2.2.2.1 ((mkT (.l 3 (.i .i64)) x.2.2.2.1 (mkT sLaw x.2.2.1 (mkT sProgram x.2.1 (mkT sSky x.1 m).2).2).2).2) rfl
  have b5 := mkT_le (.l 136 sQueue) x.2.2.2.2.2.1 ((mkT (.l 176 sI6) x.2.2.2.2.1 (mkT (.l 3 (.i .i64)) x.2.2.2.1 (mkT sLaw x.2.2.1 (mkT sProgram x.2.1 (mkT sSky x.1 m).2).2).2).2).2) rfl
  have b6 := mkT_le (.l 76 sI4) x.2.2.2.2.2.2.1 ((mkT (.l 136 sQueue) x.2.2.2.2.2.1 (mkT (.l 176 sI6) x.2.2.2.2.1 (mkT (.l 3 (.i .i64)) x.2.2.2.1 (mkT sLaw x.2.2.1 (mkT sProgram x.2.1 (mkT sSky x.1 m).2).2).2).2).2).2) rfl
  have b7 := mkT_le (.l 3 (.i .i64)) x.2.2.2.2.2.2.2.1 ((mkT (.l 76 sI4) x.2.2.2.2.2.2.1 (mkT (.l 136 sQueue) x.2.2.2.2.2.1 (mkT (.l 176 sI6) x.2.2.2.2.1 (mkT (.l 3 (.i .i64)) x.2.2.2.1 (mkT sLaw x.2.2.1 (mkT sProgram x.2.1 (mkT sSky x.1 m).2).2).2).2).2).2).2) rfl
  have b8 := mkT_le (.l 145 sStream) x.2.2.2.2.2.2.2.2.1 ((mkT (.l 3 (.i .i64)) x.2.2.2.2.2.2.2.1 (mkT (.l 76 sI4) x.2.2.2.2.2.2.1 (mkT (.l 136 sQueue) x.2.2.2.2.2.1 (mkT (.l 176 sI6) x.2.2.2.2.1 (mkT (.l 3 (.i .i64)) x.2.2.2.1 (mkT sLaw x.2.2.1 (mkT sProgram x.2.1 (mkT sSky x.1 m).2).2).2).2).2).2).2).2) rfl
  have b9 := mkT_le (.l 66 sI4) x.2.2.2.2.2.2.2.2.2.1 ((mkT (.l 145 sStream) x.2.2.2.2.2.2.2.2.1 (mkT (.l 3 (.i .i64)) x.2.2.2.2.2.2.2.1 (mkT (.l 76 sI4) x.2.2.2.2.2.2.1 (mkT (.l 136 sQueue) x.2.2.2.2.2.1 (mkT (.l 176 sI6) x.2.2.2.2.1 (mkT (.l 3 (.i .i64)) x.2.2.2.1 (mkT sLaw x.2.2.1 (mkT sProgram x.2.1 (mkT sSky x.1 m).2).2).2).2).2).2).2).2).2) rfl
  have b10 := mkT_le (.l 133 sI6) x.2.2.2.2.2.2.2.2.2.2.2.2.1 ((mkT (.l 66 sI4) x.2.2.2.2.2.2.2.2.2.1 (mkT (.l 145 sStream) x.2.2.2.2.2.2.2.2.1 (mkT (.l 3 (.i .i64)) x.2.2.2.2.2.2.2.1 (mkT (.l 76 sI4) x.2.2.2.2.2.2.1 (mkT (.l 136 sQueue) x.2.2.2.2.2.1 (mkT (.l 176 sI6) x.2.2.2.2.1 (mkT (.l 3 (.i .i64)) x.2.2.2.1 (mkT sLaw x.2.2.1 (mkT sProgram x.2.1 (mkT sSky x.1 m).2).2).2).2).2).2).2).2).2).2) rfl
  have b11 := mkT_le (.l 84 sI4) x.2.2.2.2.2.2.2.2.2.2.2.2.2 ((mkT (.l 133 sI6) x.2.2.2.2.2.2.2.2.2.2.2.2.1 (mkT (.l 66 sI4) x.2.2.2.2.2.2.2.2.2.1 (mkT (.l 145 sStream) x.2.2.2.2.2.2.2.2.1 (mkT (.l 3 (.i .i64)) x.2.2.2.2.2.2.2.1 (mkT (.l 76 sI4) x.2.2.2.2.2.2.1 (mkT (.l 136 sQueue) x.2.2.2.2.2.1 (mkT (.l 176 sI6) x.2.2.2.2.1 (mkT (.l 3 (.i .i64)) x.2.2.2.1 (mkT sLaw x.2.2.1 (mkT sProgram x.2.1 (mkT sSky x.1 m).2).2).2).2).2).2).2).2).2).2).2) rfl
  have g0 := mlmarkSky k x.1 m (by omega) (by omega) (by omega) (by omega)
  have g1 := mlmarkProgram k x.2.1 ((mkT sSky x.1 m).2) (by omega) (by omega) (by omega) (by omega)
  have g2 := mlmarkLaw k x.2.2.1 ((mkT sProgram x.2.1 (mkT sSky x.1 m).2).2) (by omega) (by omega) (by omega) (by omega)
  have g3 := mlmarkIntS k x.2.2.2.1 ((mkT sLaw x.2.2.1 (mkT sProgram x.2.1 (mkT sSky x.1 m).2).2).2) (by omega) (by omega) (by omega) (by omega)
  have g4 := mlmarkBatteryS k x.2.2.2.2.1 ((mkT (.l 3 (.i .i64)) x.2.2.2.1 (mkT sLaw x.2.2.1 (mkT sProgram x.2.1 (mkT sSky x.1 m).2).2).2).2) (by omega) (by omega) (by omega) (by omega)
  have g5 := mlmarkQueueS k x.2.2.2.2.2.1 ((mkT (.l 176 sI6) x.2.2.2.2.1 (mkT (.l 3 (.i .i64)) x.2.2.2.1 (mkT sLaw x.2.2.1 (mkT sProgram x.2.1 (mkT sSky x.1 m).2).2).2).2).2) (by omega) (by omega) (by omega) (by omega)
  have g6 := mlmarkFlowS k x.2.2.2.2.2.2.1 ((mkT (.l 136 sQueue) x.2.2.2.2.2.1 (mkT (.l 176 sI6) x.2.2.2.2.1 (mkT (.l 3 (.i .i64)) x.2.2.2.1 (mkT sLaw x.2.2.1 (mkT sProgram x.2.1 (mkT sSky x.1 m).2).2).2).2).2).2) (by omega) (by omega) (by omega) (by omega)
  have g7 := mlmarkIntS k x.2.2.2.2.2.2.2.1 ((mkT (.l 76 sI4) x.2.2.2.2.2.2.1 (mkT (.l 136 sQueue) x.2.2.2.2.2.1 (mkT (.l 176 sI6) x.2.2.2.2.1 (mkT (.l 3 (.i .i64)) x.2.2.2.1 (mkT sLaw x.2.2.1 (mkT sProgram x.2.1 (mkT sSky x.1 m).2).2).2).2).2).2).2) (by omega) (by omega) (by omega) (by omega)
  have g8 := mlmarkStreamS k x.2.2.2.2.2.2.2.2.1 ((mkT (.l 3 (.i .i64)) x.2.2.2.2.2.2.2.1 (mkT (.l 76 sI4) x.2.2.2.2.2.2.1 (mkT (.l 136 sQueue) x.2.2.2.2.2.1 (mkT (.l 176 sI6) x.2.2.2.2.1 (mkT (.l 3 (.i .i64)) x.2.2.2.1 (mkT sLaw x.2.2.1 (mkT sProgram x.2.1 (mkT sSky x.1 m).2).2).2).2).2).2).2).2) (by omega) (by omega) (by omega) (by omega)
  have g9 := mlmarkFaultS k x.2.2.2.2.2.2.2.2.2.1 ((mkT (.l 145 sStream) x.2.2.2.2.2.2.2.2.1 (mkT (.l 3 (.i .i64)) x.2.2.2.2.2.2.2.1 (mkT (.l 76 sI4) x.2.2.2.2.2.2.1 (mkT (.l 136 sQueue) x.2.2.2.2.2.1 (mkT (.l 176 sI6) x.2.2.2.2.1 (mkT (.l 3 (.i .i64)) x.2.2.2.1 (mkT sLaw x.2.2.1 (mkT sProgram x.2.1 (mkT sSky x.1 m).2).2).2).2).2).2).2).2).2) (by omega) (by omega) (by omega) (by omega)
  have g10 := mlmarkPacketS k x.2.2.2.2.2.2.2.2.2.2.2.2.1 ((mkT (.l 66 sI4) x.2.2.2.2.2.2.2.2.2.1 (mkT (.l 145 sStream) x.2.2.2.2.2.2.2.2.1 (mkT (.l 3 (.i .i64)) x.2.2.2.2.2.2.2.1 (mkT (.l 76 sI4) x.2.2.2.2.2.2.1 (mkT (.l 136 sQueue) x.2.2.2.2.2.1 (mkT (.l 176 sI6) x.2.2.2.2.1 (mkT (.l 3 (.i .i64)) x.2.2.2.1 (mkT sLaw x.2.2.1 (mkT sProgram x.2.1 (mkT sSky x.1 m).2).2).2).2).2).2).2).2).2).2) (by omega) (by omega) (by omega) (by omega)
  have g11 := mlmarkSentS k x.2.2.2.2.2.2.2.2.2.2.2.2.2 ((mkT (.l 133 sI6) x.2.2.2.2.2.2.2.2.2.2.2.2.1 (mkT (.l 66 sI4) x.2.2.2.2.2.2.2.2.2.1 (mkT (.l 145 sStream) x.2.2.2.2.2.2.2.2.1 (mkT (.l 3 (.i .i64)) x.2.2.2.2.2.2.2.1 (mkT (.l 76 sI4) x.2.2.2.2.2.2.1 (mkT (.l 136 sQueue) x.2.2.2.2.2.1 (mkT (.l 176 sI6) x.2.2.2.2.1 (mkT (.l 3 (.i .i64)) x.2.2.2.1 (mkT sLaw x.2.2.1 (mkT sProgram x.2.1 (mkT sSky x.1 m).2).2).2).2).2).2).2).2).2).2).2) (by omega) (by omega) (by omega) (by omega)
  rw [elmarkWorld]
  simp only [g0, g1, g2, g3, g4, g5, g6, g7, g8, g9, g10, g11, Option.bind_some]
  rfl
theorem zlszBatteryS (k : Nat) (x : List I6) (left : Int) (hr : rowsLe 140737488351232 (.l 178 sI6) x) (hk : szT (.l 178 sI6) x + 1 < k) (h0 : 0 ≤ left) (h1 : left ≤ 1048576) : FlszBatteryS k x left = some (szR (szT (.l 178 sI6) x) left) := by
  obtain ⟨k, rfl⟩ : ∃ q, k = q + 1 := ⟨k - 1, by omega⟩
  have hl : x.length ≤ 140737488351232 := (rowsLe_row hr).1
  have hz : szT (.l 178 sI6) x = x.length := szT_row (e := 178) (sh := sI6) rfl x
  exact (elszBatteryS k x left).trans ((sz_leaf hl h0 h1).trans (congrArg (fun n => some (szR n left)) hz.symm))
theorem zlszFaultS (k : Nat) (x : List I4) (left : Int) (hr : rowsLe 140737488351232 (.l 43 sI4) x) (hk : szT (.l 43 sI4) x + 1 < k) (h0 : 0 ≤ left) (h1 : left ≤ 1048576) : FlszFaultS k x left = some (szR (szT (.l 43 sI4) x) left) := by
  obtain ⟨k, rfl⟩ : ∃ q, k = q + 1 := ⟨k - 1, by omega⟩
  have hl : x.length ≤ 140737488351232 := (rowsLe_row hr).1
  have hz : szT (.l 43 sI4) x = x.length := szT_row (e := 43) (sh := sI4) rfl x
  exact (elszFaultS k x left).trans ((sz_leaf hl h0 h1).trans (congrArg (fun n => some (szR n left)) hz.symm))
theorem zlszFlowS (k : Nat) (x : List I4) (left : Int) (hr : rowsLe 140737488351232 (.l 74 sI4) x) (hk : szT (.l 74 sI4) x + 1 < k) (h0 : 0 ≤ left) (h1 : left ≤ 1048576) : FlszFlowS k x left = some (szR (szT (.l 74 sI4) x) left) := by
  obtain ⟨k, rfl⟩ : ∃ q, k = q + 1 := ⟨k - 1, by omega⟩
  have hl : x.length ≤ 140737488351232 := (rowsLe_row hr).1
  have hz : szT (.l 74 sI4) x = x.length := szT_row (e := 74) (sh := sI4) rfl x
  exact (elszFlowS k x left).trans ((sz_leaf hl h0 h1).trans (congrArg (fun n => some (szR n left)) hz.symm))
theorem zlszIntS (k : Nat) (x : List Int) (left : Int) (hr : rowsLe 140737488351232 (.l 3 (.i .i64)) x) (hk : szT (.l 3 (.i .i64)) x + 1 < k) (h0 : 0 ≤ left) (h1 : left ≤ 1048576) : FlszIntS k x left = some (szR (szT (.l 3 (.i .i64)) x) left) := by
  obtain ⟨k, rfl⟩ : ∃ q, k = q + 1 := ⟨k - 1, by omega⟩
  have hl : x.length ≤ 140737488351232 := (rowsLe_row hr).1
  have hz : szT (.l 3 (.i .i64)) x = x.length := szT_row (e := 3) (sh := (.i .i64)) rfl x
  exact (elszIntS k x left).trans ((sz_leaf hl h0 h1).trans (congrArg (fun n => some (szR n left)) hz.symm))
theorem zlszLaw (k : Nat) (x : List Int) (left : Int) (hr : rowsLe 140737488351232 sLaw x) (hk : szT sLaw x + 2 < k) (h0 : 0 ≤ left) (h1 : left ≤ 1048576) : FlszLaw k x left = some (szR (szT sLaw x) left) := by
  obtain ⟨k, rfl⟩ : ∃ q, k = q + 1 := ⟨k - 1, by omega⟩
  have hk' : szT (.l 3 (.i .i64)) x + 2 < k + 1 := hk
  have r0 : rowsLe 140737488351232 (.l 3 (.i .i64)) x := hr
  have ht : szT sLaw x = szT (.l 3 (.i .i64)) x + 0 := by
    show szT (.l 3 (.i .i64)) x = _
    omega
  rw [elszLaw, ht]
  exact sz_step (zlszIntS k _ _ r0 (by omega) h0 h1) h0 h1 fun p1 q1 w1 => szR_zero q1
theorem zlszPacketS (k : Nat) (x : List I6) (left : Int) (hr : rowsLe 140737488351232 (.l 182 sI6) x) (hk : szT (.l 182 sI6) x + 1 < k) (h0 : 0 ≤ left) (h1 : left ≤ 1048576) : FlszPacketS k x left = some (szR (szT (.l 182 sI6) x) left) := by
  obtain ⟨k, rfl⟩ : ∃ q, k = q + 1 := ⟨k - 1, by omega⟩
  have hl : x.length ≤ 140737488351232 := (rowsLe_row hr).1
  have hz : szT (.l 182 sI6) x = x.length := szT_row (e := 182) (sh := sI6) rfl x
  exact (elszPacketS k x left).trans ((sz_leaf hl h0 h1).trans (congrArg (fun n => some (szR n left)) hz.symm))
theorem zlszLinkS (k : Nat) (x : List I2) (left : Int) (hr : rowsLe 140737488351232 (.l 300 sI2) x) (hk : szT (.l 300 sI2) x + 1 < k) (h0 : 0 ≤ left) (h1 : left ≤ 1048576) : FlszLinkS k x left = some (szR (szT (.l 300 sI2) x) left) := by
  obtain ⟨k, rfl⟩ : ∃ q, k = q + 1 := ⟨k - 1, by omega⟩
  have hl : x.length ≤ 140737488351232 := (rowsLe_row hr).1
  have hz : szT (.l 300 sI2) x = x.length := szT_row (e := 300) (sh := sI2) rfl x
  exact (elszLinkS k x left).trans ((sz_leaf hl h0 h1).trans (congrArg (fun n => some (szR n left)) hz.symm))
theorem zlszTable (k : Nat) (x : Int × (List Int) × List Int) (left : Int) (hr : rowsLe 140737488351232 sTable x) (hk : szT sTable x + 2 < k) (h0 : 0 ≤ left) (h1 : left ≤ 1048576) : FlszTable k x left = some (szR (szT sTable x) left) := by
  obtain ⟨k, rfl⟩ : ∃ q, k = q + 1 := ⟨k - 1, by omega⟩
  have hk' : (szT (.i .i64) x.1 + (szT (.l 3 (.i .i64)) x.2.1 + szT (.l 3 (.i .i64)) x.2.2)) + 2 < k + 1 := hk
  obtain ⟨r0, r1, r2⟩ : rowsLe 140737488351232 (.i .i64) x.1 ∧ rowsLe 140737488351232 (.l 3 (.i .i64)) x.2.1 ∧ rowsLe 140737488351232 (.l 3 (.i .i64)) x.2.2 := hr
  have f0 : szT (.i .i64) x.1 = 0 := szT_flat _ _ rfl
  have ht : szT sTable x = szT (.l 3 (.i .i64)) x.2.1 + (szT (.l 3 (.i .i64)) x.2.2 + 0) := by
    show (szT (.i .i64) x.1 + (szT (.l 3 (.i .i64)) x.2.1 + szT (.l 3 (.i .i64)) x.2.2)) = _
    omega
  rw [elszTable, ht]
  exact sz_step (zlszIntS k _ _ r1 (by omega) h0 h1) h0 h1 fun p1 q1 w1 => sz_step (zlszIntS k _ _ r2 (by omega) q1 w1) q1 w1 fun p2 q2 w2 => szR_zero q2
theorem zlszTableS (k : Nat) (x : List (Int × (List Int) × List Int)) (left : Int) (hr : rowsLe 140737488351232 (.l 298 sTable) x) (hk : szT (.l 298 sTable) x + 3 < k) (h0 : 0 ≤ left) (h1 : left ≤ 1048576) : FlszTableS k x left = some (szR (szT (.l 298 sTable) x) left) := by
  obtain ⟨k, rfl⟩ : ∃ q, k = q + 1 := ⟨k - 1, by omega⟩
  obtain ⟨hl, hr⟩ : x.length ≤ 140737488351232 ∧ ∀ y ∈ x, rowsLe 140737488351232 sTable y := rowsLe_row hr
  have hk' : x.length + sumL (szT sTable) x + 3 < k + 1 := hk
  have hw : 0 ≤ left - (x.length : Int) → IntKind.i64.wrap (left - (x.length : Int)) = left - x.length := fun _ => wrap_id (by omega) (by omega)
  refine (elszTableS k x left).trans (sz_rows (α := Int × (List Int) × List Int) (s := szT sTable) hl h0 h1 fun hp => ?_)
  rw [hw hp]
  have := szS_loop2 (L := LlszTableS_0 k _ _ x) (f := fun y p => FlszTable k y p) (fun _ _ => rfl) (neg := some (-1)) (fin := fun p => some p) (fun _ _ _ => rfl) (fun _ => rfl) (s := szT sTable) (a := x) (fun y hy p q0 q1 => zlszTable k y p (hr y hy) (by have := sumL_le (f := szT sTable) hy; omega) q0 q1) hl x.length k 0 (left - x.length) (by omega) (by omega) (by omega) (by omega)
  exact this
theorem zlszPiece (k : Nat) (x : TLPiece) (left : Int) (hr : rowsLe 140737488351232 sLPiece x) (hk : szT sLPiece x + 4 < k) (h0 : 0 ≤ left) (h1 : left ≤ 1048576) : FlszPiece k x left = some (szR (szT sLPiece x) left) := by
  obtain ⟨k, rfl⟩ : ∃ q, k = q + 1 := ⟨k - 1, by omega⟩
  have hk' : (szT sI2 x.1 + (szT (.l 300 sI2) x.2.1 + szT (.l 298 sTable) x.2.2)) + 4 < k + 1 := hk
  obtain ⟨r0, r1, r2⟩ : rowsLe 140737488351232 sI2 x.1 ∧ rowsLe 140737488351232 (.l 300 sI2) x.2.1 ∧ rowsLe 140737488351232 (.l 298 sTable) x.2.2 := hr
  have f0 : szT sI2 x.1 = 0 := szT_flat _ _ rfl
  have ht : szT sLPiece x = szT (.l 300 sI2) x.2.1 + (szT (.l 298 sTable) x.2.2 + 0) := by
    show (szT sI2 x.1 + (szT (.l 300 sI2) x.2.1 + szT (.l 298 sTable) x.2.2)) = _
    omega
  rw [elszPiece, ht]
  exact sz_step (zlszLinkS k _ _ r1 (by omega) h0 h1) h0 h1 fun p1 q1 w1 => sz_step (zlszTableS k _ _ r2 (by omega) q1 w1) q1 w1 fun p2 q2 w2 => szR_zero q2
theorem zlszPieceS (k : Nat) (x : List TLPiece) (left : Int) (hr : rowsLe 140737488351232 (.l 233 sLPiece) x) (hk : szT (.l 233 sLPiece) x + 5 < k) (h0 : 0 ≤ left) (h1 : left ≤ 1048576) : FlszPieceS k x left = some (szR (szT (.l 233 sLPiece) x) left) := by
  obtain ⟨k, rfl⟩ : ∃ q, k = q + 1 := ⟨k - 1, by omega⟩
  obtain ⟨hl, hr⟩ : x.length ≤ 140737488351232 ∧ ∀ y ∈ x, rowsLe 140737488351232 sLPiece y := rowsLe_row hr
  have hk' : x.length + sumL (szT sLPiece) x + 5 < k + 1 := hk
  have hw : 0 ≤ left - (x.length : Int) → IntKind.i64.wrap (left - (x.length : Int)) = left - x.length := fun _ => wrap_id (by omega) (by omega)
  refine (elszPieceS k x left).trans (sz_rows (α := I2 × (List I2) × List (Int × (List Int) × List Int)) (s := szT sLPiece) hl h0 h1 fun hp => ?_)
  rw [hw hp]
  have := szS_loop2 (L := LlszPieceS_0 k _ _ x) (f := fun y p => FlszPiece k y p) (fun _ _ => rfl) (neg := some (-1)) (fin := fun p => some p) (fun _ _ _ => rfl) (fun _ => rfl) (s := szT sLPiece) (a := x) (fun y hy p q0 q1 => zlszPiece k y p (hr y hy) (by have := sumL_le (f := szT sLPiece) hy; omega) q0 q1) hl x.length k 0 (left - x.length) (by omega) (by omega) (by omega) (by omega)
  exact this
theorem zlszProgram (k : Nat) (x : TLProgram) (left : Int) (hr : rowsLe 140737488351232 sLProgram x) (hk : szT sLProgram x + 6 < k) (h0 : 0 ≤ left) (h1 : left ≤ 1048576) : FlszProgram k x left = some (szR (szT sLProgram x) left) := by
  obtain ⟨k, rfl⟩ : ∃ q, k = q + 1 := ⟨k - 1, by omega⟩
  have hk' : (szT (.i .i64) x.1 + (szT (.i .i64) x.2.1 + (szT (.i .i64) x.2.2.1 + szT (.l 233 sLPiece) x.2.2.2))) + 6 < k + 1 := hk
  obtain ⟨r0, r1, r2, r3⟩ : rowsLe 140737488351232 (.i .i64) x.1 ∧ rowsLe 140737488351232 (.i .i64) x.2.1 ∧ rowsLe 140737488351232 (.i .i64) x.2.2.1 ∧ rowsLe 140737488351232 (.l 233 sLPiece) x.2.2.2 := hr
  have f0 : szT (.i .i64) x.1 = 0 := szT_flat _ _ rfl
  have f1 : szT (.i .i64) x.2.1 = 0 := szT_flat _ _ rfl
  have f2 : szT (.i .i64) x.2.2.1 = 0 := szT_flat _ _ rfl
  have ht : szT sLProgram x = szT (.l 233 sLPiece) x.2.2.2 + 0 := by
    show (szT (.i .i64) x.1 + (szT (.i .i64) x.2.1 + (szT (.i .i64) x.2.2.1 + szT (.l 233 sLPiece) x.2.2.2))) = _
    omega
  rw [elszProgram, ht]
  exact sz_step (zlszPieceS k _ _ r3 (by omega) h0 h1) h0 h1 fun p1 q1 w1 => szR_zero q1
theorem zlszQueue (k : Nat) (x : List I6) (left : Int) (hr : rowsLe 140737488351232 sLQueue x) (hk : szT sLQueue x + 2 < k) (h0 : 0 ≤ left) (h1 : left ≤ 1048576) : FlszQueue k x left = some (szR (szT sLQueue x) left) := by
  obtain ⟨k, rfl⟩ : ∃ q, k = q + 1 := ⟨k - 1, by omega⟩
  have hk' : szT (.l 182 sI6) x + 2 < k + 1 := hk
  have r0 : rowsLe 140737488351232 (.l 182 sI6) x := hr
  have ht : szT sLQueue x = szT (.l 182 sI6) x + 0 := by
    show szT (.l 182 sI6) x = _
    omega
  rw [elszQueue, ht]
  exact sz_step (zlszPacketS k _ _ r0 (by omega) h0 h1) h0 h1 fun p1 q1 w1 => szR_zero q1
theorem zlszQueueS (k : Nat) (x : List (List I6)) (left : Int) (hr : rowsLe 140737488351232 (.l 161 sLQueue) x) (hk : szT (.l 161 sLQueue) x + 3 < k) (h0 : 0 ≤ left) (h1 : left ≤ 1048576) : FlszQueueS k x left = some (szR (szT (.l 161 sLQueue) x) left) := by
  obtain ⟨k, rfl⟩ : ∃ q, k = q + 1 := ⟨k - 1, by omega⟩
  obtain ⟨hl, hr⟩ : x.length ≤ 140737488351232 ∧ ∀ y ∈ x, rowsLe 140737488351232 sLQueue y := rowsLe_row hr
  have hk' : x.length + sumL (szT sLQueue) x + 3 < k + 1 := hk
  have hw : 0 ≤ left - (x.length : Int) → IntKind.i64.wrap (left - (x.length : Int)) = left - x.length := fun _ => wrap_id (by omega) (by omega)
  refine (elszQueueS k x left).trans (sz_rows (α := List I6) (s := szT sLQueue) hl h0 h1 fun hp => ?_)
  rw [hw hp]
  have := szS_loop2 (L := LlszQueueS_0 k _ _ x) (f := fun y p => FlszQueue k y p) (fun _ _ => rfl) (neg := some (-1)) (fin := fun p => some p) (fun _ _ _ => rfl) (fun _ => rfl) (s := szT sLQueue) (a := x) (fun y hy p q0 q1 => zlszQueue k y p (hr y hy) (by have := sumL_le (f := szT sLQueue) hy; omega) q0 q1) hl x.length k 0 (left - x.length) (by omega) (by omega) (by omega) (by omega)
  exact this
theorem zlszSentS (k : Nat) (x : List I4) (left : Int) (hr : rowsLe 140737488351232 (.l 82 sI4) x) (hk : szT (.l 82 sI4) x + 1 < k) (h0 : 0 ≤ left) (h1 : left ≤ 1048576) : FlszSentS k x left = some (szR (szT (.l 82 sI4) x) left) := by
  obtain ⟨k, rfl⟩ : ∃ q, k = q + 1 := ⟨k - 1, by omega⟩
  have hl : x.length ≤ 140737488351232 := (rowsLe_row hr).1
  have hz : szT (.l 82 sI4) x = x.length := szT_row (e := 82) (sh := sI4) rfl x
  exact (elszSentS k x left).trans ((sz_leaf hl h0 h1).trans (congrArg (fun n => some (szR n left)) hz.symm))
theorem zlszSatS (k : Nat) (x : List I4) (left : Int) (hr : rowsLe 140737488351232 (.l 238 sI4) x) (hk : szT (.l 238 sI4) x + 1 < k) (h0 : 0 ≤ left) (h1 : left ≤ 1048576) : FlszSatS k x left = some (szR (szT (.l 238 sI4) x) left) := by
  obtain ⟨k, rfl⟩ : ∃ q, k = q + 1 := ⟨k - 1, by omega⟩
  have hl : x.length ≤ 140737488351232 := (rowsLe_row hr).1
  have hz : szT (.l 238 sI4) x = x.length := szT_row (e := 238) (sh := sI4) rfl x
  exact (elszSatS k x left).trans ((sz_leaf hl h0 h1).trans (congrArg (fun n => some (szR n left)) hz.symm))
theorem zlszSiteS (k : Nat) (x : List I3) (left : Int) (hr : rowsLe 140737488351232 (.l 242 sI3) x) (hk : szT (.l 242 sI3) x + 1 < k) (h0 : 0 ≤ left) (h1 : left ≤ 1048576) : FlszSiteS k x left = some (szR (szT (.l 242 sI3) x) left) := by
  obtain ⟨k, rfl⟩ : ∃ q, k = q + 1 := ⟨k - 1, by omega⟩
  have hl : x.length ≤ 140737488351232 := (rowsLe_row hr).1
  have hz : szT (.l 242 sI3) x = x.length := szT_row (e := 242) (sh := sI3) rfl x
  exact (elszSiteS k x left).trans ((sz_leaf hl h0 h1).trans (congrArg (fun n => some (szR n left)) hz.symm))
theorem zlszZoneS (k : Nat) (x : List I3) (left : Int) (hr : rowsLe 140737488351232 (.l 250 sZone) x) (hk : szT (.l 250 sZone) x + 1 < k) (h0 : 0 ≤ left) (h1 : left ≤ 1048576) : FlszZoneS k x left = some (szR (szT (.l 250 sZone) x) left) := by
  obtain ⟨k, rfl⟩ : ∃ q, k = q + 1 := ⟨k - 1, by omega⟩
  have hl : x.length ≤ 140737488351232 := (rowsLe_row hr).1
  have hz : szT (.l 250 sZone) x = x.length := szT_row (e := 250) (sh := sZone) rfl x
  exact (elszZoneS k x left).trans ((sz_leaf hl h0 h1).trans (congrArg (fun n => some (szR n left)) hz.symm))
theorem zlszSky (k : Nat) (x : TLSky) (left : Int) (hr : rowsLe 140737488351232 sLSky x) (hk : szT sLSky x + 2 < k) (h0 : 0 ≤ left) (h1 : left ≤ 1048576) : FlszSky k x left = some (szR (szT sLSky x) left) := by
  obtain ⟨k, rfl⟩ : ∃ q, k = q + 1 := ⟨k - 1, by omega⟩
  have hk' : (szT (.i .i64) x.1 + (szT (.l 238 sI4) x.2.1 + (szT (.l 242 sI3) x.2.2.1 + (szT (.i .i64) x.2.2.2.1 + (szT (.i .i64) x.2.2.2.2.1 + (szT (.i .i64) x.2.2.2.2.2.1 + (szT (.i .i64) x.2.2.2.2.2.2.1 + (szT (.i .i64) x.2.2.2.2.2.2.2.1 + (szT (.l 250 sZone) x.2.2.2.2.2.2.2.2.1 + szT (.i .i64) x.2.2.2.2.2.2.2.2.2))))))))) + 2 < k + 1 := hk
  obtain ⟨r0, r1, r2, r3, r4, r5, r6, r7, r8, r9⟩ : rowsLe 140737488351232 (.i .i64) x.1 ∧ rowsLe 140737488351232 (.l 238 sI4) x.2.1 ∧ rowsLe 140737488351232 (.l 242 sI3) x.2.2.1 ∧ rowsLe 140737488351232 (.i .i64) x.2.2.2.1 ∧ rowsLe 140737488351232 (.i .i64) x.2.2.2.2.1 ∧ rowsLe 140737488351232 (.i .i64) x.2.2.2.2.2.1 ∧ rowsLe 140737488351232 (.i .i64) x.2.2.2.2.2.2.1 ∧ rowsLe 140737488351232 (.i .i64) x.2.2.2.2.2.2.2.1 ∧ rowsLe 140737488351232 (.l 250 sZone) x.2.2.2.2.2.2.2.2.1 ∧ rowsLe 140737488351232 (.i .i64) x.2.2.2.2.2.2.2.2.2 := hr
  have f0 : szT (.i .i64) x.1 = 0 := szT_flat _ _ rfl
  have f3 : szT (.i .i64) x.2.2.2.1 = 0 := szT_flat _ _ rfl
  have f4 : szT (.i .i64) x.2.2.2.2.1 = 0 := szT_flat _ _ rfl
  have f5 : szT (.i .i64) x.2.2.2.2.2.1 = 0 := szT_flat _ _ rfl
  have f6 : szT (.i .i64) x.2.2.2.2.2.2.1 = 0 := szT_flat _ _ rfl
  have f7 : szT (.i .i64) x.2.2.2.2.2.2.2.1 = 0 := szT_flat _ _ rfl
  have f9 : szT (.i .i64) x.2.2.2.2.2.2.2.2.2 = 0 := szT_flat _ _ rfl
  have ht : szT sLSky x = szT (.l 238 sI4) x.2.1 + (szT (.l 242 sI3) x.2.2.1 + (szT (.l 250 sZone) x.2.2.2.2.2.2.2.2.1 + 0)) := by
    show (szT (.i .i64) x.1 + (szT (.l 238 sI4) x.2.1 + (szT (.l 242 sI3) x.2.2.1 + (szT (.i .i64) x.2.2.2.1 + (szT (.i .i64) x.2.2.2.2.1 + (szT (.i .i64) x.2.2.2.2.2.1 + (szT (.i .i64) x.2.2.2.2.2.2.1 + (szT (.i .i64) x.2.2.2.2.2.2.2.1 + (szT (.l 250 sZone) x.2.2.2.2.2.2.2.2.1 + szT (.i .i64) x.2.2.2.2.2.2.2.2.2))))))))) = _
    omega
  rw [elszSky, ht]
  exact sz_step (zlszSatS k _ _ r1 (by omega) h0 h1) h0 h1 fun p1 q1 w1 => sz_step (zlszSiteS k _ _ r2 (by omega) q1 w1) q1 w1 fun p2 q2 w2 => sz_step (zlszZoneS k _ _ r8 (by omega) q2 w2) q2 w2 fun p3 q3 w3 => szR_zero q3
theorem zlszStream (k : Nat) (x : Int × Int × List Int) (left : Int) (hr : rowsLe 140737488351232 sStream x) (hk : szT sStream x + 2 < k) (h0 : 0 ≤ left) (h1 : left ≤ 1048576) : FlszStream k x left = some (szR (szT sStream x) left) := by
  obtain ⟨k, rfl⟩ : ∃ q, k = q + 1 := ⟨k - 1, by omega⟩
  have hk' : (szT (.i .i64) x.1 + (szT (.i .i64) x.2.1 + szT (.l 3 (.i .i64)) x.2.2)) + 2 < k + 1 := hk
  obtain ⟨r0, r1, r2⟩ : rowsLe 140737488351232 (.i .i64) x.1 ∧ rowsLe 140737488351232 (.i .i64) x.2.1 ∧ rowsLe 140737488351232 (.l 3 (.i .i64)) x.2.2 := hr
  have f0 : szT (.i .i64) x.1 = 0 := szT_flat _ _ rfl
  have f1 : szT (.i .i64) x.2.1 = 0 := szT_flat _ _ rfl
  have ht : szT sStream x = szT (.l 3 (.i .i64)) x.2.2 + 0 := by
    show (szT (.i .i64) x.1 + (szT (.i .i64) x.2.1 + szT (.l 3 (.i .i64)) x.2.2)) = _
    omega
  rw [elszStream, ht]
  exact sz_step (zlszIntS k _ _ r2 (by omega) h0 h1) h0 h1 fun p1 q1 w1 => szR_zero q1
theorem zlszStreamS (k : Nat) (x : List (Int × Int × List Int)) (left : Int) (hr : rowsLe 140737488351232 (.l 163 sStream) x) (hk : szT (.l 163 sStream) x + 3 < k) (h0 : 0 ≤ left) (h1 : left ≤ 1048576) : FlszStreamS k x left = some (szR (szT (.l 163 sStream) x) left) := by
  obtain ⟨k, rfl⟩ : ∃ q, k = q + 1 := ⟨k - 1, by omega⟩
  obtain ⟨hl, hr⟩ : x.length ≤ 140737488351232 ∧ ∀ y ∈ x, rowsLe 140737488351232 sStream y := rowsLe_row hr
  have hk' : x.length + sumL (szT sStream) x + 3 < k + 1 := hk
  have hw : 0 ≤ left - (x.length : Int) → IntKind.i64.wrap (left - (x.length : Int)) = left - x.length := fun _ => wrap_id (by omega) (by omega)
  refine (elszStreamS k x left).trans (sz_rows (α := Int × Int × List Int) (s := szT sStream) hl h0 h1 fun hp => ?_)
  rw [hw hp]
  have := szS_loop2 (L := LlszStreamS_0 k _ _ x) (f := fun y p => FlszStream k y p) (fun _ _ => rfl) (neg := some (-1)) (fin := fun p => some p) (fun _ _ _ => rfl) (fun _ => rfl) (s := szT sStream) (a := x) (fun y hy p q0 q1 => zlszStream k y p (hr y hy) (by have := sumL_le (f := szT sStream) hy; omega) q0 q1) hl x.length k 0 (left - x.length) (by omega) (by omega) (by omega) (by omega)
  exact this
theorem zlszWorld (k : Nat) (x : TLWorld) (left : Int) (hr : rowsLe 140737488351232 sLWorld x) (hk : szT sLWorld x + 7 < k) (h0 : 0 ≤ left) (h1 : left ≤ 1048576) : FlszWorld k x left = some (szR (szT sLWorld x) left) := by
  obtain ⟨k, rfl⟩ : ∃ q, k = q + 1 := ⟨k - 1, by omega⟩
  have hk' : (szT sLSky x.1 + (szT sLProgram x.2.1 + (szT sLaw x.2.2.1 + (szT (.l 3 (.i .i64)) x.2.2.2.1 + (szT (.l 178 sI6) x.2.2.2.2.1 + (szT (.l 161 sLQueue) x.2.2.2.2.2.1 + (szT (.l 74 sI4) x.2.2.2.2.2.2.1 + (szT (.l 3 (.i .i64)) x.2.2.2.2.2.2.2.1 + (szT (.l 163 sStream) x.2.2.2.2.2.2.2.2.1 + (szT (.l 43 sI4) x.2.2.2.2.2.2.2.2.2.1 + (szT (.i .i64) x.2.2.2.2.2.2.2.2.2.2.1 + (szT (.i .i64) x.2.2.2.2.2.2.2.2.2.2.2.1 + (szT (.l 182 sI6) x.2.2.2.2.2.2.2.2.2.2.2.2.1 + szT (.l 82 sI4) x.2.2.2.2.2.2.2.2.2.2.2.2.2))))))))))))) + 7 < k + 1 := hk
  obtain ⟨r0, r1, r2, r3, r4, r5, r6, r7, r8, r9, r10, r11, r12, r13⟩ : rowsLe 140737488351232 sLSky x.1 ∧ rowsLe 140737488351232 sLProgram x.2.1 ∧ rowsLe 140737488351232 sLaw x.2.2.1 ∧ rowsLe 140737488351232 (.l 3 (.i .i64)) x.2.2.2.1 ∧ rowsLe 140737488351232 (.l 178 sI6) x.2.2.2.2.1 ∧ rowsLe 140737488351232 (.l 161 sLQueue) x.2.2.2.2.2.1 ∧ rowsLe 140737488351232 (.l 74 sI4) x.2.2.2.2.2.2.1 ∧ rowsLe 140737488351232 (.l 3 (.i .i64)) x.2.2.2.2.2.2.2.1 ∧ rowsLe 140737488351232 (.l 163 sStream) x.2.2.2.2.2.2.2.2.1 ∧ rowsLe 140737488351232 (.l 43 sI4) x.2.2.2.2.2.2.2.2.2.1 ∧ rowsLe 140737488351232 (.i .i64) x.2.2.2.2.2.2.2.2.2.2.1 ∧ rowsLe 140737488351232 (.i .i64) x.2.2.2.2.2.2.2.2.2.2.2.1 ∧ rowsLe 140737488351232 (.l 182 sI6) x.2.2.2.2.2.2.2.2.2.2.2.2.1 ∧ rowsLe 140737488351232 (.l 82 sI4) x.2.2.2.2.2.2.2.2.2.2.2.2.2 := hr
  have f10 : szT (.i .i64) x.2.2.2.2.2.2.2.2.2.2.1 = 0 := szT_flat _ _ rfl
  have f11 : szT (.i .i64) x.2.2.2.2.2.2.2.2.2.2.2.1 = 0 := szT_flat _ _ rfl
  have ht : szT sLWorld x = szT sLSky x.1 + (szT sLProgram x.2.1 + (szT sLaw x.2.2.1 + (szT (.l 3 (.i .i64)) x.2.2.2.1 + (szT (.l 178 sI6) x.2.2.2.2.1 + (szT (.l 161 sLQueue) x.2.2.2.2.2.1 + (szT (.l 74 sI4) x.2.2.2.2.2.2.1 + (szT (.l 3 (.i .i64)) x.2.2.2.2.2.2.2.1 + (szT (.l 163 sStream) x.2.2.2.2.2.2.2.2.1 + (szT (.l 43 sI4) x.2.2.2.2.2.2.2.2.2.1 + (szT (.l 182 sI6) x.2.2.2.2.2.2.2.2.2.2.2.2.1 + (szT (.l 82 sI4) x.2.2.2.2.2.2.2.2.2.2.2.2.2 + 0))))))))))) := by
    show (szT sLSky x.1 + (szT sLProgram x.2.1 + (szT sLaw x.2.2.1 + (szT (.l 3 (.i .i64)) x.2.2.2.1 + (szT (.l 178 sI6) x.2.2.2.2.1 + (szT (.l 161 sLQueue) x.2.2.2.2.2.1 + (szT (.l 74 sI4) x.2.2.2.2.2.2.1 + (szT (.l 3 (.i .i64)) x.2.2.2.2.2.2.2.1 + (szT (.l 163 sStream) x.2.2.2.2.2.2.2.2.1 + (szT (.l 43 sI4) x.2.2.2.2.2.2.2.2.2.1 + (szT (.i .i64) x.2.2.2.2.2.2.2.2.2.2.1 + (szT (.i .i64) x.2.2.2.2.2.2.2.2.2.2.2.1 + (szT (.l 182 sI6) x.2.2.2.2.2.2.2.2.2.2.2.2.1 + szT (.l 82 sI4) x.2.2.2.2.2.2.2.2.2.2.2.2.2))))))))))))) = _
    omega
  rw [elszWorld, ht]
  exact sz_step (zlszSky k _ _ r0 (by omega) h0 h1) h0 h1 fun p1 q1 w1 => sz_step (zlszProgram k _ _ r1 (by omega) q1 w1) q1 w1 fun p2 q2 w2 => sz_step (zlszLaw k _ _ r2 (by omega) q2 w2) q2 w2 fun p3 q3 w3 => sz_step (zlszIntS k _ _ r3 (by omega) q3 w3) q3 w3 fun p4 q4 w4 => sz_step (zlszBatteryS k _ _ r4 (by omega) q4 w4) q4 w4 fun p5 q5 w5 => sz_step (zlszQueueS k _ _ r5 (by omega) q5 w5) q5 w5 fun p6 q6 w6 => sz_step (zlszFlowS k _ _ r6 (by omega) q6 w6) q6 w6 fun p7 q7 w7 => sz_step (zlszIntS k _ _ r7 (by omega) q7 w7) q7 w7 fun p8 q8 w8 => sz_step (zlszStreamS k _ _ r8 (by omega) q8 w8) q8 w8 fun p9 q9 w9 => sz_step (zlszFaultS k _ _ r9 (by omega) q9 w9) q9 w9 fun p10 q10 w10 => sz_step (zlszPacketS k _ _ r12 (by omega) q10 w10) q10 w10 fun p11 q11 w11 => sz_step (zlszSentS k _ _ r13 (by omega) q11 w11) q11 w11 fun p12 q12 w12 => szR_zero q12
theorem tltoFlow (k : Nat) (x : I4) (hz : szT sI4 x ≤ 1048576) (hk : szT sI4 x + 1 < k) : FltoFlow k x = some x := by
  obtain ⟨k, rfl⟩ : ∃ q, k = q + 1 := ⟨k - 1, by omega⟩
  have hk' : (szT (.i .i64) x.1 + (szT (.i .i64) x.2.1 + (szT (.i .i64) x.2.2.1 + szT (.i .i64) x.2.2.2))) + 1 < k + 1 := hk
  have hz' : (szT (.i .i64) x.1 + (szT (.i .i64) x.2.1 + (szT (.i .i64) x.2.2.1 + szT (.i .i64) x.2.2.2))) ≤ 1048576 := hz
  exact eltoFlow k x
theorem tltoBattery (k : Nat) (x : I6) (hz : szT sI6 x ≤ 1048576) (hk : szT sI6 x + 1 < k) : FltoBattery k x = some x := by
  obtain ⟨k, rfl⟩ : ∃ q, k = q + 1 := ⟨k - 1, by omega⟩
  have hk' : (szT (.i .i64) x.1 + (szT (.i .i64) x.2.1 + (szT (.i .i64) x.2.2.1 + (szT (.i .i64) x.2.2.2.1 + (szT (.i .i64) x.2.2.2.2.1 + szT (.i .i64) x.2.2.2.2.2))))) + 1 < k + 1 := hk
  have hz' : (szT (.i .i64) x.1 + (szT (.i .i64) x.2.1 + (szT (.i .i64) x.2.2.1 + (szT (.i .i64) x.2.2.2.1 + (szT (.i .i64) x.2.2.2.2.1 + szT (.i .i64) x.2.2.2.2.2))))) ≤ 1048576 := hz
  exact eltoBattery k x
theorem tltoBatteryS (k : Nat) (x : List I6) (hz : szT (.l 178 sI6) x ≤ 1048576) (hk : szT (.l 178 sI6) x + 2 < k) : FltoBatteryS k x = some x := by
  obtain ⟨k, rfl⟩ : ∃ q, k = q + 1 := ⟨k - 1, by omega⟩
  have hk' : x.length + sumL (szT sI6) x + 2 < k + 1 := hk
  have hz' : x.length + sumL (szT sI6) x ≤ 1048576 := hz
  refine (eltoBatteryS k x).trans ?_
  rw [if_pos (beq_self_eq_true _), if_pos (by omega), if_pos (by simp; omega)]
  exact toS_loop2 (α := Int × Int × Int × Int × Int × Int) (L := LltoBatteryS_0 k _ x) (f := fun y => FltoBattery k y) (fun _ _ => rfl) (a := x) (fun y hy => tltoBattery k y (by have := sumL_le (f := szT sI6) hy; omega) (by have := sumL_le (f := szT sI6) hy; omega)) (by omega) x.length k 0 _ (by omega) (by omega) (by simp) (by simp)
theorem tltoFault (k : Nat) (x : I4) (hz : szT sI4 x ≤ 1048576) (hk : szT sI4 x + 1 < k) : FltoFault k x = some x := by
  obtain ⟨k, rfl⟩ : ∃ q, k = q + 1 := ⟨k - 1, by omega⟩
  have hk' : (szT (.i .i64) x.1 + (szT (.i .i64) x.2.1 + (szT (.i .i64) x.2.2.1 + szT (.i .i64) x.2.2.2))) + 1 < k + 1 := hk
  have hz' : (szT (.i .i64) x.1 + (szT (.i .i64) x.2.1 + (szT (.i .i64) x.2.2.1 + szT (.i .i64) x.2.2.2))) ≤ 1048576 := hz
  exact eltoFault k x
theorem tltoFaultS (k : Nat) (x : List I4) (hz : szT (.l 43 sI4) x ≤ 1048576) (hk : szT (.l 43 sI4) x + 2 < k) : FltoFaultS k x = some x := by
  obtain ⟨k, rfl⟩ : ∃ q, k = q + 1 := ⟨k - 1, by omega⟩
  have hk' : x.length + sumL (szT sI4) x + 2 < k + 1 := hk
  have hz' : x.length + sumL (szT sI4) x ≤ 1048576 := hz
  refine (eltoFaultS k x).trans ?_
  rw [if_pos (beq_self_eq_true _), if_pos (by omega), if_pos (by simp; omega)]
  exact toS_loop2 (α := Int × Int × Int × Int) (L := LltoFaultS_0 k _ x) (f := fun y => FltoFault k y) (fun _ _ => rfl) (a := x) (fun y hy => tltoFault k y (by have := sumL_le (f := szT sI4) hy; omega) (by have := sumL_le (f := szT sI4) hy; omega)) (by omega) x.length k 0 _ (by omega) (by omega) (by simp) (by simp)
theorem tltoFlowS (k : Nat) (x : List I4) (hz : szT (.l 74 sI4) x ≤ 1048576) (hk : szT (.l 74 sI4) x + 2 < k) : FltoFlowS k x = some x := by
  obtain ⟨k, rfl⟩ : ∃ q, k = q + 1 := ⟨k - 1, by omega⟩
  have hk' : x.length + sumL (szT sI4) x + 2 < k + 1 := hk
  have hz' : x.length + sumL (szT sI4) x ≤ 1048576 := hz
  refine (eltoFlowS k x).trans ?_
  rw [if_pos (beq_self_eq_true _), if_pos (by omega), if_pos (by simp; omega)]
  exact toS_loop2 (α := Int × Int × Int × Int) (L := LltoFlowS_0 k _ x) (f := fun y => FltoFlow k y) (fun _ _ => rfl) (a := x) (fun y hy => tltoFlow k y (by have := sumL_le (f := szT sI4) hy; omega) (by have := sumL_le (f := szT sI4) hy; omega)) (by omega) x.length k 0 _ (by omega) (by omega) (by simp) (by simp)
theorem tltoIntS (k : Nat) (x : List Int) (hz : szT (.l 3 (.i .i64)) x ≤ 1048576) (hk : szT (.l 3 (.i .i64)) x + 1 < k) : FltoIntS k x = some x := by
  obtain ⟨k, rfl⟩ : ∃ q, k = q + 1 := ⟨k - 1, by omega⟩
  have hk' : x.length + sumL (szT (.i .i64)) x + 1 < k + 1 := hk
  have hz' : x.length + sumL (szT (.i .i64)) x ≤ 1048576 := hz
  refine (eltoIntS k x).trans ?_
  rw [if_pos (beq_self_eq_true _), if_pos (by omega), if_pos (by simp; omega)]
  exact toS_loop2 (α := Int) (L := LltoIntS_0 k _ x) (f := fun y => some y) (fun _ _ => rfl) (a := x) (fun _ _ => rfl) (by omega) x.length k 0 _ (by omega) (by omega) (by simp) (by simp)
theorem tltoLaw (k : Nat) (x : List Int) (hz : szT sLaw x ≤ 1048576) (hk : szT sLaw x + 2 < k) : FltoLaw k x = some x := by
  obtain ⟨k, rfl⟩ : ∃ q, k = q + 1 := ⟨k - 1, by omega⟩
  have hk' : szT (.l 3 (.i .i64)) x + 2 < k + 1 := hk
  have hz' : szT (.l 3 (.i .i64)) x ≤ 1048576 := hz
  have g0 : FltoIntS k x = some x := tltoIntS k x (by omega) (by omega)
  refine (eltoLaw k x).trans ?_
  simp only [g0, Option.bind_some, bne_self_eq_false, beq_self_eq_true, Bool.not_true, Bool.false_eq_true, if_false]
theorem tltoPacket (k : Nat) (x : I6) (hz : szT sI6 x ≤ 1048576) (hk : szT sI6 x + 1 < k) : FltoPacket k x = some x := by
  obtain ⟨k, rfl⟩ : ∃ q, k = q + 1 := ⟨k - 1, by omega⟩
  have hk' : (szT (.i .i64) x.1 + (szT (.i .i64) x.2.1 + (szT (.i .i64) x.2.2.1 + (szT (.i .i64) x.2.2.2.1 + (szT (.i .i64) x.2.2.2.2.1 + szT (.i .i64) x.2.2.2.2.2))))) + 1 < k + 1 := hk
  have hz' : (szT (.i .i64) x.1 + (szT (.i .i64) x.2.1 + (szT (.i .i64) x.2.2.1 + (szT (.i .i64) x.2.2.2.1 + (szT (.i .i64) x.2.2.2.2.1 + szT (.i .i64) x.2.2.2.2.2))))) ≤ 1048576 := hz
  exact eltoPacket k x
theorem tltoPacketS (k : Nat) (x : List I6) (hz : szT (.l 182 sI6) x ≤ 1048576) (hk : szT (.l 182 sI6) x + 2 < k) : FltoPacketS k x = some x := by
  obtain ⟨k, rfl⟩ : ∃ q, k = q + 1 := ⟨k - 1, by omega⟩
  have hk' : x.length + sumL (szT sI6) x + 2 < k + 1 := hk
  have hz' : x.length + sumL (szT sI6) x ≤ 1048576 := hz
  refine (eltoPacketS k x).trans ?_
  rw [if_pos (beq_self_eq_true _), if_pos (by omega), if_pos (by simp; omega)]
  exact toS_loop2 (α := Int × Int × Int × Int × Int × Int) (L := LltoPacketS_0 k _ x) (f := fun y => FltoPacket k y) (fun _ _ => rfl) (a := x) (fun y hy => tltoPacket k y (by have := sumL_le (f := szT sI6) hy; omega) (by have := sumL_le (f := szT sI6) hy; omega)) (by omega) x.length k 0 _ (by omega) (by omega) (by simp) (by simp)
theorem tltoLink (k : Nat) (x : I2) (hz : szT sI2 x ≤ 1048576) (hk : szT sI2 x + 1 < k) : FltoLink k x = some x := by
  obtain ⟨k, rfl⟩ : ∃ q, k = q + 1 := ⟨k - 1, by omega⟩
  have hk' : (szT (.i .i64) x.1 + szT (.i .i64) x.2) + 1 < k + 1 := hk
  have hz' : (szT (.i .i64) x.1 + szT (.i .i64) x.2) ≤ 1048576 := hz
  exact eltoLink k x
theorem tltoLinkS (k : Nat) (x : List I2) (hz : szT (.l 300 sI2) x ≤ 1048576) (hk : szT (.l 300 sI2) x + 2 < k) : FltoLinkS k x = some x := by
  obtain ⟨k, rfl⟩ : ∃ q, k = q + 1 := ⟨k - 1, by omega⟩
  have hk' : x.length + sumL (szT sI2) x + 2 < k + 1 := hk
  have hz' : x.length + sumL (szT sI2) x ≤ 1048576 := hz
  refine (eltoLinkS k x).trans ?_
  rw [if_pos (beq_self_eq_true _), if_pos (by omega), if_pos (by simp; omega)]
  exact toS_loop2 (α := Int × Int) (L := LltoLinkS_0 k _ x) (f := fun y => FltoLink k y) (fun _ _ => rfl) (a := x) (fun y hy => tltoLink k y (by have := sumL_le (f := szT sI2) hy; omega) (by have := sumL_le (f := szT sI2) hy; omega)) (by omega) x.length k 0 _ (by omega) (by omega) (by simp) (by simp)
theorem tltoSpan (k : Nat) (x : I2) (hz : szT sI2 x ≤ 1048576) (hk : szT sI2 x + 1 < k) : FltoSpan k x = some x := by
  obtain ⟨k, rfl⟩ : ∃ q, k = q + 1 := ⟨k - 1, by omega⟩
  have hk' : (szT (.i .i64) x.1 + szT (.i .i64) x.2) + 1 < k + 1 := hk
  have hz' : (szT (.i .i64) x.1 + szT (.i .i64) x.2) ≤ 1048576 := hz
  exact eltoSpan k x
theorem tltoTable (k : Nat) (x : Int × (List Int) × List Int) (hz : szT sTable x ≤ 1048576) (hk : szT sTable x + 2 < k) : FltoTable k x = some x := by
  obtain ⟨k, rfl⟩ : ∃ q, k = q + 1 := ⟨k - 1, by omega⟩
  have hk' : (szT (.i .i64) x.1 + (szT (.l 3 (.i .i64)) x.2.1 + szT (.l 3 (.i .i64)) x.2.2)) + 2 < k + 1 := hk
  have hz' : (szT (.i .i64) x.1 + (szT (.l 3 (.i .i64)) x.2.1 + szT (.l 3 (.i .i64)) x.2.2)) ≤ 1048576 := hz
  have g0 : FltoIntS k x.2.1 = some x.2.1 := tltoIntS k x.2.1 (by omega) (by omega)
  have g1 : FltoIntS k x.2.2 = some x.2.2 := tltoIntS k x.2.2 (by omega) (by omega)
  refine (eltoTable k x).trans ?_
  simp only [g0, g1, Option.bind_some, bne_self_eq_false, beq_self_eq_true, Bool.not_true, Bool.false_eq_true, if_false]
theorem tltoTableS (k : Nat) (x : List (Int × (List Int) × List Int)) (hz : szT (.l 298 sTable) x ≤ 1048576) (hk : szT (.l 298 sTable) x + 3 < k) : FltoTableS k x = some x := by
  obtain ⟨k, rfl⟩ : ∃ q, k = q + 1 := ⟨k - 1, by omega⟩
  have hk' : x.length + sumL (szT sTable) x + 3 < k + 1 := hk
  have hz' : x.length + sumL (szT sTable) x ≤ 1048576 := hz
  refine (eltoTableS k x).trans ?_
  rw [if_pos (beq_self_eq_true _), if_pos (by omega), if_pos (by simp; omega)]
  exact toS_loop2 (α := Int × (List Int) × List Int) (L := LltoTableS_0 k _ x) (f := fun y => FltoTable k y) (fun _ _ => rfl) (a := x) (fun y hy => tltoTable k y (by have := sumL_le (f := szT sTable) hy; omega) (by have := sumL_le (f := szT sTable) hy; omega)) (by omega) x.length k 0 _ (by omega) (by omega) (by simp) (by simp)
theorem tltoPiece (k : Nat) (x : TLPiece) (hz : szT sLPiece x ≤ 1048576) (hk : szT sLPiece x + 4 < k) : FltoPiece k x = some x := by
  obtain ⟨k, rfl⟩ : ∃ q, k = q + 1 := ⟨k - 1, by omega⟩
  have hk' : (szT sI2 x.1 + (szT (.l 300 sI2) x.2.1 + szT (.l 298 sTable) x.2.2)) + 4 < k + 1 := hk
  have hz' : (szT sI2 x.1 + (szT (.l 300 sI2) x.2.1 + szT (.l 298 sTable) x.2.2)) ≤ 1048576 := hz
  have g0 : FltoSpan k x.1 = some x.1 := tltoSpan k x.1 (by omega) (by omega)
  have g1 : FltoLinkS k x.2.1 = some x.2.1 := tltoLinkS k x.2.1 (by omega) (by omega)
  have g2 : FltoTableS k x.2.2 = some x.2.2 := tltoTableS k x.2.2 (by omega) (by omega)
  refine (eltoPiece k x).trans ?_
  simp only [g0, g1, g2, Option.bind_some, bne_self_eq_false, beq_self_eq_true, Bool.not_true, Bool.false_eq_true, if_false]
theorem tltoPieceS (k : Nat) (x : List TLPiece) (hz : szT (.l 233 sLPiece) x ≤ 1048576) (hk : szT (.l 233 sLPiece) x + 5 < k) : FltoPieceS k x = some x := by
  obtain ⟨k, rfl⟩ : ∃ q, k = q + 1 := ⟨k - 1, by omega⟩
  have hk' : x.length + sumL (szT sLPiece) x + 5 < k + 1 := hk
  have hz' : x.length + sumL (szT sLPiece) x ≤ 1048576 := hz
  refine (eltoPieceS k x).trans ?_
  rw [if_pos (beq_self_eq_true _), if_pos (by omega), if_pos (by simp; omega)]
  exact toS_loop2 (α := I2 × (List I2) × List (Int × (List Int) × List Int)) (L := LltoPieceS_0 k _ x) (f := fun y => FltoPiece k y) (fun _ _ => rfl) (a := x) (fun y hy => tltoPiece k y (by have := sumL_le (f := szT sLPiece) hy; omega) (by have := sumL_le (f := szT sLPiece) hy; omega)) (by omega) x.length k 0 _ (by omega) (by omega) (by simp) (by simp)
theorem tltoProgram (k : Nat) (x : TLProgram) (hz : szT sLProgram x ≤ 1048576) (hk : szT sLProgram x + 6 < k) : FltoProgram k x = some x := by
  obtain ⟨k, rfl⟩ : ∃ q, k = q + 1 := ⟨k - 1, by omega⟩
  have hk' : (szT (.i .i64) x.1 + (szT (.i .i64) x.2.1 + (szT (.i .i64) x.2.2.1 + szT (.l 233 sLPiece) x.2.2.2))) + 6 < k + 1 := hk
  have hz' : (szT (.i .i64) x.1 + (szT (.i .i64) x.2.1 + (szT (.i .i64) x.2.2.1 + szT (.l 233 sLPiece) x.2.2.2))) ≤ 1048576 := hz
  have g0 : FltoPieceS k x.2.2.2 = some x.2.2.2 := tltoPieceS k x.2.2.2 (by omega) (by omega)
  refine (eltoProgram k x).trans ?_
  simp only [g0, Option.bind_some, bne_self_eq_false, beq_self_eq_true, Bool.not_true, Bool.false_eq_true, if_false]
theorem tltoQueue (k : Nat) (x : List I6) (hz : szT sLQueue x ≤ 1048576) (hk : szT sLQueue x + 3 < k) : FltoQueue k x = some x := by
  obtain ⟨k, rfl⟩ : ∃ q, k = q + 1 := ⟨k - 1, by omega⟩
  have hk' : szT (.l 182 sI6) x + 3 < k + 1 := hk
  have hz' : szT (.l 182 sI6) x ≤ 1048576 := hz
  have g0 : FltoPacketS k x = some x := tltoPacketS k x (by omega) (by omega)
  refine (eltoQueue k x).trans ?_
  simp only [g0, Option.bind_some, bne_self_eq_false, beq_self_eq_true, Bool.not_true, Bool.false_eq_true, if_false]
theorem tltoQueueS (k : Nat) (x : List (List I6)) (hz : szT (.l 161 sLQueue) x ≤ 1048576) (hk : szT (.l 161 sLQueue) x + 4 < k) : FltoQueueS k x = some x := by
  obtain ⟨k, rfl⟩ : ∃ q, k = q + 1 := ⟨k - 1, by omega⟩
  have hk' : x.length + sumL (szT sLQueue) x + 4 < k + 1 := hk
  have hz' : x.length + sumL (szT sLQueue) x ≤ 1048576 := hz
  refine (eltoQueueS k x).trans ?_
  rw [if_pos (beq_self_eq_true _), if_pos (by omega), if_pos (by simp; omega)]
  exact toS_loop2 (α := List I6) (L := LltoQueueS_0 k _ x) (f := fun y => FltoQueue k y) (fun _ _ => rfl) (a := x) (fun y hy => tltoQueue k y (by have := sumL_le (f := szT sLQueue) hy; omega) (by have := sumL_le (f := szT sLQueue) hy; omega)) (by omega) x.length k 0 _ (by omega) (by omega) (by simp) (by simp)
theorem tltoSent (k : Nat) (x : I4) (hz : szT sI4 x ≤ 1048576) (hk : szT sI4 x + 1 < k) : FltoSent k x = some x := by
  obtain ⟨k, rfl⟩ : ∃ q, k = q + 1 := ⟨k - 1, by omega⟩
  have hk' : (szT (.i .i64) x.1 + (szT (.i .i64) x.2.1 + (szT (.i .i64) x.2.2.1 + szT (.i .i64) x.2.2.2))) + 1 < k + 1 := hk
  have hz' : (szT (.i .i64) x.1 + (szT (.i .i64) x.2.1 + (szT (.i .i64) x.2.2.1 + szT (.i .i64) x.2.2.2))) ≤ 1048576 := hz
  exact eltoSent k x
theorem tltoSentS (k : Nat) (x : List I4) (hz : szT (.l 82 sI4) x ≤ 1048576) (hk : szT (.l 82 sI4) x + 2 < k) : FltoSentS k x = some x := by
  obtain ⟨k, rfl⟩ : ∃ q, k = q + 1 := ⟨k - 1, by omega⟩
  have hk' : x.length + sumL (szT sI4) x + 2 < k + 1 := hk
  have hz' : x.length + sumL (szT sI4) x ≤ 1048576 := hz
  refine (eltoSentS k x).trans ?_
  rw [if_pos (beq_self_eq_true _), if_pos (by omega), if_pos (by simp; omega)]
  exact toS_loop2 (α := Int × Int × Int × Int) (L := LltoSentS_0 k _ x) (f := fun y => FltoSent k y) (fun _ _ => rfl) (a := x) (fun y hy => tltoSent k y (by have := sumL_le (f := szT sI4) hy; omega) (by have := sumL_le (f := szT sI4) hy; omega)) (by omega) x.length k 0 _ (by omega) (by omega) (by simp) (by simp)
theorem tltoSat (k : Nat) (x : I4) (hz : szT sI4 x ≤ 1048576) (hk : szT sI4 x + 1 < k) : FltoSat k x = some x := by
  obtain ⟨k, rfl⟩ : ∃ q, k = q + 1 := ⟨k - 1, by omega⟩
  have hk' : (szT (.i .i64) x.1 + (szT (.i .i64) x.2.1 + (szT (.i .i64) x.2.2.1 + szT (.i .i64) x.2.2.2))) + 1 < k + 1 := hk
  have hz' : (szT (.i .i64) x.1 + (szT (.i .i64) x.2.1 + (szT (.i .i64) x.2.2.1 + szT (.i .i64) x.2.2.2))) ≤ 1048576 := hz
  exact eltoSat k x
theorem tltoSatS (k : Nat) (x : List I4) (hz : szT (.l 238 sI4) x ≤ 1048576) (hk : szT (.l 238 sI4) x + 2 < k) : FltoSatS k x = some x := by
  obtain ⟨k, rfl⟩ : ∃ q, k = q + 1 := ⟨k - 1, by omega⟩
  have hk' : x.length + sumL (szT sI4) x + 2 < k + 1 := hk
  have hz' : x.length + sumL (szT sI4) x ≤ 1048576 := hz
  refine (eltoSatS k x).trans ?_
  rw [if_pos (beq_self_eq_true _), if_pos (by omega), if_pos (by simp; omega)]
  exact toS_loop2 (α := Int × Int × Int × Int) (L := LltoSatS_0 k _ x) (f := fun y => FltoSat k y) (fun _ _ => rfl) (a := x) (fun y hy => tltoSat k y (by have := sumL_le (f := szT sI4) hy; omega) (by have := sumL_le (f := szT sI4) hy; omega)) (by omega) x.length k 0 _ (by omega) (by omega) (by simp) (by simp)
theorem tltoSite (k : Nat) (x : I3) (hz : szT sI3 x ≤ 1048576) (hk : szT sI3 x + 1 < k) : FltoSite k x = some x := by
  obtain ⟨k, rfl⟩ : ∃ q, k = q + 1 := ⟨k - 1, by omega⟩
  have hk' : (szT (.i .i64) x.1 + (szT (.i .i64) x.2.1 + szT (.i .i64) x.2.2)) + 1 < k + 1 := hk
  have hz' : (szT (.i .i64) x.1 + (szT (.i .i64) x.2.1 + szT (.i .i64) x.2.2)) ≤ 1048576 := hz
  exact eltoSite k x
theorem tltoSiteS (k : Nat) (x : List I3) (hz : szT (.l 242 sI3) x ≤ 1048576) (hk : szT (.l 242 sI3) x + 2 < k) : FltoSiteS k x = some x := by
  obtain ⟨k, rfl⟩ : ∃ q, k = q + 1 := ⟨k - 1, by omega⟩
  have hk' : x.length + sumL (szT sI3) x + 2 < k + 1 := hk
  have hz' : x.length + sumL (szT sI3) x ≤ 1048576 := hz
  refine (eltoSiteS k x).trans ?_
  rw [if_pos (beq_self_eq_true _), if_pos (by omega), if_pos (by simp; omega)]
  exact toS_loop2 (α := Int × Int × Int) (L := LltoSiteS_0 k _ x) (f := fun y => FltoSite k y) (fun _ _ => rfl) (a := x) (fun y hy => tltoSite k y (by have := sumL_le (f := szT sI3) hy; omega) (by have := sumL_le (f := szT sI3) hy; omega)) (by omega) x.length k 0 _ (by omega) (by omega) (by simp) (by simp)
theorem tltoArc (k : Nat) (x : I2) (hz : szT sI2 x ≤ 1048576) (hk : szT sI2 x + 1 < k) : FltoArc k x = some x := by
  obtain ⟨k, rfl⟩ : ∃ q, k = q + 1 := ⟨k - 1, by omega⟩
  have hk' : (szT (.i .i64) x.1 + szT (.i .i64) x.2) + 1 < k + 1 := hk
  have hz' : (szT (.i .i64) x.1 + szT (.i .i64) x.2) ≤ 1048576 := hz
  exact eltoArc k x
theorem tltoZone (k : Nat) (x : I3) (hz : szT sZone x ≤ 1048576) (hk : szT sZone x + 2 < k) : FltoZone k x = some x := by
  obtain ⟨k, rfl⟩ : ∃ q, k = q + 1 := ⟨k - 1, by omega⟩
  have hk' : (szT (.i .i64) x.1 + szT sI2 x.2) + 2 < k + 1 := hk
  have hz' : (szT (.i .i64) x.1 + szT sI2 x.2) ≤ 1048576 := hz
  have g0 : FltoArc k x.2 = some x.2 := tltoArc k x.2 (by omega) (by omega)
  refine (eltoZone k x).trans ?_
  simp only [g0, Option.bind_some, bne_self_eq_false, beq_self_eq_true, Bool.not_true, Bool.false_eq_true, if_false]
theorem tltoZoneS (k : Nat) (x : List I3) (hz : szT (.l 250 sZone) x ≤ 1048576) (hk : szT (.l 250 sZone) x + 3 < k) : FltoZoneS k x = some x := by
  obtain ⟨k, rfl⟩ : ∃ q, k = q + 1 := ⟨k - 1, by omega⟩
  have hk' : x.length + sumL (szT sZone) x + 3 < k + 1 := hk
  have hz' : x.length + sumL (szT sZone) x ≤ 1048576 := hz
  refine (eltoZoneS k x).trans ?_
  rw [if_pos (beq_self_eq_true _), if_pos (by omega), if_pos (by simp; omega)]
  exact toS_loop2 (α := Int × Int × Int) (L := LltoZoneS_0 k _ x) (f := fun y => FltoZone k y) (fun _ _ => rfl) (a := x) (fun y hy => tltoZone k y (by have := sumL_le (f := szT sZone) hy; omega) (by have := sumL_le (f := szT sZone) hy; omega)) (by omega) x.length k 0 _ (by omega) (by omega) (by simp) (by simp)
theorem tltoSky (k : Nat) (x : TLSky) (hz : szT sLSky x ≤ 1048576) (hk : szT sLSky x + 4 < k) : FltoSky k x = some x := by
  obtain ⟨k, rfl⟩ : ∃ q, k = q + 1 := ⟨k - 1, by omega⟩
  have hk' : (szT (.i .i64) x.1 + (szT (.l 238 sI4) x.2.1 + (szT (.l 242 sI3) x.2.2.1 + (szT (.i .i64) x.2.2.2.1 + (szT (.i .i64) x.2.2.2.2.1 + (szT (.i .i64) x.2.2.2.2.2.1 + (szT (.i .i64) x.2.2.2.2.2.2.1 + (szT (.i .i64) x.2.2.2.2.2.2.2.1 + (szT (.l 250 sZone) x.2.2.2.2.2.2.2.2.1 + szT (.i .i64) x.2.2.2.2.2.2.2.2.2))))))))) + 4 < k + 1 := hk
  have hz' : (szT (.i .i64) x.1 + (szT (.l 238 sI4) x.2.1 + (szT (.l 242 sI3) x.2.2.1 + (szT (.i .i64) x.2.2.2.1 + (szT (.i .i64) x.2.2.2.2.1 + (szT (.i .i64) x.2.2.2.2.2.1 + (szT (.i .i64) x.2.2.2.2.2.2.1 + (szT (.i .i64) x.2.2.2.2.2.2.2.1 + (szT (.l 250 sZone) x.2.2.2.2.2.2.2.2.1 + szT (.i .i64) x.2.2.2.2.2.2.2.2.2))))))))) ≤ 1048576 := hz
  have g0 : FltoSatS k x.2.1 = some x.2.1 := tltoSatS k x.2.1 (by omega) (by omega)
  have g1 : FltoSiteS k x.2.2.1 = some x.2.2.1 := tltoSiteS k x.2.2.1 (by omega) (by omega)
  have g2 : FltoZoneS k x.2.2.2.2.2.2.2.2.1 = some x.2.2.2.2.2.2.2.2.1 := tltoZoneS k x.2.2.2.2.2.2.2.2.1 (by omega) (by omega)
  refine (eltoSky k x).trans ?_
  simp only [g0, g1, g2, Option.bind_some, bne_self_eq_false, beq_self_eq_true, Bool.not_true, Bool.false_eq_true, if_false]
theorem tltoStream (k : Nat) (x : Int × Int × List Int) (hz : szT sStream x ≤ 1048576) (hk : szT sStream x + 2 < k) : FltoStream k x = some x := by
  obtain ⟨k, rfl⟩ : ∃ q, k = q + 1 := ⟨k - 1, by omega⟩
  have hk' : (szT (.i .i64) x.1 + (szT (.i .i64) x.2.1 + szT (.l 3 (.i .i64)) x.2.2)) + 2 < k + 1 := hk
  have hz' : (szT (.i .i64) x.1 + (szT (.i .i64) x.2.1 + szT (.l 3 (.i .i64)) x.2.2)) ≤ 1048576 := hz
  have g0 : FltoIntS k x.2.2 = some x.2.2 := tltoIntS k x.2.2 (by omega) (by omega)
  refine (eltoStream k x).trans ?_
  simp only [g0, Option.bind_some, bne_self_eq_false, beq_self_eq_true, Bool.not_true, Bool.false_eq_true, if_false]
theorem tltoStreamS (k : Nat) (x : List (Int × Int × List Int)) (hz : szT (.l 163 sStream) x ≤ 1048576) (hk : szT (.l 163 sStream) x + 3 < k) : FltoStreamS k x = some x := by
  obtain ⟨k, rfl⟩ : ∃ q, k = q + 1 := ⟨k - 1, by omega⟩
  have hk' : x.length + sumL (szT sStream) x + 3 < k + 1 := hk
  have hz' : x.length + sumL (szT sStream) x ≤ 1048576 := hz
  refine (eltoStreamS k x).trans ?_
  rw [if_pos (beq_self_eq_true _), if_pos (by omega), if_pos (by simp; omega)]
  exact toS_loop2 (α := Int × Int × List Int) (L := LltoStreamS_0 k _ x) (f := fun y => FltoStream k y) (fun _ _ => rfl) (a := x) (fun y hy => tltoStream k y (by have := sumL_le (f := szT sStream) hy; omega) (by have := sumL_le (f := szT sStream) hy; omega)) (by omega) x.length k 0 _ (by omega) (by omega) (by simp) (by simp)
theorem tltoWorld (k : Nat) (x : TLWorld) (hz : szT sLWorld x ≤ 1048576) (hk : szT sLWorld x + 7 < k) : FltoWorld k x = some x := by
  obtain ⟨k, rfl⟩ : ∃ q, k = q + 1 := ⟨k - 1, by omega⟩
  have hk' : (szT sLSky x.1 + (szT sLProgram x.2.1 + (szT sLaw x.2.2.1 + (szT (.l 3 (.i .i64)) x.2.2.2.1 + (szT (.l 178 sI6) x.2.2.2.2.1 + (szT (.l 161 sLQueue) x.2.2.2.2.2.1 + (szT (.l 74 sI4) x.2.2.2.2.2.2.1 + (szT (.l 3 (.i .i64)) x.2.2.2.2.2.2.2.1 + (szT (.l 163 sStream) x.2.2.2.2.2.2.2.2.1 + (szT (.l 43 sI4) x.2.2.2.2.2.2.2.2.2.1 + (szT (.i .i64) x.2.2.2.2.2.2.2.2.2.2.1 + (szT (.i .i64) x.2.2.2.2.2.2.2.2.2.2.2.1 + (szT (.l 182 sI6) x.2.2.2.2.2.2.2.2.2.2.2.2.1 + szT (.l 82 sI4) x.2.2.2.2.2.2.2.2.2.2.2.2.2))))))))))))) + 7 < k + 1 := hk
  have hz' : (szT sLSky x.1 + (szT sLProgram x.2.1 + (szT sLaw x.2.2.1 + (szT (.l 3 (.i .i64)) x.2.2.2.1 + (szT (.l 178 sI6) x.2.2.2.2.1 + (szT (.l 161 sLQueue) x.2.2.2.2.2.1 + (szT (.l 74 sI4) x.2.2.2.2.2.2.1 + (szT (.l 3 (.i .i64)) x.2.2.2.2.2.2.2.1 + (szT (.l 163 sStream) x.2.2.2.2.2.2.2.2.1 + (szT (.l 43 sI4) x.2.2.2.2.2.2.2.2.2.1 + (szT (.i .i64) x.2.2.2.2.2.2.2.2.2.2.1 + (szT (.i .i64) x.2.2.2.2.2.2.2.2.2.2.2.1 + (szT (.l 182 sI6) x.2.2.2.2.2.2.2.2.2.2.2.2.1 + szT (.l 82 sI4) x.2.2.2.2.2.2.2.2.2.2.2.2.2))))))))))))) ≤ 1048576 := hz
  have g0 : FltoSky k x.1 = some x.1 := tltoSky k x.1 (by omega) (by omega)
  have g1 : FltoProgram k x.2.1 = some x.2.1 := tltoProgram k x.2.1 (by omega) (by omega)
  have g2 : FltoLaw k x.2.2.1 = some x.2.2.1 := tltoLaw k x.2.2.1 (by omega) (by omega)
  have g3 : FltoIntS k x.2.2.2.1 = some x.2.2.2.1 := tltoIntS k x.2.2.2.1 (by omega) (by omega)
  have g4 : FltoBatteryS k x.2.2.2.2.1 = some x.2.2.2.2.1 := tltoBatteryS k x.2.2.2.2.1 (by omega) (by omega)
  have g5 : FltoQueueS k x.2.2.2.2.2.1 = some x.2.2.2.2.2.1 := tltoQueueS k x.2.2.2.2.2.1 (by omega) (by omega)
  have g6 : FltoFlowS k x.2.2.2.2.2.2.1 = some x.2.2.2.2.2.2.1 := tltoFlowS k x.2.2.2.2.2.2.1 (by omega) (by omega)
  have g7 : FltoIntS k x.2.2.2.2.2.2.2.1 = some x.2.2.2.2.2.2.2.1 := tltoIntS k x.2.2.2.2.2.2.2.1 (by omega) (by omega)
  have g8 : FltoStreamS k x.2.2.2.2.2.2.2.2.1 = some x.2.2.2.2.2.2.2.2.1 := tltoStreamS k x.2.2.2.2.2.2.2.2.1 (by omega) (by omega)
  have g9 : FltoFaultS k x.2.2.2.2.2.2.2.2.2.1 = some x.2.2.2.2.2.2.2.2.2.1 := tltoFaultS k x.2.2.2.2.2.2.2.2.2.1 (by omega) (by omega)
  have g10 : FltoPacketS k x.2.2.2.2.2.2.2.2.2.2.2.2.1 = some x.2.2.2.2.2.2.2.2.2.2.2.2.1 := tltoPacketS k x.2.2.2.2.2.2.2.2.2.2.2.2.1 (by omega) (by omega)
  have g11 : FltoSentS k x.2.2.2.2.2.2.2.2.2.2.2.2.2 = some x.2.2.2.2.2.2.2.2.2.2.2.2.2 := tltoSentS k x.2.2.2.2.2.2.2.2.2.2.2.2.2 (by omega) (by omega)
  refine (eltoWorld k x).trans ?_
  simp only [g0, g1, g2, g3, g4, g5, g6, g7, g8, g9, g10, g11, Option.bind_some, bne_self_eq_false, beq_self_eq_true, Bool.not_true, Bool.false_eq_true, if_false]
end Go.Proofs.YtekefiglklmgnaaGreat.World
