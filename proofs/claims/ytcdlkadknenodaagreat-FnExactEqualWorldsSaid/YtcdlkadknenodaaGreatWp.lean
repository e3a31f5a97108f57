/- Plain lemmas: sizes, copies and comparisons of the law's data. No condition. -/
import Derived.Test.YtcdlkadknenodaaGreatWb
namespace Go.Proofs.YtcdlkadknenodaaGreat.World
open Go Go.V Go.Proofs
set_option linter.unusedVariables false
set_option linter.unusedSimpArgs false
set_option maxRecDepth 100000
theorem qleqBattery (k : Nat) (x : I6) (hz : szT sI6 x ≤ 140737488351232) (hk : szT sI6 x + 1 < k) : FleqBattery k x x = some true := by
  obtain ⟨k, rfl⟩ : ∃ q, k = q + 1 := ⟨k - 1, by omega⟩
  have hk' : (szT (.i .i64) x.1 + (szT (.i .i64) x.2.1 + (szT (.i .i64) x.2.2.1 + (szT (.i .i64) x.2.2.2.1 + (szT (.i .i64) x.2.2.2.2.1 + szT (.i .i64) x.2.2.2.2.2))))) + 1 < k + 1 := hk
  have hz' : (szT (.i .i64) x.1 + (szT (.i .i64) x.2.1 + (szT (.i .i64) x.2.2.1 + (szT (.i .i64) x.2.2.2.1 + (szT (.i .i64) x.2.2.2.2.1 + szT (.i .i64) x.2.2.2.2.2))))) ≤ 140737488351232 := hz
  refine (eleqBattery k x x).trans ?_
  simp only [Option.bind_some, bne_self_eq_false, beq_self_eq_true, Bool.not_true, Bool.false_eq_true, if_false]
theorem qleqBatteryS (k : Nat) (x : List I6) (hz : szT (.l 126 sI6) x ≤ 140737488351232) (hk : szT (.l 126 sI6) x + 2 < k) : FleqBatteryS k x x = some true := by
  obtain ⟨k, rfl⟩ : ∃ q, k = q + 1 := ⟨k - 1, by omega⟩
  have hk' : x.length + sumL (szT sI6) x + 2 < k + 1 := hk
  have hz' : x.length + sumL (szT sI6) x ≤ 140737488351232 := hz
  refine (eleqBatteryS k x x).trans ?_
  rw [if_neg (by simp)]
  exact eqS_loop2 (α := Int × Int × Int × Int × Int × Int) (L := LleqBatteryS_0 k _ _ (x, x)) (f := fun y z => FleqBattery k y z) (fun _ _ => rfl) (a := x) (fun y hy => qleqBattery k y (by have := sumL_le (f := szT sI6) hy; omega) (by have := sumL_le (f := szT sI6) hy; omega)) (by omega) x.length k 0 (by omega) (by omega)
theorem qleqFault (k : Nat) (x : I4) (hz : szT sI4 x ≤ 140737488351232) (hk : szT sI4 x + 1 < k) : FleqFault k x x = some true := by
  obtain ⟨k, rfl⟩ : ∃ q, k = q + 1 := ⟨k - 1, by omega⟩
  have hk' : (szT (.i .i64) x.1 + (szT (.i .i64) x.2.1 + (szT (.i .i64) x.2.2.1 + szT (.i .i64) x.2.2.2))) + 1 < k + 1 := hk
  have hz' : (szT (.i .i64) x.1 + (szT (.i .i64) x.2.1 + (szT (.i .i64) x.2.2.1 + szT (.i .i64) x.2.2.2))) ≤ 140737488351232 := hz
  refine (eleqFault k x x).trans ?_
  simp only [Option.bind_some, bne_self_eq_false, beq_self_eq_true, Bool.not_true, Bool.false_eq_true, if_false]
theorem qleqFaultS (k : Nat) (x : List I4) (hz : szT (.l 136 sI4) x ≤ 140737488351232) (hk : szT (.l 136 sI4) x + 2 < k) : FleqFaultS k x x = some true := by
  obtain ⟨k, rfl⟩ : ∃ q, k = q + 1 := ⟨k - 1, by omega⟩
  have hk' : x.length + sumL (szT sI4) x + 2 < k + 1 := hk
  have hz' : x.length + sumL (szT sI4) x ≤ 140737488351232 := hz
  refine (eleqFaultS k x x).trans ?_
  rw [if_neg (by simp)]
  exact eqS_loop2 (α := Int × Int × Int × Int) (L := LleqFaultS_0 k _ _ (x, x)) (f := fun y z => FleqFault k y z) (fun _ _ => rfl) (a := x) (fun y hy => qleqFault k y (by have := sumL_le (f := szT sI4) hy; omega) (by have := sumL_le (f := szT sI4) hy; omega)) (by omega) x.length k 0 (by omega) (by omega)
theorem qleqFlow (k : Nat) (x : I4) (hz : szT sI4 x ≤ 140737488351232) (hk : szT sI4 x + 1 < k) : FleqFlow k x x = some true := by
  obtain ⟨k, rfl⟩ : ∃ q, k = q + 1 := ⟨k - 1, by omega⟩
  have hk' : (szT (.i .i64) x.1 + (szT (.i .i64) x.2.1 + (szT (.i .i64) x.2.2.1 + szT (.i .i64) x.2.2.2))) + 1 < k + 1 := hk
  have hz' : (szT (.i .i64) x.1 + (szT (.i .i64) x.2.1 + (szT (.i .i64) x.2.2.1 + szT (.i .i64) x.2.2.2))) ≤ 140737488351232 := hz
  refine (eleqFlow k x x).trans ?_
  simp only [Option.bind_some, bne_self_eq_false, beq_self_eq_true, Bool.not_true, Bool.false_eq_true, if_false]
theorem qleqFlowS (k : Nat) (x : List I4) (hz : szT (.l 129 sI4) x ≤ 140737488351232) (hk : szT (.l 129 sI4) x + 2 < k) : FleqFlowS k x x = some true := by
  obtain ⟨k, rfl⟩ : ∃ q, k = q + 1 := ⟨k - 1, by omega⟩
  have hk' : x.length + sumL (szT sI4) x + 2 < k + 1 := hk
  have hz' : x.length + sumL (szT sI4) x ≤ 140737488351232 := hz
  refine (eleqFlowS k x x).trans ?_
  rw [if_neg (by simp)]
  exact eqS_loop2 (α := Int × Int × Int × Int) (L := LleqFlowS_0 k _ _ (x, x)) (f := fun y z => FleqFlow k y z) (fun _ _ => rfl) (a := x) (fun y hy => qleqFlow k y (by have := sumL_le (f := szT sI4) hy; omega) (by have := sumL_le (f := szT sI4) hy; omega)) (by omega) x.length k 0 (by omega) (by omega)
theorem qleqIntS (k : Nat) (x : List Int) (hz : szT (.l 3 (.i .i64)) x ≤ 140737488351232) (hk : szT (.l 3 (.i .i64)) x + 1 < k) : FleqIntS k x x = some true := by
  obtain ⟨k, rfl⟩ : ∃ q, k = q + 1 := ⟨k - 1, by omega⟩
  have hk' : x.length + sumL (szT (.i .i64)) x + 1 < k + 1 := hk
  have hz' : x.length + sumL (szT (.i .i64)) x ≤ 140737488351232 := hz
  refine (eleqIntS k x x).trans ?_
  rw [if_neg (by simp)]
  exact eqI_loop2 (α := Int) (L := LleqIntS_0 k _ _ (x, x)) (fun _ _ => rfl) (a := x) (by omega) x.length k 0 (by omega) (by omega)
theorem qleqLaw (k : Nat) (x : List Int) (hz : szT sLaw x ≤ 140737488351232) (hk : szT sLaw x + 2 < k) : FleqLaw k x x = some true := by
  obtain ⟨k, rfl⟩ : ∃ q, k = q + 1 := ⟨k - 1, by omega⟩
  have hk' : szT (.l 3 (.i .i64)) x + 2 < k + 1 := hk
  have hz' : szT (.l 3 (.i .i64)) x ≤ 140737488351232 := hz
  have g0 : FleqIntS k x x = some true := qleqIntS k x (by omega) (by omega)
  refine (eleqLaw k x x).trans ?_
  simp only [g0, Option.bind_some, bne_self_eq_false, beq_self_eq_true, Bool.not_true, Bool.false_eq_true, if_false]
theorem qleqPacket (k : Nat) (x : I6) (hz : szT sI6 x ≤ 140737488351232) (hk : szT sI6 x + 1 < k) : FleqPacket k x x = some true := by
  obtain ⟨k, rfl⟩ : ∃ q, k = q + 1 := ⟨k - 1, by omega⟩
  have hk' : (szT (.i .i64) x.1 + (szT (.i .i64) x.2.1 + (szT (.i .i64) x.2.2.1 + (szT (.i .i64) x.2.2.2.1 + (szT (.i .i64) x.2.2.2.2.1 + szT (.i .i64) x.2.2.2.2.2))))) + 1 < k + 1 := hk
  have hz' : (szT (.i .i64) x.1 + (szT (.i .i64) x.2.1 + (szT (.i .i64) x.2.2.1 + (szT (.i .i64) x.2.2.2.1 + (szT (.i .i64) x.2.2.2.2.1 + szT (.i .i64) x.2.2.2.2.2))))) ≤ 140737488351232 := hz
  refine (eleqPacket k x x).trans ?_
  simp only [Option.bind_some, bne_self_eq_false, beq_self_eq_true, Bool.not_true, Bool.false_eq_true, if_false]
theorem qleqPacketS (k : Nat) (x : List I6) (hz : szT (.l 122 sI6) x ≤ 140737488351232) (hk : szT (.l 122 sI6) x + 2 < k) : FleqPacketS k x x = some true := by
  obtain ⟨k, rfl⟩ : ∃ q, k = q + 1 := ⟨k - 1, by omega⟩
  have hk' : x.length + sumL (szT sI6) x + 2 < k + 1 := hk
  have hz' : x.length + sumL (szT sI6) x ≤ 140737488351232 := hz
  refine (eleqPacketS k x x).trans ?_
  rw [if_neg (by simp)]
  exact eqS_loop2 (α := Int × Int × Int × Int × Int × Int) (L := LleqPacketS_0 k _ _ (x, x)) (f := fun y z => FleqPacket k y z) (fun _ _ => rfl) (a := x) (fun y hy => qleqPacket k y (by have := sumL_le (f := szT sI6) hy; omega) (by have := sumL_le (f := szT sI6) hy; omega)) (by omega) x.length k 0 (by omega) (by omega)
theorem qleqLink (k : Nat) (x : I2) (hz : szT sI2 x ≤ 140737488351232) (hk : szT sI2 x + 1 < k) : FleqLink k x x = some true := by
  obtain ⟨k, rfl⟩ : ∃ q, k = q + 1 := ⟨k - 1, by omega⟩
  have hk' : (szT (.i .i64) x.1 + szT (.i .i64) x.2) + 1 < k + 1 := hk
  have hz' : (szT (.i .i64) x.1 + szT (.i .i64) x.2) ≤ 140737488351232 := hz
  refine (eleqLink k x x).trans ?_
  simp only [Option.bind_some, bne_self_eq_false, beq_self_eq_true, Bool.not_true, Bool.false_eq_true, if_false]
theorem qleqLinkS (k : Nat) (x : List I2) (hz : szT (.l 112 sI2) x ≤ 140737488351232) (hk : szT (.l 112 sI2) x + 2 < k) : FleqLinkS k x x = some true := by
  obtain ⟨k, rfl⟩ : ∃ q, k = q + 1 := ⟨k - 1, by omega⟩
  have hk' : x.length + sumL (szT sI2) x + 2 < k + 1 := hk
  have hz' : x.length + sumL (szT sI2) x ≤ 140737488351232 := hz
  refine (eleqLinkS k x x).trans ?_
  rw [if_neg (by simp)]
  exact eqS_loop2 (α := Int × Int) (L := LleqLinkS_0 k _ _ (x, x)) (f := fun y z => FleqLink k y z) (fun _ _ => rfl) (a := x) (fun y hy => qleqLink k y (by have := sumL_le (f := szT sI2) hy; omega) (by have := sumL_le (f := szT sI2) hy; omega)) (by omega) x.length k 0 (by omega) (by omega)
theorem qleqSpan (k : Nat) (x : I2) (hz : szT sI2 x ≤ 140737488351232) (hk : szT sI2 x + 1 < k) : FleqSpan k x x = some true := by
  obtain ⟨k, rfl⟩ : ∃ q, k = q + 1 := ⟨k - 1, by omega⟩
  have hk' : (szT (.i .i64) x.1 + szT (.i .i64) x.2) + 1 < k + 1 := hk
  have hz' : (szT (.i .i64) x.1 + szT (.i .i64) x.2) ≤ 140737488351232 := hz
  refine (eleqSpan k x x).trans ?_
  simp only [Option.bind_some, bne_self_eq_false, beq_self_eq_true, Bool.not_true, Bool.false_eq_true, if_false]
theorem qleqTable (k : Nat) (x : Int × (List Int) × List Int) (hz : szT sTable x ≤ 140737488351232) (hk : szT sTable x + 2 < k) : FleqTable k x x = some true := by
  obtain ⟨k, rfl⟩ : ∃ q, k = q + 1 := ⟨k - 1, by omega⟩
  have hk' : (szT (.i .i64) x.1 + (szT (.l 3 (.i .i64)) x.2.1 + szT (.l 3 (.i .i64)) x.2.2)) + 2 < k + 1 := hk
  have hz' : (szT (.i .i64) x.1 + (szT (.l 3 (.i .i64)) x.2.1 + szT (.l 3 (.i .i64)) x.2.2)) ≤ 140737488351232 := hz
  have g0 : FleqIntS k x.2.1 x.2.1 = some true := qleqIntS k x.2.1 (by omega) (by omega)
  have g1 : FleqIntS k x.2.2 x.2.2 = some true := qleqIntS k x.2.2 (by omega) (by omega)
  refine (eleqTable k x x).trans ?_
  simp only [g0, g1, Option.bind_some, bne_self_eq_false, beq_self_eq_true, Bool.not_true, Bool.false_eq_true, if_false]
theorem qleqTableS (k : Nat) (x : List (Int × (List Int) × List Int)) (hz : szT (.l 115 sTable) x ≤ 140737488351232) (hk : szT (.l 115 sTable) x + 3 < k) : FleqTableS k x x = some true := by
  obtain ⟨k, rfl⟩ : ∃ q, k = q + 1 := ⟨k - 1, by omega⟩
  have hk' : x.length + sumL (szT sTable) x + 3 < k + 1 := hk
  have hz' : x.length + sumL (szT sTable) x ≤ 140737488351232 := hz
  refine (eleqTableS k x x).trans ?_
  rw [if_neg (by simp)]
  exact eqS_loop2 (α := Int × (List Int) × List Int) (L := LleqTableS_0 k _ _ (x, x)) (f := fun y z => FleqTable k y z) (fun _ _ => rfl) (a := x) (fun y hy => qleqTable k y (by have := sumL_le (f := szT sTable) hy; omega) (by have := sumL_le (f := szT sTable) hy; omega)) (by omega) x.length k 0 (by omega) (by omega)
theorem qleqPiece (k : Nat) (x : I2 × (List I2) × List (Int × (List Int) × List Int)) (hz : szT sPiece x ≤ 140737488351232) (hk : szT sPiece x + 4 < k) : FleqPiece k x x = some true := by
  obtain ⟨k, rfl⟩ : ∃ q, k = q + 1 := ⟨k - 1, by omega⟩
  have hk' : (szT sI2 x.1 + (szT (.l 112 sI2) x.2.1 + szT (.l 115 sTable) x.2.2)) + 4 < k + 1 := hk
  have hz' : (szT sI2 x.1 + (szT (.l 112 sI2) x.2.1 + szT (.l 115 sTable) x.2.2)) ≤ 140737488351232 := hz
  have g0 : FleqSpan k x.1 x.1 = some true := qleqSpan k x.1 (by omega) (by omega)
  have g1 : FleqLinkS k x.2.1 x.2.1 = some true := qleqLinkS k x.2.1 (by omega) (by omega)
  have g2 : FleqTableS k x.2.2 x.2.2 = some true := qleqTableS k x.2.2 (by omega) (by omega)
  refine (eleqPiece k x x).trans ?_
  simp only [g0, g1, g2, Option.bind_some, bne_self_eq_false, beq_self_eq_true, Bool.not_true, Bool.false_eq_true, if_false]
theorem qleqPieceS (k : Nat) (x : List (I2 × (List I2) × List (Int × (List Int) × List Int))) (hz : szT (.l 109 sPiece) x ≤ 140737488351232) (hk : szT (.l 109 sPiece) x + 5 < k) : FleqPieceS k x x = some true := by
  obtain ⟨k, rfl⟩ : ∃ q, k = q + 1 := ⟨k - 1, by omega⟩
  have hk' : x.length + sumL (szT sPiece) x + 5 < k + 1 := hk
  have hz' : x.length + sumL (szT sPiece) x ≤ 140737488351232 := hz
  refine (eleqPieceS k x x).trans ?_
  rw [if_neg (by simp)]
  exact eqS_loop2 (α := I2 × (List I2) × List (Int × (List Int) × List Int)) (L := LleqPieceS_0 k _ _ (x, x)) (f := fun y z => FleqPiece k y z) (fun _ _ => rfl) (a := x) (fun y hy => qleqPiece k y (by have := sumL_le (f := szT sPiece) hy; omega) (by have := sumL_le (f := szT sPiece) hy; omega)) (by omega) x.length k 0 (by omega) (by omega)
theorem qleqProgram (k : Nat) (x : Int × Int × Int × List (I2 × (List I2) × List (Int × (List Int) × List Int))) (hz : szT sProgram x ≤ 140737488351232) (hk : szT sProgram x + 6 < k) : FleqProgram k x x = some true := by
  obtain ⟨k, rfl⟩ : ∃ q, k = q + 1 := ⟨k - 1, by omega⟩
  have hk' : (szT (.i .i64) x.1 + (szT (.i .i64) x.2.1 + (szT (.i .i64) x.2.2.1 + szT (.l 109 sPiece) x.2.2.2))) + 6 < k + 1 := hk
  have hz' : (szT (.i .i64) x.1 + (szT (.i .i64) x.2.1 + (szT (.i .i64) x.2.2.1 + szT (.l 109 sPiece) x.2.2.2))) ≤ 140737488351232 := hz
  have g0 : FleqPieceS k x.2.2.2 x.2.2.2 = some true := qleqPieceS k x.2.2.2 (by omega) (by omega)
  refine (eleqProgram k x x).trans ?_
  simp only [g0, Option.bind_some, bne_self_eq_false, beq_self_eq_true, Bool.not_true, Bool.false_eq_true, if_false]
theorem qleqQueue (k : Nat) (x : List I6) (hz : szT sQueue x ≤ 140737488351232) (hk : szT sQueue x + 3 < k) : FleqQueue k x x = some true := by
  obtain ⟨k, rfl⟩ : ∃ q, k = q + 1 := ⟨k - 1, by omega⟩
  have hk' : szT (.l 122 sI6) x + 3 < k + 1 := hk
  have hz' : szT (.l 122 sI6) x ≤ 140737488351232 := hz
  have g0 : FleqPacketS k x x = some true := qleqPacketS k x (by omega) (by omega)
  refine (eleqQueue k x x).trans ?_
  simp only [g0, Option.bind_some, bne_self_eq_false, beq_self_eq_true, Bool.not_true, Bool.false_eq_true, if_false]
theorem qleqQueueS (k : Nat) (x : List (List I6)) (hz : szT (.l 120 sQueue) x ≤ 140737488351232) (hk : szT (.l 120 sQueue) x + 4 < k) : FleqQueueS k x x = some true := by
  obtain ⟨k, rfl⟩ : ∃ q, k = q + 1 := ⟨k - 1, by omega⟩
  have hk' : x.length + sumL (szT sQueue) x + 4 < k + 1 := hk
  have hz' : x.length + sumL (szT sQueue) x ≤ 140737488351232 := hz
  refine (eleqQueueS k x x).trans ?_
  rw [if_neg (by simp)]
  exact eqS_loop2 (α := List I6) (L := LleqQueueS_0 k _ _ (x, x)) (f := fun y z => FleqQueue k y z) (fun _ _ => rfl) (a := x) (fun y hy => qleqQueue k y (by have := sumL_le (f := szT sQueue) hy; omega) (by have := sumL_le (f := szT sQueue) hy; omega)) (by omega) x.length k 0 (by omega) (by omega)
theorem qleqSent (k : Nat) (x : I4) (hz : szT sI4 x ≤ 140737488351232) (hk : szT sI4 x + 1 < k) : FleqSent k x x = some true := by
  obtain ⟨k, rfl⟩ : ∃ q, k = q + 1 := ⟨k - 1, by omega⟩
  have hk' : (szT (.i .i64) x.1 + (szT (.i .i64) x.2.1 + (szT (.i .i64) x.2.2.1 + szT (.i .i64) x.2.2.2))) + 1 < k + 1 := hk
  have hz' : (szT (.i .i64) x.1 + (szT (.i .i64) x.2.1 + (szT (.i .i64) x.2.2.1 + szT (.i .i64) x.2.2.2))) ≤ 140737488351232 := hz
  refine (eleqSent k x x).trans ?_
  simp only [Option.bind_some, bne_self_eq_false, beq_self_eq_true, Bool.not_true, Bool.false_eq_true, if_false]
theorem qleqSentS (k : Nat) (x : List I4) (hz : szT (.l 139 sI4) x ≤ 140737488351232) (hk : szT (.l 139 sI4) x + 2 < k) : FleqSentS k x x = some true := by
  obtain ⟨k, rfl⟩ : ∃ q, k = q + 1 := ⟨k - 1, by omega⟩
  have hk' : x.length + sumL (szT sI4) x + 2 < k + 1 := hk
  have hz' : x.length + sumL (szT sI4) x ≤ 140737488351232 := hz
  refine (eleqSentS k x x).trans ?_
  rw [if_neg (by simp)]
  exact eqS_loop2 (α := Int × Int × Int × Int) (L := LleqSentS_0 k _ _ (x, x)) (f := fun y z => FleqSent k y z) (fun _ _ => rfl) (a := x) (fun y hy => qleqSent k y (by have := sumL_le (f := szT sI4) hy; omega) (by have := sumL_le (f := szT sI4) hy; omega)) (by omega) x.length k 0 (by omega) (by omega)
theorem qleqSat (k : Nat) (x : I4) (hz : szT sI4 x ≤ 140737488351232) (hk : szT sI4 x + 1 < k) : FleqSat k x x = some true := by
  obtain ⟨k, rfl⟩ : ∃ q, k = q + 1 := ⟨k - 1, by omega⟩
  have hk' : (szT (.i .i64) x.1 + (szT (.i .i64) x.2.1 + (szT (.i .i64) x.2.2.1 + szT (.i .i64) x.2.2.2))) + 1 < k + 1 := hk
  have hz' : (szT (.i .i64) x.1 + (szT (.i .i64) x.2.1 + (szT (.i .i64) x.2.2.1 + szT (.i .i64) x.2.2.2))) ≤ 140737488351232 := hz
  refine (eleqSat k x x).trans ?_
  simp only [Option.bind_some, bne_self_eq_false, beq_self_eq_true, Bool.not_true, Bool.false_eq_true, if_false]
theorem qleqSatS (k : Nat) (x : List I4) (hz : szT (.l 94 sI4) x ≤ 140737488351232) (hk : szT (.l 94 sI4) x + 2 < k) : FleqSatS k x x = some true := by
  obtain ⟨k, rfl⟩ : ∃ q, k = q + 1 := ⟨k - 1, by omega⟩
  have hk' : x.length + sumL (szT sI4) x + 2 < k + 1 := hk
  have hz' : x.length + sumL (szT sI4) x ≤ 140737488351232 := hz
  refine (eleqSatS k x x).trans ?_
  rw [if_neg (by simp)]
  exact eqS_loop2 (α := Int × Int × Int × Int) (L := LleqSatS_0 k _ _ (x, x)) (f := fun y z => FleqSat k y z) (fun _ _ => rfl) (a := x) (fun y hy => qleqSat k y (by have := sumL_le (f := szT sI4) hy; omega) (by have := sumL_le (f := szT sI4) hy; omega)) (by omega) x.length k 0 (by omega) (by omega)
theorem qleqSite (k : Nat) (x : I3) (hz : szT sI3 x ≤ 140737488351232) (hk : szT sI3 x + 1 < k) : FleqSite k x x = some true := by
  obtain ⟨k, rfl⟩ : ∃ q, k = q + 1 := ⟨k - 1, by omega⟩
  have hk' : (szT (.i .i64) x.1 + (szT (.i .i64) x.2.1 + szT (.i .i64) x.2.2)) + 1 < k + 1 := hk
  have hz' : (szT (.i .i64) x.1 + (szT (.i .i64) x.2.1 + szT (.i .i64) x.2.2)) ≤ 140737488351232 := hz
  refine (eleqSite k x x).trans ?_
  simp only [Option.bind_some, bne_self_eq_false, beq_self_eq_true, Bool.not_true, Bool.false_eq_true, if_false]
theorem qleqSiteS (k : Nat) (x : List I3) (hz : szT (.l 97 sI3) x ≤ 140737488351232) (hk : szT (.l 97 sI3) x + 2 < k) : FleqSiteS k x x = some true := by
  obtain ⟨k, rfl⟩ : ∃ q, k = q + 1 := ⟨k - 1, by omega⟩
  have hk' : x.length + sumL (szT sI3) x + 2 < k + 1 := hk
  have hz' : x.length + sumL (szT sI3) x ≤ 140737488351232 := hz
  refine (eleqSiteS k x x).trans ?_
  rw [if_neg (by simp)]
  exact eqS_loop2 (α := Int × Int × Int) (L := LleqSiteS_0 k _ _ (x, x)) (f := fun y z => FleqSite k y z) (fun _ _ => rfl) (a := x) (fun y hy => qleqSite k y (by have := sumL_le (f := szT sI3) hy; omega) (by have := sumL_le (f := szT sI3) hy; omega)) (by omega) x.length k 0 (by omega) (by omega)
theorem qleqArc (k : Nat) (x : I2) (hz : szT sI2 x ≤ 140737488351232) (hk : szT sI2 x + 1 < k) : FleqArc k x x = some true := by
  obtain ⟨k, rfl⟩ : ∃ q, k = q + 1 := ⟨k - 1, by omega⟩
  have hk' : (szT (.i .i64) x.1 + szT (.i .i64) x.2) + 1 < k + 1 := hk
  have hz' : (szT (.i .i64) x.1 + szT (.i .i64) x.2) ≤ 140737488351232 := hz
  refine (eleqArc k x x).trans ?_
  simp only [Option.bind_some, bne_self_eq_false, beq_self_eq_true, Bool.not_true, Bool.false_eq_true, if_false]
theorem qleqZone (k : Nat) (x : I3) (hz : szT sZone x ≤ 140737488351232) (hk : szT sZone x + 2 < k) : FleqZone k x x = some true := by
  obtain ⟨k, rfl⟩ : ∃ q, k = q + 1 := ⟨k - 1, by omega⟩
  have hk' : (szT (.i .i64) x.1 + szT sI2 x.2) + 2 < k + 1 := hk
  have hz' : (szT (.i .i64) x.1 + szT sI2 x.2) ≤ 140737488351232 := hz
  have g0 : FleqArc k x.2 x.2 = some true := qleqArc k x.2 (by omega) (by omega)
  refine (eleqZone k x x).trans ?_
  simp only [g0, Option.bind_some, bne_self_eq_false, beq_self_eq_true, Bool.not_true, Bool.false_eq_true, if_false]
theorem qleqZoneS (k : Nat) (x : List I3) (hz : szT (.l 102 sZone) x ≤ 140737488351232) (hk : szT (.l 102 sZone) x + 3 < k) : FleqZoneS k x x = some true := by
  obtain ⟨k, rfl⟩ : ∃ q, k = q + 1 := ⟨k - 1, by omega⟩
  have hk' : x.length + sumL (szT sZone) x + 3 < k + 1 := hk
  have hz' : x.length + sumL (szT sZone) x ≤ 140737488351232 := hz
  refine (eleqZoneS k x x).trans ?_
  rw [if_neg (by simp)]
  exact eqS_loop2 (α := Int × Int × Int) (L := LleqZoneS_0 k _ _ (x, x)) (f := fun y z => FleqZone k y z) (fun _ _ => rfl) (a := x) (fun y hy => qleqZone k y (by have := sumL_le (f := szT sZone) hy; omega) (by have := sumL_le (f := szT sZone) hy; omega)) (by omega) x.length k 0 (by omega) (by omega)
theorem qleqSky (k : Nat) (x : Int × (List I4) × (List I3) × Int × Int × Int × Int × Int × (List I3) × Int) (hz : szT sSky x ≤ 140737488351232) (hk : szT sSky x + 4 < k) : FleqSky k x x = some true := by
  obtain ⟨k, rfl⟩ : ∃ q, k = q + 1 := ⟨k - 1, by omega⟩
  have hk' : (szT (.i .i64) x.1 + (szT (.l 94 sI4) x.2.1 + (szT (.l 97 sI3) x.2.2.1 + (szT (.i .i64) x.2.2.2.1 + (szT (.i .i64) x.2.2.2.2.1 + (szT (.i .i64) x.2.2.2.2.2.1 + (szT (.i .i64) x.2.2.2.2.2.2.1 + (szT (.i .i64) x.2.2.2.2.2.2.2.1 + (szT (.l 102 sZone) x.2.2.2.2.2.2.2.2.1 + szT (.i .i64) x.2.2.2.2.2.2.2.2.2))))))))) + 4 < k + 1 := hk
  have hz' : (szT (.i .i64) x.1 + (szT (.l 94 sI4) x.2.1 + (szT (.l 97 sI3) x.2.2.1 + (szT (.i .i64) x.2.2.2.1 + (szT (.i .i64) x.2.2.2.2.1 + (szT (.i .i64) x.2.2.2.2.2.1 + (szT (.i .i64) x.2.2.2.2.2.2.1 + (szT (.i .i64) x.2.2.2.2.2.2.2.1 + (szT (.l 102 sZone) x.2.2.2.2.2.2.2.2.1 + szT (.i .i64) x.2.2.2.2.2.2.2.2.2))))))))) ≤ 140737488351232 := hz
  have g0 : FleqSatS k x.2.1 x.2.1 = some true := qleqSatS k x.2.1 (by omega) (by omega)
  have g1 : FleqSiteS k x.2.2.1 x.2.2.1 = some true := qleqSiteS k x.2.2.1 (by omega) (by omega)
  have g2 : FleqZoneS k x.2.2.2.2.2.2.2.2.1 x.2.2.2.2.2.2.2.2.1 = some true := qleqZoneS k x.2.2.2.2.2.2.2.2.1 (by omega) (by omega)
  refine (eleqSky k x x).trans ?_
  simp only [g0, g1, g2, Option.bind_some, bne_self_eq_false, beq_self_eq_true, Bool.not_true, Bool.false_eq_true, if_false]
theorem qleqStream (k : Nat) (x : Int × Int × List Int) (hz : szT sStream x ≤ 140737488351232) (hk : szT sStream x + 2 < k) : FleqStream k x x = some true := by
  obtain ⟨k, rfl⟩ : ∃ q, k = q + 1 := ⟨k - 1, by omega⟩
  have hk' : (szT (.i .i64) x.1 + (szT (.i .i64) x.2.1 + szT (.l 3 (.i .i64)) x.2.2)) + 2 < k + 1 := hk
  have hz' : (szT (.i .i64) x.1 + (szT (.i .i64) x.2.1 + szT (.l 3 (.i .i64)) x.2.2)) ≤ 140737488351232 := hz
  have g0 : FleqIntS k x.2.2 x.2.2 = some true := qleqIntS k x.2.2 (by omega) (by omega)
  refine (eleqStream k x x).trans ?_
  simp only [g0, Option.bind_some, bne_self_eq_false, beq_self_eq_true, Bool.not_true, Bool.false_eq_true, if_false]
theorem qleqStreamS (k : Nat) (x : List (Int × Int × List Int)) (hz : szT (.l 132 sStream) x ≤ 140737488351232) (hk : szT (.l 132 sStream) x + 3 < k) : FleqStreamS k x x = some true := by
  obtain ⟨k, rfl⟩ : ∃ q, k = q + 1 := ⟨k - 1, by omega⟩
  have hk' : x.length + sumL (szT sStream) x + 3 < k + 1 := hk
  have hz' : x.length + sumL (szT sStream) x ≤ 140737488351232 := hz
  refine (eleqStreamS k x x).trans ?_
  rw [if_neg (by simp)]
  exact eqS_loop2 (α := Int × Int × List Int) (L := LleqStreamS_0 k _ _ (x, x)) (f := fun y z => FleqStream k y z) (fun _ _ => rfl) (a := x) (fun y hy => qleqStream k y (by have := sumL_le (f := szT sStream) hy; omega) (by have := sumL_le (f := szT sStream) hy; omega)) (by omega) x.length k 0 (by omega) (by omega)
theorem qleqWorld (k : Nat) (x : (Int × (List I4) × (List I3) × Int × Int × Int × Int × Int × (List I3) × Int) × (Int × Int × Int × List (I2 × (List I2) × List (Int × (List Int) × List Int))) × (List Int) × (List Int) × (List I6) × (List (List I6)) × (List I4) × (List Int) × (List (Int × Int × List Int)) × (List I4) × Int × Int × (List I6) × List I4) (hz : szT sWorld x ≤ 140737488351232) (hk : szT sWorld x + 7 < k) : FleqWorld k x x = some true := by
  obtain ⟨k, rfl⟩ : ∃ q, k = q + 1 := ⟨k - 1, by omega⟩
  have hk' : (szT sSky x.1 + (szT sProgram x.2.1 + (szT sLaw x.2.2.1 + (szT (.l 3 (.i .i64)) x.2.2.2.1 + (szT (.l 126 sI6) x.2.2.2.2.1 + (szT (.l 120 sQueue) x.2.2.2.2.2.1 + (szT (.l 129 sI4) x.2.2.2.2.2.2.1 + (szT (.l 3 (.i .i64)) x.2.2.2.2.2.2.2.1 + (szT (.l 132 sStream) x.2.2.2.2.2.2.2.2.1 + (szT (.l 136 sI4) x.2.2.2.2.2.2.2.2.2.1 + (szT (.i .i64) x.2.2.2.2.2.2.2.2.2.2.1 + (szT (.i .i64) x.2.2.2.2.2.2.2.2.2.2.2.1 + (szT (.l 122 sI6) x.2.2.2.2.2.2.2.2.2.2.2.2.1 + szT (.l 139 sI4) x.2.2.2.2.2.2.2.2.2.2.2.2.2))))))))))))) + 7 < k + 1 := hk
  have hz' : (szT sSky x.1 + (szT sProgram x.2.1 + (szT sLaw x.2.2.1 + (szT (.l 3 (.i .i64)) x.2.2.2.1 + (szT (.l 126 sI6) x.2.2.2.2.1 + (szT (.l 120 sQueue) x.2.2.2.2.2.1 + (szT (.l 129 sI4) x.2.2.2.2.2.2.1 + (szT (.l 3 (.i .i64)) x.2.2.2.2.2.2.2.1 + (szT (.l 132 sStream) x.2.2.2.2.2.2.2.2.1 + (szT (.l 136 sI4) x.2.2.2.2.2.2.2.2.2.1 + (szT (.i .i64) x.2.2.2.2.2.2.2.2.2.2.1 + (szT (.i .i64) x.2.2.2.2.2.2.2.2.2.2.2.1 + (szT (.l 122 sI6) x.2.2.2.2.2.2.2.2.2.2.2.2.1 + szT (.l 139 sI4) x.2.2.2.2.2.2.2.2.2.2.2.2.2))))))))))))) ≤ 140737488351232 := hz
  have g0 : FleqSky k x.1 x.1 = some true := qleqSky k x.1 (by omega) (by omega)
  have g1 : FleqProgram k x.2.1 x.2.1 = some true := qleqProgram k x.2.1 (by omega) (by omega)
  have g2 : FleqLaw k x.2.2.1 x.2.2.1 = some true := qleqLaw k x.2.2.1 (by omega) (by omega)
  have g3 : FleqIntS k x.2.2.2.1 x.2.2.2.1 = some true := qleqIntS k x.2.2.2.1 (by omega) (by omega)
  have g4 : FleqBatteryS k x.2.2.2.2.1 x.2.2.2.2.1 = some true := qleqBatteryS k x.2.2.2.2.1 (by omega) (by omega)
  have g5 : FleqQueueS k x.2.2.2.2.2.1 x.2.2.2.2.2.1 = some true := qleqQueueS k x.2.2.2.2.2.1 (by omega) (by omega)
  have g6 : FleqFlowS k x.2.2.2.2.2.2.1 x.2.2.2.2.2.2.1 = some true := qleqFlowS k x.2.2.2.2.2.2.1 (by omega) (by omega)
  have g7 : FleqIntS k x.2.2.2.2.2.2.2.1 x.2.2.2.2.2.2.2.1 = some true := qleqIntS k x.2.2.2.2.2.2.2.1 (by omega) (by omega)
  have g8 : FleqStreamS k x.2.2.2.2.2.2.2.2.1 x.2.2.2.2.2.2.2.2.1 = some true := qleqStreamS k x.2.2.2.2.2.2.2.2.1 (by omega) (by omega)
  have g9 : FleqFaultS k x.2.2.2.2.2.2.2.2.2.1 x.2.2.2.2.2.2.2.2.2.1 = some true := qleqFaultS k x.2.2.2.2.2.2.2.2.2.1 (by omega) (by omega)
  have g10 : FleqPacketS k x.2.2.2.2.2.2.2.2.2.2.2.2.1 x.2.2.2.2.2.2.2.2.2.2.2.2.1 = some true := qleqPacketS k x.2.2.2.2.2.2.2.2.2.2.2.2.1 (by omega) (by omega)
  have g11 : FleqSentS k x.2.2.2.2.2.2.2.2.2.2.2.2.2 x.2.2.2.2.2.2.2.2.2.2.2.2.2 = some true := qleqSentS k x.2.2.2.2.2.2.2.2.2.2.2.2.2 (by omega) (by omega)
  refine (eleqWorld k x x).trans ?_
  simp only [g0, g1, g2, g3, g4, g5, g6, g7, g8, g9, g10, g11, Option.bind_some, bne_self_eq_false, beq_self_eq_true, Bool.not_true, Bool.false_eq_true, if_false]
theorem zlszBatteryS (k : Nat) (x : List I6) (left : Int) (hr : rowsLe 140737488351232 (.l 159 sI6) x) (hk : szT (.l 159 sI6) x + 1 < k) (h0 : 0 ≤ left) (h1 : left ≤ 1048576) : FlszBatteryS k x left = some (szR (szT (.l 159 sI6) x) left) := by
  obtain ⟨k, rfl⟩ : ∃ q, k = q + 1 := ⟨k - 1, by omega⟩
  have hl : x.length ≤ 140737488351232 := (rowsLe_row hr).1
  have hz : szT (.l 159 sI6) x = x.length := szT_row (e := 159) (sh := sI6) rfl x
  exact (elszBatteryS k x left).trans ((sz_leaf hl h0 h1).trans (congrArg (fun n => some (szR n left)) hz.symm))
theorem zlszFaultS (k : Nat) (x : List I4) (left : Int) (hr : rowsLe 140737488351232 (.l 165 sI4) x) (hk : szT (.l 165 sI4) x + 1 < k) (h0 : 0 ≤ left) (h1 : left ≤ 1048576) : FlszFaultS k x left = some (szR (szT (.l 165 sI4) x) left) := by
  obtain ⟨k, rfl⟩ : ∃ q, k = q + 1 := ⟨k - 1, by omega⟩
  have hl : x.length ≤ 140737488351232 := (rowsLe_row hr).1
  have hz : szT (.l 165 sI4) x = x.length := szT_row (e := 165) (sh := sI4) rfl x
  exact (elszFaultS k x left).trans ((sz_leaf hl h0 h1).trans (congrArg (fun n => some (szR n left)) hz.symm))
theorem zlszFlowS (k : Nat) (x : List I4) (left : Int) (hr : rowsLe 140737488351232 (.l 162 sI4) x) (hk : szT (.l 162 sI4) x + 1 < k) (h0 : 0 ≤ left) (h1 : left ≤ 1048576) : FlszFlowS k x left = some (szR (szT (.l 162 sI4) x) left) := by
  obtain ⟨k, rfl⟩ : ∃ q, k = q + 1 := ⟨k - 1, by omega⟩
  have hl : x.length ≤ 140737488351232 := (rowsLe_row hr).1
  have hz : szT (.l 162 sI4) x = x.length := szT_row (e := 162) (sh := sI4) rfl x
  exact (elszFlowS k x left).trans ((sz_leaf hl h0 h1).trans (congrArg (fun n => some (szR n left)) hz.symm))
theorem zlszIntS (k : Nat) (x : List Int) (left : Int) (hr : rowsLe 140737488351232 (.l 3 (.i .i64)) x) (hk : szT (.l 3 (.i .i64)) x + 1 < k) (h0 : 0 ≤ left) (h1 : left ≤ 1048576) : FlszIntS k x left = some (szR (szT (.l 3 (.i .i64)) x) left) := by
  obtain ⟨k, rfl⟩ : ∃ q, k = q + 1 := ⟨k - 1, by omega⟩
  have hl : x.length ≤ 140737488351232 := (rowsLe_row hr).1
  have hz : szT (.l 3 (.i .i64)) x = x.length := szT_row (e := 3) (sh := (.i .i64)) rfl x
  exact (elszIntS k x left).trans ((sz_leaf hl h0 h1).trans (congrArg (fun n => some (szR n left)) hz.symm))
theorem zlszLaw (k : Nat) (x : List Int) (left : Int) (hr : rowsLe 140737488351232 sLaw x) (hk : szT sLaw x + 2 < k) (h0 : 0 ≤ left) (h1 : left ≤ 1048576) : FlszLaw k x left = some (szR (szT sLaw x) left) := by
  obtain ⟨k, rfl⟩ : ∃ q, k = q + 1 := ⟨k - 1, by omega⟩
  have hk' : szT (.l 3 (.i .i64)) x + 2 < k + 1 := hk
  have r0 : rowsLe 140737488351232 (.l 3 (.i .i64)) x := hr
  have ht : szT sLaw x = szT (.l 3 (.i .i64)) x + 0 := by
    show szT (.l 3 (.i .i64)) x = _
    omega
  rw [elszLaw, ht]
  exact sz_step (zlszIntS k _ _ r0 (by omega) h0 h1) h0 h1 fun p1 q1 w1 => szR_zero q1
theorem zlszPacketS (k : Nat) (x : List I6) (left : Int) (hr : rowsLe 140737488351232 (.l 167 sI6) x) (hk : szT (.l 167 sI6) x + 1 < k) (h0 : 0 ≤ left) (h1 : left ≤ 1048576) : FlszPacketS k x left = some (szR (szT (.l 167 sI6) x) left) := by
  obtain ⟨k, rfl⟩ : ∃ q, k = q + 1 := ⟨k - 1, by omega⟩
  have hl : x.length ≤ 140737488351232 := (rowsLe_row hr).1
  have hz : szT (.l 167 sI6) x = x.length := szT_row (e := 167) (sh := sI6) rfl x
  exact (elszPacketS k x left).trans ((sz_leaf hl h0 h1).trans (congrArg (fun n => some (szR n left)) hz.symm))
theorem zlszLinkS (k : Nat) (x : List I2) (left : Int) (hr : rowsLe 140737488351232 (.l 220 sI2) x) (hk : szT (.l 220 sI2) x + 1 < k) (h0 : 0 ≤ left) (h1 : left ≤ 1048576) : FlszLinkS k x left = some (szR (szT (.l 220 sI2) x) left) := by
  obtain ⟨k, rfl⟩ : ∃ q, k = q + 1 := ⟨k - 1, by omega⟩
  have hl : x.length ≤ 140737488351232 := (rowsLe_row hr).1
  have hz : szT (.l 220 sI2) x = x.length := szT_row (e := 220) (sh := sI2) rfl x
  exact (elszLinkS k x left).trans ((sz_leaf hl h0 h1).trans (congrArg (fun n => some (szR n left)) hz.symm))
theorem zlszTable (k : Nat) (x : Int × (List Int) × List Int) (left : Int) (hr : rowsLe 140737488351232 sTable x) (hk : szT sTable x + 2 < k) (h0 : 0 ≤ left) (h1 : left ≤ 1048576) : FlszTable k x left = some (szR (szT sTable x) left) := by
  obtain ⟨k, rfl⟩ : ∃ q, k = q + 1 := ⟨k - 1, by omega⟩
  have hk' : (szT (.i .i64) x.1 + (szT (.l 3 (.i .i64)) x.2.1 + szT (.l 3 (.i .i64)) x.2.2)) + 2 < k + 1 := hk
  obtain ⟨r0, r1, r2⟩ : rowsLe 140737488351232 (.i .i64) x.1 ∧ rowsLe 140737488351232 (.l 3 (.i .i64)) x.2.1 ∧ rowsLe 140737488351232 (.l 3 (.i .i64)) x.2.2 := hr
  have f0 : szT (.i .i64) x.1 = 0 := szT_flat _ _ rfl
  have ht : szT sTable x = szT (.l 3 (.i .i64)) x.2.1 + (szT (.l 3 (.i .i64)) x.2.2 + 0) := by
    show (szT (.i .i64) x.1 + (szT (.l 3 (.i .i64)) x.2.1 + szT (.l 3 (.i .i64)) x.2.2)) = _
    omega
  rw [elszTable, ht]
  exact sz_step (zlszIntS k _ _ r1 (by omega) h0 h1) h0 h1 fun p1 q1 w1 => sz_step (zlszIntS k _ _ r2 (by omega) q1 w1) q1 w1 fun p2 q2 w2 => szR_zero q2
theorem zlszTableS (k : Nat) (x : List (Int × (List Int) × List Int)) (left : Int) (hr : rowsLe 140737488351232 (.l 218 sTable) x) (hk : szT (.l 218 sTable) x + 3 < k) (h0 : 0 ≤ left) (h1 : left ≤ 1048576) : FlszTableS k x left = some (szR (szT (.l 218 sTable) x) left) := by
  obtain ⟨k, rfl⟩ : ∃ q, k = q + 1 := ⟨k - 1, by omega⟩
  obtain ⟨hl, hr⟩ : x.length ≤ 140737488351232 ∧ ∀ y ∈ x, rowsLe 140737488351232 sTable y := rowsLe_row hr
  have hk' : x.length + sumL (szT sTable) x + 3 < k + 1 := hk
  have hw : 0 ≤ left - (x.length : Int) → IntKind.i64.wrap (left - (x.length : Int)) = left - x.length := fun _ => wrap_id (by omega) (by omega)
  refine (elszTableS k x left).trans (sz_rows (α := Int × (List Int) × List Int) (s := szT sTable) hl h0 h1 fun hp => ?_)
  rw [hw hp]
  have := szS_loop2 (L := LlszTableS_0 k _ _ x) (f := fun y p => FlszTable k y p) (fun _ _ => rfl) (neg := some (-1)) (fin := fun p => some p) (fun _ _ _ => rfl) (fun _ => rfl) (s := szT sTable) (a := x) (fun y hy p q0 q1 => zlszTable k y p (hr y hy) (by have := sumL_le (f := szT sTable) hy; omega) q0 q1) hl x.length k 0 (left - x.length) (by omega) (by omega) (by omega) (by omega)
  exact this
theorem zlszPiece (k : Nat) (x : I2 × (List I2) × List (Int × (List Int) × List Int)) (left : Int) (hr : rowsLe 140737488351232 sLPiece x) (hk : szT sLPiece x + 4 < k) (h0 : 0 ≤ left) (h1 : left ≤ 1048576) : FlszPiece k x left = some (szR (szT sLPiece x) left) := by
  obtain ⟨k, rfl⟩ : ∃ q, k = q + 1 := ⟨k - 1, by omega⟩
  have hk' : (szT sI2 x.1 + (szT (.l 220 sI2) x.2.1 + szT (.l 218 sTable) x.2.2)) + 4 < k + 1 := hk
  obtain ⟨r0, r1, r2⟩ : rowsLe 140737488351232 sI2 x.1 ∧ rowsLe 140737488351232 (.l 220 sI2) x.2.1 ∧ rowsLe 140737488351232 (.l 218 sTable) x.2.2 := hr
  have f0 : szT sI2 x.1 = 0 := szT_flat _ _ rfl
  have ht : szT sLPiece x = szT (.l 220 sI2) x.2.1 + (szT (.l 218 sTable) x.2.2 + 0) := by
    show (szT sI2 x.1 + (szT (.l 220 sI2) x.2.1 + szT (.l 218 sTable) x.2.2)) = _
    omega
  rw [elszPiece, ht]
  exact sz_step (zlszLinkS k _ _ r1 (by omega) h0 h1) h0 h1 fun p1 q1 w1 => sz_step (zlszTableS k _ _ r2 (by omega) q1 w1) q1 w1 fun p2 q2 w2 => szR_zero q2
theorem zlszPieceS (k : Nat) (x : List (I2 × (List I2) × List (Int × (List Int) × List Int))) (left : Int) (hr : rowsLe 140737488351232 (.l 183 sLPiece) x) (hk : szT (.l 183 sLPiece) x + 5 < k) (h0 : 0 ≤ left) (h1 : left ≤ 1048576) : FlszPieceS k x left = some (szR (szT (.l 183 sLPiece) x) left) := by
  obtain ⟨k, rfl⟩ : ∃ q, k = q + 1 := ⟨k - 1, by omega⟩
  obtain ⟨hl, hr⟩ : x.length ≤ 140737488351232 ∧ ∀ y ∈ x, rowsLe 140737488351232 sLPiece y := rowsLe_row hr
  have hk' : x.length + sumL (szT sLPiece) x + 5 < k + 1 := hk
  have hw : 0 ≤ left - (x.length : Int) → IntKind.i64.wrap (left - (x.length : Int)) = left - x.length := fun _ => wrap_id (by omega) (by omega)
  refine (elszPieceS k x left).trans (sz_rows (α := I2 × (List I2) × List (Int × (List Int) × List Int)) (s := szT sLPiece) hl h0 h1 fun hp => ?_)
  rw [hw hp]
  have := szS_loop2 (L := LlszPieceS_0 k _ _ x) (f := fun y p => FlszPiece k y p) (fun _ _ => rfl) (neg := some (-1)) (fin := fun p => some p) (fun _ _ _ => rfl) (fun _ => rfl) (s := szT sLPiece) (a := x) (fun y hy p q0 q1 => zlszPiece k y p (hr y hy) (by have := sumL_le (f := szT sLPiece) hy; omega) q0 q1) hl x.length k 0 (left - x.length) (by omega) (by omega) (by omega) (by omega)
  exact this
theorem zlszProgram (k : Nat) (x : Int × Int × Int × List (I2 × (List I2) × List (Int × (List Int) × List Int))) (left : Int) (hr : rowsLe 140737488351232 sLProgram x) (hk : szT sLProgram x + 6 < k) (h0 : 0 ≤ left) (h1 : left ≤ 1048576) : FlszProgram k x left = some (szR (szT sLProgram x) left) := by
  obtain ⟨k, rfl⟩ : ∃ q, k = q + 1 := ⟨k - 1, by omega⟩
  have hk' : (szT (.i .i64) x.1 + (szT (.i .i64) x.2.1 + (szT (.i .i64) x.2.2.1 + szT (.l 183 sLPiece) x.2.2.2))) + 6 < k + 1 := hk
  obtain ⟨r0, r1, r2, r3⟩ : rowsLe 140737488351232 (.i .i64) x.1 ∧ rowsLe 140737488351232 (.i .i64) x.2.1 ∧ rowsLe 140737488351232 (.i .i64) x.2.2.1 ∧ rowsLe 140737488351232 (.l 183 sLPiece) x.2.2.2 := hr
  have f0 : szT (.i .i64) x.1 = 0 := szT_flat _ _ rfl
  have f1 : szT (.i .i64) x.2.1 = 0 := szT_flat _ _ rfl
  have f2 : szT (.i .i64) x.2.2.1 = 0 := szT_flat _ _ rfl
  have ht : szT sLProgram x = szT (.l 183 sLPiece) x.2.2.2 + 0 := by
    show (szT (.i .i64) x.1 + (szT (.i .i64) x.2.1 + (szT (.i .i64) x.2.2.1 + szT (.l 183 sLPiece) x.2.2.2))) = _
    omega
  rw [elszProgram, ht]
  exact sz_step (zlszPieceS k _ _ r3 (by omega) h0 h1) h0 h1 fun p1 q1 w1 => szR_zero q1
theorem zlszQueue (k : Nat) (x : List I6) (left : Int) (hr : rowsLe 140737488351232 sLQueue x) (hk : szT sLQueue x + 2 < k) (h0 : 0 ≤ left) (h1 : left ≤ 1048576) : FlszQueue k x left = some (szR (szT sLQueue x) left) := by
  obtain ⟨k, rfl⟩ : ∃ q, k = q + 1 := ⟨k - 1, by omega⟩
  have hk' : szT (.l 167 sI6) x + 2 < k + 1 := hk
  have r0 : rowsLe 140737488351232 (.l 167 sI6) x := hr
  have ht : szT sLQueue x = szT (.l 167 sI6) x + 0 := by
    show szT (.l 167 sI6) x = _
    omega
  rw [elszQueue, ht]
  exact sz_step (zlszPacketS k _ _ r0 (by omega) h0 h1) h0 h1 fun p1 q1 w1 => szR_zero q1
theorem zlszQueueS (k : Nat) (x : List (List I6)) (left : Int) (hr : rowsLe 140737488351232 (.l 151 sLQueue) x) (hk : szT (.l 151 sLQueue) x + 3 < k) (h0 : 0 ≤ left) (h1 : left ≤ 1048576) : FlszQueueS k x left = some (szR (szT (.l 151 sLQueue) x) left) := by
  obtain ⟨k, rfl⟩ : ∃ q, k = q + 1 := ⟨k - 1, by omega⟩
  obtain ⟨hl, hr⟩ : x.length ≤ 140737488351232 ∧ ∀ y ∈ x, rowsLe 140737488351232 sLQueue y := rowsLe_row hr
  have hk' : x.length + sumL (szT sLQueue) x + 3 < k + 1 := hk
  have hw : 0 ≤ left - (x.length : Int) → IntKind.i64.wrap (left - (x.length : Int)) = left - x.length := fun _ => wrap_id (by omega) (by omega)
  refine (elszQueueS k x left).trans (sz_rows (α := List I6) (s := szT sLQueue) hl h0 h1 fun hp => ?_)
  rw [hw hp]
  have := szS_loop2 (L := LlszQueueS_0 k _ _ x) (f := fun y p => FlszQueue k y p) (fun _ _ => rfl) (neg := some (-1)) (fin := fun p => some p) (fun _ _ _ => rfl) (fun _ => rfl) (s := szT sLQueue) (a := x) (fun y hy p q0 q1 => zlszQueue k y p (hr y hy) (by have := sumL_le (f := szT sLQueue) hy; omega) q0 q1) hl x.length k 0 (left - x.length) (by omega) (by omega) (by omega) (by omega)
  exact this
theorem zlszSentS (k : Nat) (x : List I4) (left : Int) (hr : rowsLe 140737488351232 (.l 169 sI4) x) (hk : szT (.l 169 sI4) x + 1 < k) (h0 : 0 ≤ left) (h1 : left ≤ 1048576) : FlszSentS k x left = some (szR (szT (.l 169 sI4) x) left) := by
  obtain ⟨k, rfl⟩ : ∃ q, k = q + 1 := ⟨k - 1, by omega⟩
  have hl : x.length ≤ 140737488351232 := (rowsLe_row hr).1
  have hz : szT (.l 169 sI4) x = x.length := szT_row (e := 169) (sh := sI4) rfl x
  exact (elszSentS k x left).trans ((sz_leaf hl h0 h1).trans (congrArg (fun n => some (szR n left)) hz.symm))
theorem zlszSatS (k : Nat) (x : List I4) (left : Int) (hr : rowsLe 140737488351232 (.l 185 sI4) x) (hk : szT (.l 185 sI4) x + 1 < k) (h0 : 0 ≤ left) (h1 : left ≤ 1048576) : FlszSatS k x left = some (szR (szT (.l 185 sI4) x) left) := by
  obtain ⟨k, rfl⟩ : ∃ q, k = q + 1 := ⟨k - 1, by omega⟩
  have hl : x.length ≤ 140737488351232 := (rowsLe_row hr).1
  have hz : szT (.l 185 sI4) x = x.length := szT_row (e := 185) (sh := sI4) rfl x
  exact (elszSatS k x left).trans ((sz_leaf hl h0 h1).trans (congrArg (fun n => some (szR n left)) hz.symm))
theorem zlszSiteS (k : Nat) (x : List I3) (left : Int) (hr : rowsLe 140737488351232 (.l 187 sI3) x) (hk : szT (.l 187 sI3) x + 1 < k) (h0 : 0 ≤ left) (h1 : left ≤ 1048576) : FlszSiteS k x left = some (szR (szT (.l 187 sI3) x) left) := by
  obtain ⟨k, rfl⟩ : ∃ q, k = q + 1 := ⟨k - 1, by omega⟩
  have hl : x.length ≤ 140737488351232 := (rowsLe_row hr).1
  have hz : szT (.l 187 sI3) x = x.length := szT_row (e := 187) (sh := sI3) rfl x
  exact (elszSiteS k x left).trans ((sz_leaf hl h0 h1).trans (congrArg (fun n => some (szR n left)) hz.symm))
theorem zlszZoneS (k : Nat) (x : List I3) (left : Int) (hr : rowsLe 140737488351232 (.l 191 sZone) x) (hk : szT (.l 191 sZone) x + 1 < k) (h0 : 0 ≤ left) (h1 : left ≤ 1048576) : FlszZoneS k x left = some (szR (szT (.l 191 sZone) x) left) := by
  obtain ⟨k, rfl⟩ : ∃ q, k = q + 1 := ⟨k - 1, by omega⟩
  have hl : x.length ≤ 140737488351232 := (rowsLe_row hr).1
  have hz : szT (.l 191 sZone) x = x.length := szT_row (e := 191) (sh := sZone) rfl x
  exact (elszZoneS k x left).trans ((sz_leaf hl h0 h1).trans (congrArg (fun n => some (szR n left)) hz.symm))
theorem zlszSky (k : Nat) (x : Int × (List I4) × (List I3) × Int × Int × Int × Int × Int × (List I3) × Int) (left : Int) (hr : rowsLe 140737488351232 sLSky x) (hk : szT sLSky x + 2 < k) (h0 : 0 ≤ left) (h1 : left ≤ 1048576) : FlszSky k x left = some (szR (szT sLSky x) left) := by
  obtain ⟨k, rfl⟩ : ∃ q, k = q + 1 := ⟨k - 1, by omega⟩
  have hk' : (szT (.i .i64) x.1 + (szT (.l 185 sI4) x.2.1 + (szT (.l 187 sI3) x.2.2.1 + (szT (.i .i64) x.2.2.2.1 + (szT (.i .i64) x.2.2.2.2.1 + (szT (.i .i64) x.2.2.2.2.2.1 + (szT (.i .i64) x.2.2.2.2.2.2.1 + (szT (.i .i64) x.2.2.2.2.2.2.2.1 + (szT (.l 191 sZone) x.2.2.2.2.2.2.2.2.1 + szT (.i .i64) x.2.2.2.2.2.2.2.2.2))))))))) + 2 < k + 1 := hk
  obtain ⟨r0, r1, r2, r3, r4, r5, r6, r7, r8, r9⟩ : rowsLe 140737488351232 (.i .i64) x.1 ∧ rowsLe 140737488351232 (.l 185 sI4) x.2.1 ∧ rowsLe 140737488351232 (.l 187 sI3) x.2.2.1 ∧ rowsLe 140737488351232 (.i .i64) x.2.2.2.1 ∧ rowsLe 140737488351232 (.i .i64) x.2.2.2.2.1 ∧ rowsLe 140737488351232 (.i .i64) x.2.2.2.2.2.1 ∧ rowsLe 140737488351232 (.i .i64) x.2.2.2.2.2.2.1 ∧ rowsLe 140737488351232 (.i .i64) x.2.2.2.2.2.2.2.1 ∧ rowsLe 140737488351232 (.l 191 sZone) x.2.2.2.2.2.2.2.2.1 ∧ rowsLe 140737488351232 (.i .i64) x.2.2.2.2.2.2.2.2.2 := hr
  have f0 : szT (.i .i64) x.1 = 0 := szT_flat _ _ rfl
  have f3 : szT (.i .i64) x.2.2.2.1 = 0 := szT_flat _ _ rfl
  have f4 : szT (.i .i64) x.2.2.2.2.1 = 0 := szT_flat _ _ rfl
  have f5 : szT (.i .i64) x.2.2.2.2.2.1 = 0 := szT_flat _ _ rfl
  have f6 : szT (.i .i64) x.2.2.2.2.2.2.1 = 0 := szT_flat _ _ rfl
  have f7 : szT (.i .i64) x.2.2.2.2.2.2.2.1 = 0 := szT_flat _ _ rfl
  have f9 : szT (.i .i64) x.2.2.2.2.2.2.2.2.2 = 0 := szT_flat _ _ rfl
  have ht : szT sLSky x = szT (.l 185 sI4) x.2.1 + (szT (.l 187 sI3) x.2.2.1 + (szT (.l 191 sZone) x.2.2.2.2.2.2.2.2.1 + 0)) := by
    show (szT (.i .i64) x.1 + (szT (.l 185 sI4) x.2.1 + (szT (.l 187 sI3) x.2.2.1 + (szT (.i .i64) x.2.2.2.1 + (szT (.i .i64) x.2.2.2.2.1 + (szT (.i .i64) x.2.2.2.2.2.1 + (szT (.i .i64) x.2.2.2.2.2.2.1 + (szT (.i .i64) x.2.2.2.2.2.2.2.1 + (szT (.l 191 sZone) x.2.2.2.2.2.2.2.2.1 + szT (.i .i64) x.2.2.2.2.2.2.2.2.2))))))))) = _
    omega
  rw [elszSky, ht]
  exact sz_step (zlszSatS k _ _ r1 (by omega) h0 h1) h0 h1 fun p1 q1 w1 => sz_step (zlszSiteS k _ _ r2 (by omega) q1 w1) q1 w1 fun p2 q2 w2 => sz_step (zlszZoneS k _ _ r8 (by omega) q2 w2) q2 w2 fun p3 q3 w3 => szR_zero q3
theorem zlszStream (k : Nat) (x : Int × Int × List Int) (left : Int) (hr : rowsLe 140737488351232 sStream x) (hk : szT sStream x + 2 < k) (h0 : 0 ≤ left) (h1 : left ≤ 1048576) : FlszStream k x left = some (szR (szT sStream x) left) := by
  obtain ⟨k, rfl⟩ : ∃ q, k = q + 1 := ⟨k - 1, by omega⟩
  have hk' : (szT (.i .i64) x.1 + (szT (.i .i64) x.2.1 + szT (.l 3 (.i .i64)) x.2.2)) + 2 < k + 1 := hk
  obtain ⟨r0, r1, r2⟩ : rowsLe 140737488351232 (.i .i64) x.1 ∧ rowsLe 140737488351232 (.i .i64) x.2.1 ∧ rowsLe 140737488351232 (.l 3 (.i .i64)) x.2.2 := hr
  have f0 : szT (.i .i64) x.1 = 0 := szT_flat _ _ rfl
  have f1 : szT (.i .i64) x.2.1 = 0 := szT_flat _ _ rfl
  have ht : szT sStream x = szT (.l 3 (.i .i64)) x.2.2 + 0 := by
    show (szT (.i .i64) x.1 + (szT (.i .i64) x.2.1 + szT (.l 3 (.i .i64)) x.2.2)) = _
    omega
  rw [elszStream, ht]
  exact sz_step (zlszIntS k _ _ r2 (by omega) h0 h1) h0 h1 fun p1 q1 w1 => szR_zero q1
theorem zlszStreamS (k : Nat) (x : List (Int × Int × List Int)) (left : Int) (hr : rowsLe 140737488351232 (.l 153 sStream) x) (hk : szT (.l 153 sStream) x + 3 < k) (h0 : 0 ≤ left) (h1 : left ≤ 1048576) : FlszStreamS k x left = some (szR (szT (.l 153 sStream) x) left) := by
  obtain ⟨k, rfl⟩ : ∃ q, k = q + 1 := ⟨k - 1, by omega⟩
  obtain ⟨hl, hr⟩ : x.length ≤ 140737488351232 ∧ ∀ y ∈ x, rowsLe 140737488351232 sStream y := rowsLe_row hr
  have hk' : x.length + sumL (szT sStream) x + 3 < k + 1 := hk
  have hw : 0 ≤ left - (x.length : Int) → IntKind.i64.wrap (left - (x.length : Int)) = left - x.length := fun _ => wrap_id (by omega) (by omega)
  refine (elszStreamS k x left).trans (sz_rows (α := Int × Int × List Int) (s := szT sStream) hl h0 h1 fun hp => ?_)
  rw [hw hp]
  have := szS_loop2 (L := LlszStreamS_0 k _ _ x) (f := fun y p => FlszStream k y p) (fun _ _ => rfl) (neg := some (-1)) (fin := fun p => some p) (fun _ _ _ => rfl) (fun _ => rfl) (s := szT sStream) (a := x) (fun y hy p q0 q1 => zlszStream k y p (hr y hy) (by have := sumL_le (f := szT sStream) hy; omega) q0 q1) hl x.length k 0 (left - x.length) (by omega) (by omega) (by omega) (by omega)
  exact this
theorem zlszWorld (k : Nat) (x : (Int × (List I4) × (List I3) × Int × Int × Int × Int × Int × (List I3) × Int) × (Int × Int × Int × List (I2 × (List I2) × List (Int × (List Int) × List Int))) × (List Int) × (List Int) × (List I6) × (List (List I6)) × (List I4) × (List Int) × (List (Int × Int × List Int)) × (List I4) × Int × Int × (List I6) × List I4) (left : Int) (hr : rowsLe 140737488351232 sLWorld x) (hk : szT sLWorld x + 7 < k) (h0 : 0 ≤ left) (h1 : left ≤ 1048576) : FlszWorld k x left = some (szR (szT sLWorld x) left) := by
  obtain ⟨k, rfl⟩ : ∃ q, k = q + 1 := ⟨k - 1, by omega⟩
  have hk' : (szT sLSky x.1 + (szT sLProgram x.2.1 + (szT sLaw x.2.2.1 + (szT (.l 3 (.i .i64)) x.2.2.2.1 + (szT (.l 159 sI6) x.2.2.2.2.1 + (szT (.l 151 sLQueue) x.2.2.2.2.2.1 + (szT (.l 162 sI4) x.2.2.2.2.2.2.1 + (szT (.l 3 (.i .i64)) x.2.2.2.2.2.2.2.1 + (szT (.l 153 sStream) x.2.2.2.2.2.2.2.2.1 + (szT (.l 165 sI4) x.2.2.2.2.2.2.2.2.2.1 + (szT (.i .i64) x.2.2.2.2.2.2.2.2.2.2.1 + (szT (.i .i64) x.2.2.2.2.2.2.2.2.2.2.2.1 + (szT (.l 167 sI6) x.2.2.2.2.2.2.2.2.2.2.2.2.1 + szT (.l 169 sI4) x.2.2.2.2.2.2.2.2.2.2.2.2.2))))))))))))) + 7 < k + 1 := hk
  obtain ⟨r0, r1, r2, r3, r4, r5, r6, r7, r8, r9, r10, r11, r12, r13⟩ : rowsLe 140737488351232 sLSky x.1 ∧ rowsLe 140737488351232 sLProgram x.2.1 ∧ rowsLe 140737488351232 sLaw x.2.2.1 ∧ rowsLe 140737488351232 (.l 3 (.i .i64)) x.2.2.2.1 ∧ rowsLe 140737488351232 (.l 159 sI6) x.2.2.2.2.1 ∧ rowsLe 140737488351232 (.l 151 sLQueue) x.2.2.2.2.2.1 ∧ rowsLe 140737488351232 (.l 162 sI4) x.2.2.2.2.2.2.1 ∧ rowsLe 140737488351232 (.l 3 (.i .i64)) x.2.2.2.2.2.2.2.1 ∧ rowsLe 140737488351232 (.l 153 sStream) x.2.2.2.2.2.2.2.2.1 ∧ rowsLe 140737488351232 (.l 165 sI4) x.2.2.2.2.2.2.2.2.2.1 ∧ rowsLe 140737488351232 (.i .i64) x.2.2.2.2.2.2.2.2.2.2.1 ∧ rowsLe 140737488351232 (.i .i64) x.2.2.2.2.2.2.2.2.2.2.2.1 ∧ rowsLe 140737488351232 (.l 167 sI6) x.2.2.2.2.2.2.2.2.2.2.2.2.1 ∧ rowsLe 140737488351232 (.l 169 sI4) x.2.2.2.2.2.2.2.2.2.2.2.2.2 := hr
  have f10 : szT (.i .i64) x.2.2.2.2.2.2.2.2.2.2.1 = 0 := szT_flat _ _ rfl
  have f11 : szT (.i .i64) x.2.2.2.2.2.2.2.2.2.2.2.1 = 0 := szT_flat _ _ rfl
  have ht : szT sLWorld x = szT sLSky x.1 + (szT sLProgram x.2.1 + (szT sLaw x.2.2.1 + (szT (.l 3 (.i .i64)) x.2.2.2.1 + (szT (.l 159 sI6) x.2.2.2.2.1 + (szT (.l 151 sLQueue) x.2.2.2.2.2.1 + (szT (.l 162 sI4) x.2.2.2.2.2.2.1 + (szT (.l 3 (.i .i64)) x.2.2.2.2.2.2.2.1 + (szT (.l 153 sStream) x.2.2.2.2.2.2.2.2.1 + (szT (.l 165 sI4) x.2.2.2.2.2.2.2.2.2.1 + (szT (.l 167 sI6) x.2.2.2.2.2.2.2.2.2.2.2.2.1 + (szT (.l 169 sI4) x.2.2.2.2.2.2.2.2.2.2.2.2.2 + 0))))))))))) := by
    show (szT sLSky x.1 + (szT sLProgram x.2.1 + (szT sLaw x.2.2.1 + (szT (.l 3 (.i .i64)) x.2.2.2.1 + (szT (.l 159 sI6) x.2.2.2.2.1 + (szT (.l 151 sLQueue) x.2.2.2.2.2.1 + (szT (.l 162 sI4) x.2.2.2.2.2.2.1 + (szT (.l 3 (.i .i64)) x.2.2.2.2.2.2.2.1 + (szT (.l 153 sStream) x.2.2.2.2.2.2.2.2.1 + (szT (.l 165 sI4) x.2.2.2.2.2.2.2.2.2.1 + (szT (.i .i64) x.2.2.2.2.2.2.2.2.2.2.1 + (szT (.i .i64) x.2.2.2.2.2.2.2.2.2.2.2.1 + (szT (.l 167 sI6) x.2.2.2.2.2.2.2.2.2.2.2.2.1 + szT (.l 169 sI4) x.2.2.2.2.2.2.2.2.2.2.2.2.2))))))))))))) = _
    omega
  rw [elszWorld, ht]
  exact sz_step (zlszSky k _ _ r0 (by omega) h0 h1) h0 h1 fun p1 q1 w1 => sz_step (zlszProgram k _ _ r1 (by omega) q1 w1) q1 w1 fun p2 q2 w2 => sz_step (zlszLaw k _ _ r2 (by omega) q2 w2) q2 w2 fun p3 q3 w3 => sz_step (zlszIntS k _ _ r3 (by omega) q3 w3) q3 w3 fun p4 q4 w4 => sz_step (zlszBatteryS k _ _ r4 (by omega) q4 w4) q4 w4 fun p5 q5 w5 => sz_step (zlszQueueS k _ _ r5 (by omega) q5 w5) q5 w5 fun p6 q6 w6 => sz_step (zlszFlowS k _ _ r6 (by omega) q6 w6) q6 w6 fun p7 q7 w7 => sz_step (zlszIntS k _ _ r7 (by omega) q7 w7) q7 w7 fun p8 q8 w8 => sz_step (zlszStreamS k _ _ r8 (by omega) q8 w8) q8 w8 fun p9 q9 w9 => sz_step (zlszFaultS k _ _ r9 (by omega) q9 w9) q9 w9 fun p10 q10 w10 => sz_step (zlszPacketS k _ _ r12 (by omega) q10 w10) q10 w10 fun p11 q11 w11 => sz_step (zlszSentS k _ _ r13 (by omega) q11 w11) q11 w11 fun p12 q12 w12 => szR_zero q12
theorem tltoBattery (k : Nat) (x : I6) (hz : szT sI6 x ≤ 1048576) (hk : szT sI6 x + 1 < k) : FltoBattery k x = some x := by
  obtain ⟨k, rfl⟩ : ∃ q, k = q + 1 := ⟨k - 1, by omega⟩
  have hk' : (szT (.i .i64) x.1 + (szT (.i .i64) x.2.1 + (szT (.i .i64) x.2.2.1 + (szT (.i .i64) x.2.2.2.1 + (szT (.i .i64) x.2.2.2.2.1 + szT (.i .i64) x.2.2.2.2.2))))) + 1 < k + 1 := hk
  have hz' : (szT (.i .i64) x.1 + (szT (.i .i64) x.2.1 + (szT (.i .i64) x.2.2.1 + (szT (.i .i64) x.2.2.2.1 + (szT (.i .i64) x.2.2.2.2.1 + szT (.i .i64) x.2.2.2.2.2))))) ≤ 1048576 := hz
  exact eltoBattery k x
theorem tltoBatteryS (k : Nat) (x : List I6) (hz : szT (.l 159 sI6) x ≤ 1048576) (hk : szT (.l 159 sI6) x + 2 < k) : FltoBatteryS k x = some x := by
  obtain ⟨k, rfl⟩ : ∃ q, k = q + 1 := ⟨k - 1, by omega⟩
  have hk' : x.length + sumL (szT sI6) x + 2 < k + 1 := hk
  have hz' : x.length + sumL (szT sI6) x ≤ 1048576 := hz
  refine (eltoBatteryS k x).trans ?_
  rw [if_pos (beq_self_eq_true _), if_pos (by omega), if_pos (by simp; omega)]
  exact toS_loop2 (α := Int × Int × Int × Int × Int × Int) (L := LltoBatteryS_0 k _ x) (f := fun y => FltoBattery k y) (fun _ _ => rfl) (a := x) (fun y hy => tltoBattery k y (by have := sumL_le (f := szT sI6) hy; omega) (by have := sumL_le (f := szT sI6) hy; omega)) (by omega) x.length k 0 _ (by omega) (by omega) (by simp) (by simp)
theorem tltoFault (k : Nat) (x : I4) (hz : szT sI4 x ≤ 1048576) (hk : szT sI4 x + 1 < k) : FltoFault k x = some x := by
  obtain ⟨k, rfl⟩ : ∃ q, k = q + 1 := ⟨k - 1, by omega⟩
  have hk' : (szT (.i .i64) x.1 + (szT (.i .i64) x.2.1 + (szT (.i .i64) x.2.2.1 + szT (.i .i64) x.2.2.2))) + 1 < k + 1 := hk
  have hz' : (szT (.i .i64) x.1 + (szT (.i .i64) x.2.1 + (szT (.i .i64) x.2.2.1 + szT (.i .i64) x.2.2.2))) ≤ 1048576 := hz
  exact eltoFault k x
theorem tltoFaultS (k : Nat) (x : List I4) (hz : szT (.l 165 sI4) x ≤ 1048576) (hk : szT (.l 165 sI4) x + 2 < k) : FltoFaultS k x = some x := by
  obtain ⟨k, rfl⟩ : ∃ q, k = q + 1 := ⟨k - 1, by omega⟩
  have hk' : x.length + sumL (szT sI4) x + 2 < k + 1 := hk
  have hz' : x.length + sumL (szT sI4) x ≤ 1048576 := hz
  refine (eltoFaultS k x).trans ?_
  rw [if_pos (beq_self_eq_true _), if_pos (by omega), if_pos (by simp; omega)]
  exact toS_loop2 (α := Int × Int × Int × Int) (L := LltoFaultS_0 k _ x) (f := fun y => FltoFault k y) (fun _ _ => rfl) (a := x) (fun y hy => tltoFault k y (by have := sumL_le (f := szT sI4) hy; omega) (by have := sumL_le (f := szT sI4) hy; omega)) (by omega) x.length k 0 _ (by omega) (by omega) (by simp) (by simp)
theorem tltoFlow (k : Nat) (x : I4) (hz : szT sI4 x ≤ 1048576) (hk : szT sI4 x + 1 < k) : FltoFlow k x = some x := by
  obtain ⟨k, rfl⟩ : ∃ q, k = q + 1 := ⟨k - 1, by omega⟩
  have hk' : (szT (.i .i64) x.1 + (szT (.i .i64) x.2.1 + (szT (.i .i64) x.2.2.1 + szT (.i .i64) x.2.2.2))) + 1 < k + 1 := hk
  have hz' : (szT (.i .i64) x.1 + (szT (.i .i64) x.2.1 + (szT (.i .i64) x.2.2.1 + szT (.i .i64) x.2.2.2))) ≤ 1048576 := hz
  exact eltoFlow k x
theorem tltoFlowS (k : Nat) (x : List I4) (hz : szT (.l 162 sI4) x ≤ 1048576) (hk : szT (.l 162 sI4) x + 2 < k) : FltoFlowS k x = some x := by
  obtain ⟨k, rfl⟩ : ∃ q, k = q + 1 := ⟨k - 1, by omega⟩
  have hk' : x.length + sumL (szT sI4) x + 2 < k + 1 := hk
  have hz' : x.length + sumL (szT sI4) x ≤ 1048576 := hz
  refine (eltoFlowS k x).trans ?_
  rw [if_pos (beq_self_eq_true _), if_pos (by omega), if_pos (by simp; omega)]
  exact toS_loop2 (α := Int × Int × Int × Int) (L := LltoFlowS_0 k _ x) (f := fun y => FltoFlow k y) (fun _ _ => rfl) (a := x) (fun y hy => tltoFlow k y (by have := sumL_le (f := szT sI4) hy; omega) (by have := sumL_le (f := szT sI4) hy; omega)) (by omega) x.length k 0 _ (by omega) (by omega) (by simp) (by simp)
theorem tltoIntS (k : Nat) (x : List Int) (hz : szT (.l 3 (.i .i64)) x ≤ 1048576) (hk : szT (.l 3 (.i .i64)) x + 1 < k) : FltoIntS k x = some x := by
  obtain ⟨k, rfl⟩ : ∃ q, k = q + 1 := ⟨k - 1, by omega⟩
  have hk' : x.length + sumL (szT (.i .i64)) x + 1 < k + 1 := hk
  have hz' : x.length + sumL (szT (.i .i64)) x ≤ 1048576 := hz
  refine (eltoIntS k x).trans ?_
  rw [if_pos (beq_self_eq_true _), if_pos (by omega), if_pos (by simp; omega)]
  exact toS_loop2 (α := Int) (L := LltoIntS_0 k _ x) (f := fun y => some y) (fun _ _ => rfl) (a := x) (fun _ _ => rfl) (by omega) x.length k 0 _ (by omega) (by omega) (by simp) (by simp)
theorem tltoLaw (k : Nat) (x : List Int) (hz : szT sLaw x ≤ 1048576) (hk : szT sLaw x + 2 < k) : FltoLaw k x = some x := by
  obtain ⟨k, rfl⟩ : ∃ q, k = q + 1 := ⟨k - 1, by omega⟩
  have hk' : szT (.l 3 (.i .i64)) x + 2 < k + 1 := hk
  have hz' : szT (.l 3 (.i .i64)) x ≤ 1048576 := hz
  have g0 : FltoIntS k x = some x := tltoIntS k x (by omega) (by omega)
  refine (eltoLaw k x).trans ?_
  simp only [g0, Option.bind_some, bne_self_eq_false, beq_self_eq_true, Bool.not_true, Bool.false_eq_true, if_false]
theorem tltoPacket (k : Nat) (x : I6) (hz : szT sI6 x ≤ 1048576) (hk : szT sI6 x + 1 < k) : FltoPacket k x = some x := by
  obtain ⟨k, rfl⟩ : ∃ q, k = q + 1 := ⟨k - 1, by omega⟩
  have hk' : (szT (.i .i64) x.1 + (szT (.i .i64) x.2.1 + (szT (.i .i64) x.2.2.1 + (szT (.i .i64) x.2.2.2.1 + (szT (.i .i64) x.2.2.2.2.1 + szT (.i .i64) x.2.2.2.2.2))))) + 1 < k + 1 := hk
  have hz' : (szT (.i .i64) x.1 + (szT (.i .i64) x.2.1 + (szT (.i .i64) x.2.2.1 + (szT (.i .i64) x.2.2.2.1 + (szT (.i .i64) x.2.2.2.2.1 + szT (.i .i64) x.2.2.2.2.2))))) ≤ 1048576 := hz
  exact eltoPacket k x
theorem tltoPacketS (k : Nat) (x : List I6) (hz : szT (.l 167 sI6) x ≤ 1048576) (hk : szT (.l 167 sI6) x + 2 < k) : FltoPacketS k x = some x := by
  obtain ⟨k, rfl⟩ : ∃ q, k = q + 1 := ⟨k - 1, by omega⟩
  have hk' : x.length + sumL (szT sI6) x + 2 < k + 1 := hk
  have hz' : x.length + sumL (szT sI6) x ≤ 1048576 := hz
  refine (eltoPacketS k x).trans ?_
  rw [if_pos (beq_self_eq_true _), if_pos (by omega), if_pos (by simp; omega)]
  exact toS_loop2 (α := Int × Int × Int × Int × Int × Int) (L := LltoPacketS_0 k _ x) (f := fun y => FltoPacket k y) (fun _ _ => rfl) (a := x) (fun y hy => tltoPacket k y (by have := sumL_le (f := szT sI6) hy; omega) (by have := sumL_le (f := szT sI6) hy; omega)) (by omega) x.length k 0 _ (by omega) (by omega) (by simp) (by simp)
theorem tltoLink (k : Nat) (x : I2) (hz : szT sI2 x ≤ 1048576) (hk : szT sI2 x + 1 < k) : FltoLink k x = some x := by
  obtain ⟨k, rfl⟩ : ∃ q, k = q + 1 := ⟨k - 1, by omega⟩
  have hk' : (szT (.i .i64) x.1 + szT (.i .i64) x.2) + 1 < k + 1 := hk
  have hz' : (szT (.i .i64) x.1 + szT (.i .i64) x.2) ≤ 1048576 := hz
  exact eltoLink k x
theorem tltoLinkS (k : Nat) (x : List I2) (hz : szT (.l 220 sI2) x ≤ 1048576) (hk : szT (.l 220 sI2) x + 2 < k) : FltoLinkS k x = some x := by
  obtain ⟨k, rfl⟩ : ∃ q, k = q + 1 := ⟨k - 1, by omega⟩
  have hk' : x.length + sumL (szT sI2) x + 2 < k + 1 := hk
  have hz' : x.length + sumL (szT sI2) x ≤ 1048576 := hz
  refine (eltoLinkS k x).trans ?_
  rw [if_pos (beq_self_eq_true _), if_pos (by omega), if_pos (by simp; omega)]
  exact toS_loop2 (α := Int × Int) (L := LltoLinkS_0 k _ x) (f := fun y => FltoLink k y) (fun _ _ => rfl) (a := x) (fun y hy => tltoLink k y (by have := sumL_le (f := szT sI2) hy; omega) (by have := sumL_le (f := szT sI2) hy; omega)) (by omega) x.length k 0 _ (by omega) (by omega) (by simp) (by simp)
theorem tltoSpan (k : Nat) (x : I2) (hz : szT sI2 x ≤ 1048576) (hk : szT sI2 x + 1 < k) : FltoSpan k x = some x := by
  obtain ⟨k, rfl⟩ : ∃ q, k = q + 1 := ⟨k - 1, by omega⟩
  have hk' : (szT (.i .i64) x.1 + szT (.i .i64) x.2) + 1 < k + 1 := hk
  have hz' : (szT (.i .i64) x.1 + szT (.i .i64) x.2) ≤ 1048576 := hz
  exact eltoSpan k x
theorem tltoTable (k : Nat) (x : Int × (List Int) × List Int) (hz : szT sTable x ≤ 1048576) (hk : szT sTable x + 2 < k) : FltoTable k x = some x := by
  obtain ⟨k, rfl⟩ : ∃ q, k = q + 1 := ⟨k - 1, by omega⟩
  have hk' : (szT (.i .i64) x.1 + (szT (.l 3 (.i .i64)) x.2.1 + szT (.l 3 (.i .i64)) x.2.2)) + 2 < k + 1 := hk
  have hz' : (szT (.i .i64) x.1 + (szT (.l 3 (.i .i64)) x.2.1 + szT (.l 3 (.i .i64)) x.2.2)) ≤ 1048576 := hz
  have g0 : FltoIntS k x.2.1 = some x.2.1 := tltoIntS k x.2.1 (by omega) (by omega)
  have g1 : FltoIntS k x.2.2 = some x.2.2 := tltoIntS k x.2.2 (by omega) (by omega)
  refine (eltoTable k x).trans ?_
  simp only [g0, g1, Option.bind_some, bne_self_eq_false, beq_self_eq_true, Bool.not_true, Bool.false_eq_true, if_false]
theorem tltoTableS (k : Nat) (x : List (Int × (List Int) × List Int)) (hz : szT (.l 218 sTable) x ≤ 1048576) (hk : szT (.l 218 sTable) x + 3 < k) : FltoTableS k x = some x := by
  obtain ⟨k, rfl⟩ : ∃ q, k = q + 1 := ⟨k - 1, by omega⟩
  have hk' : x.length + sumL (szT sTable) x + 3 < k + 1 := hk
  have hz' : x.length + sumL (szT sTable) x ≤ 1048576 := hz
  refine (eltoTableS k x).trans ?_
  rw [if_pos (beq_self_eq_true _), if_pos (by omega), if_pos (by simp; omega)]
  exact toS_loop2 (α := Int × (List Int) × List Int) (L := LltoTableS_0 k _ x) (f := fun y => FltoTable k y) (fun _ _ => rfl) (a := x) (fun y hy => tltoTable k y (by have := sumL_le (f := szT sTable) hy; omega) (by have := sumL_le (f := szT sTable) hy; omega)) (by omega) x.length k 0 _ (by omega) (by omega) (by simp) (by simp)
theorem tltoPiece (k : Nat) (x : I2 × (List I2) × List (Int × (List Int) × List Int)) (hz : szT sLPiece x ≤ 1048576) (hk : szT sLPiece x + 4 < k) : FltoPiece k x = some x := by
  obtain ⟨k, rfl⟩ : ∃ q, k = q + 1 := ⟨k - 1, by omega⟩
  have hk' : (szT sI2 x.1 + (szT (.l 220 sI2) x.2.1 + szT (.l 218 sTable) x.2.2)) + 4 < k + 1 := hk
  have hz' : (szT sI2 x.1 + (szT (.l 220 sI2) x.2.1 + szT (.l 218 sTable) x.2.2)) ≤ 1048576 := hz
  have g0 : FltoSpan k x.1 = some x.1 := tltoSpan k x.1 (by omega) (by omega)
  have g1 : FltoLinkS k x.2.1 = some x.2.1 := tltoLinkS k x.2.1 (by omega) (by omega)
  have g2 : FltoTableS k x.2.2 = some x.2.2 := tltoTableS k x.2.2 (by omega) (by omega)
  refine (eltoPiece k x).trans ?_
  simp only [g0, g1, g2, Option.bind_some, bne_self_eq_false, beq_self_eq_true, Bool.not_true, Bool.false_eq_true, if_false]
theorem tltoPieceS (k : Nat) (x : List (I2 × (List I2) × List (Int × (List Int) × List Int))) (hz : szT (.l 183 sLPiece) x ≤ 1048576) (hk : szT (.l 183 sLPiece) x + 5 < k) : FltoPieceS k x = some x := by
  obtain ⟨k, rfl⟩ : ∃ q, k = q + 1 := ⟨k - 1, by omega⟩
  have hk' : x.length + sumL (szT sLPiece) x + 5 < k + 1 := hk
  have hz' : x.length + sumL (szT sLPiece) x ≤ 1048576 := hz
  refine (eltoPieceS k x).trans ?_
  rw [if_pos (beq_self_eq_true _), if_pos (by omega), if_pos (by simp; omega)]
  exact toS_loop2 (α := I2 × (List I2) × List (Int × (List Int) × List Int)) (L := LltoPieceS_0 k _ x) (f := fun y => FltoPiece k y) (fun _ _ => rfl) (a := x) (fun y hy => tltoPiece k y (by have := sumL_le (f := szT sLPiece) hy; omega) (by have := sumL_le (f := szT sLPiece) hy; omega)) (by omega) x.length k 0 _ (by omega) (by omega) (by simp) (by simp)
theorem tltoProgram (k : Nat) (x : Int × Int × Int × List (I2 × (List I2) × List (Int × (List Int) × List Int))) (hz : szT sLProgram x ≤ 1048576) (hk : szT sLProgram x + 6 < k) : FltoProgram k x = some x := by
  obtain ⟨k, rfl⟩ : ∃ q, k = q + 1 := ⟨k - 1, by omega⟩
  have hk' : (szT (.i .i64) x.1 + (szT (.i .i64) x.2.1 + (szT (.i .i64) x.2.2.1 + szT (.l 183 sLPiece) x.2.2.2))) + 6 < k + 1 := hk
  have hz' : (szT (.i .i64) x.1 + (szT (.i .i64) x.2.1 + (szT (.i .i64) x.2.2.1 + szT (.l 183 sLPiece) x.2.2.2))) ≤ 1048576 := hz
  have g0 : FltoPieceS k x.2.2.2 = some x.2.2.2 := tltoPieceS k x.2.2.2 (by omega) (by omega)
  refine (eltoProgram k x).trans ?_
  simp only [g0, Option.bind_some, bne_self_eq_false, beq_self_eq_true, Bool.not_true, Bool.false_eq_true, if_false]
theorem tltoQueue (k : Nat) (x : List I6) (hz : szT sLQueue x ≤ 1048576) (hk : szT sLQueue x + 3 < k) : FltoQueue k x = some x := by
  obtain ⟨k, rfl⟩ : ∃ q, k = q + 1 := ⟨k - 1, by omega⟩
  have hk' : szT (.l 167 sI6) x + 3 < k + 1 := hk
  have hz' : szT (.l 167 sI6) x ≤ 1048576 := hz
  have g0 : FltoPacketS k x = some x := tltoPacketS k x (by omega) (by omega)
  refine (eltoQueue k x).trans ?_
  simp only [g0, Option.bind_some, bne_self_eq_false, beq_self_eq_true, Bool.not_true, Bool.false_eq_true, if_false]
theorem tltoQueueS (k : Nat) (x : List (List I6)) (hz : szT (.l 151 sLQueue) x ≤ 1048576) (hk : szT (.l 151 sLQueue) x + 4 < k) : FltoQueueS k x = some x := by
  obtain ⟨k, rfl⟩ : ∃ q, k = q + 1 := ⟨k - 1, by omega⟩
  have hk' : x.length + sumL (szT sLQueue) x + 4 < k + 1 := hk
  have hz' : x.length + sumL (szT sLQueue) x ≤ 1048576 := hz
  refine (eltoQueueS k x).trans ?_
  rw [if_pos (beq_self_eq_true _), if_pos (by omega), if_pos (by simp; omega)]
  exact toS_loop2 (α := List I6) (L := LltoQueueS_0 k _ x) (f := fun y => FltoQueue k y) (fun _ _ => rfl) (a := x) (fun y hy => tltoQueue k y (by have := sumL_le (f := szT sLQueue) hy; omega) (by have := sumL_le (f := szT sLQueue) hy; omega)) (by omega) x.length k 0 _ (by omega) (by omega) (by simp) (by simp)
theorem tltoSent (k : Nat) (x : I4) (hz : szT sI4 x ≤ 1048576) (hk : szT sI4 x + 1 < k) : FltoSent k x = some x := by
  obtain ⟨k, rfl⟩ : ∃ q, k = q + 1 := ⟨k - 1, by omega⟩
  have hk' : (szT (.i .i64) x.1 + (szT (.i .i64) x.2.1 + (szT (.i .i64) x.2.2.1 + szT (.i .i64) x.2.2.2))) + 1 < k + 1 := hk
  have hz' : (szT (.i .i64) x.1 + (szT (.i .i64) x.2.1 + (szT (.i .i64) x.2.2.1 + szT (.i .i64) x.2.2.2))) ≤ 1048576 := hz
  exact eltoSent k x
theorem tltoSentS (k : Nat) (x : List I4) (hz : szT (.l 169 sI4) x ≤ 1048576) (hk : szT (.l 169 sI4) x + 2 < k) : FltoSentS k x = some x := by
  obtain ⟨k, rfl⟩ : ∃ q, k = q + 1 := ⟨k - 1, by omega⟩
  have hk' : x.length + sumL (szT sI4) x + 2 < k + 1 := hk
  have hz' : x.length + sumL (szT sI4) x ≤ 1048576 := hz
  refine (eltoSentS k x).trans ?_
  rw [if_pos (beq_self_eq_true _), if_pos (by omega), if_pos (by simp; omega)]
  exact toS_loop2 (α := Int × Int × Int × Int) (L := LltoSentS_0 k _ x) (f := fun y => FltoSent k y) (fun _ _ => rfl) (a := x) (fun y hy => tltoSent k y (by have := sumL_le (f := szT sI4) hy; omega) (by have := sumL_le (f := szT sI4) hy; omega)) (by omega) x.length k 0 _ (by omega) (by omega) (by simp) (by simp)
theorem tltoSat (k : Nat) (x : I4) (hz : szT sI4 x ≤ 1048576) (hk : szT sI4 x + 1 < k) : FltoSat k x = some x := by
  obtain ⟨k, rfl⟩ : ∃ q, k = q + 1 := ⟨k - 1, by omega⟩
  have hk' : (szT (.i .i64) x.1 + (szT (.i .i64) x.2.1 + (szT (.i .i64) x.2.2.1 + szT (.i .i64) x.2.2.2))) + 1 < k + 1 := hk
  have hz' : (szT (.i .i64) x.1 + (szT (.i .i64) x.2.1 + (szT (.i .i64) x.2.2.1 + szT (.i .i64) x.2.2.2))) ≤ 1048576 := hz
  exact eltoSat k x
theorem tltoSatS (k : Nat) (x : List I4) (hz : szT (.l 185 sI4) x ≤ 1048576) (hk : szT (.l 185 sI4) x + 2 < k) : FltoSatS k x = some x := by
  obtain ⟨k, rfl⟩ : ∃ q, k = q + 1 := ⟨k - 1, by omega⟩
  have hk' : x.length + sumL (szT sI4) x + 2 < k + 1 := hk
  have hz' : x.length + sumL (szT sI4) x ≤ 1048576 := hz
  refine (eltoSatS k x).trans ?_
  rw [if_pos (beq_self_eq_true _), if_pos (by omega), if_pos (by simp; omega)]
  exact toS_loop2 (α := Int × Int × Int × Int) (L := LltoSatS_0 k _ x) (f := fun y => FltoSat k y) (fun _ _ => rfl) (a := x) (fun y hy => tltoSat k y (by have := sumL_le (f := szT sI4) hy; omega) (by have := sumL_le (f := szT sI4) hy; omega)) (by omega) x.length k 0 _ (by omega) (by omega) (by simp) (by simp)
theorem tltoSite (k : Nat) (x : I3) (hz : szT sI3 x ≤ 1048576) (hk : szT sI3 x + 1 < k) : FltoSite k x = some x := by
  obtain ⟨k, rfl⟩ : ∃ q, k = q + 1 := ⟨k - 1, by omega⟩
  have hk' : (szT (.i .i64) x.1 + (szT (.i .i64) x.2.1 + szT (.i .i64) x.2.2)) + 1 < k + 1 := hk
  have hz' : (szT (.i .i64) x.1 + (szT (.i .i64) x.2.1 + szT (.i .i64) x.2.2)) ≤ 1048576 := hz
  exact eltoSite k x
theorem tltoSiteS (k : Nat) (x : List I3) (hz : szT (.l 187 sI3) x ≤ 1048576) (hk : szT (.l 187 sI3) x + 2 < k) : FltoSiteS k x = some x := by
  obtain ⟨k, rfl⟩ : ∃ q, k = q + 1 := ⟨k - 1, by omega⟩
  have hk' : x.length + sumL (szT sI3) x + 2 < k + 1 := hk
  have hz' : x.length + sumL (szT sI3) x ≤ 1048576 := hz
  refine (eltoSiteS k x).trans ?_
  rw [if_pos (beq_self_eq_true _), if_pos (by omega), if_pos (by simp; omega)]
  exact toS_loop2 (α := Int × Int × Int) (L := LltoSiteS_0 k _ x) (f := fun y => FltoSite k y) (fun _ _ => rfl) (a := x) (fun y hy => tltoSite k y (by have := sumL_le (f := szT sI3) hy; omega) (by have := sumL_le (f := szT sI3) hy; omega)) (by omega) x.length k 0 _ (by omega) (by omega) (by simp) (by simp)
theorem tltoArc (k : Nat) (x : I2) (hz : szT sI2 x ≤ 1048576) (hk : szT sI2 x + 1 < k) : FltoArc k x = some x := by
  obtain ⟨k, rfl⟩ : ∃ q, k = q + 1 := ⟨k - 1, by omega⟩
  have hk' : (szT (.i .i64) x.1 + szT (.i .i64) x.2) + 1 < k + 1 := hk
  have hz' : (szT (.i .i64) x.1 + szT (.i .i64) x.2) ≤ 1048576 := hz
  exact eltoArc k x
theorem tltoZone (k : Nat) (x : I3) (hz : szT sZone x ≤ 1048576) (hk : szT sZone x + 2 < k) : FltoZone k x = some x := by
  obtain ⟨k, rfl⟩ : ∃ q, k = q + 1 := ⟨k - 1, by omega⟩
  have hk' : (szT (.i .i64) x.1 + szT sI2 x.2) + 2 < k + 1 := hk
  have hz' : (szT (.i .i64) x.1 + szT sI2 x.2) ≤ 1048576 := hz
  have g0 : FltoArc k x.2 = some x.2 := tltoArc k x.2 (by omega) (by omega)
  refine (eltoZone k x).trans ?_
  simp only [g0, Option.bind_some, bne_self_eq_false, beq_self_eq_true, Bool.not_true, Bool.false_eq_true, if_false]
theorem tltoZoneS (k : Nat) (x : List I3) (hz : szT (.l 191 sZone) x ≤ 1048576) (hk : szT (.l 191 sZone) x + 3 < k) : FltoZoneS k x = some x := by
  obtain ⟨k, rfl⟩ : ∃ q, k = q + 1 := ⟨k - 1, by omega⟩
  have hk' : x.length + sumL (szT sZone) x + 3 < k + 1 := hk
  have hz' : x.length + sumL (szT sZone) x ≤ 1048576 := hz
  refine (eltoZoneS k x).trans ?_
  rw [if_pos (beq_self_eq_true _), if_pos (by omega), if_pos (by simp; omega)]
  exact toS_loop2 (α := Int × Int × Int) (L := LltoZoneS_0 k _ x) (f := fun y => FltoZone k y) (fun _ _ => rfl) (a := x) (fun y hy => tltoZone k y (by have := sumL_le (f := szT sZone) hy; omega) (by have := sumL_le (f := szT sZone) hy; omega)) (by omega) x.length k 0 _ (by omega) (by omega) (by simp) (by simp)
theorem tltoSky (k : Nat) (x : Int × (List I4) × (List I3) × Int × Int × Int × Int × Int × (List I3) × Int) (hz : szT sLSky x ≤ 1048576) (hk : szT sLSky x + 4 < k) : FltoSky k x = some x := by
  obtain ⟨k, rfl⟩ : ∃ q, k = q + 1 := ⟨k - 1, by omega⟩
  have hk' : (szT (.i .i64) x.1 + (szT (.l 185 sI4) x.2.1 + (szT (.l 187 sI3) x.2.2.1 + (szT (.i .i64) x.2.2.2.1 + (szT (.i .i64) x.2.2.2.2.1 + (szT (.i .i64) x.2.2.2.2.2.1 + (szT (.i .i64) x.2.2.2.2.2.2.1 + (szT (.i .i64) x.2.2.2.2.2.2.2.1 + (szT (.l 191 sZone) x.2.2.2.2.2.2.2.2.1 + szT (.i .i64) x.2.2.2.2.2.2.2.2.2))))))))) + 4 < k + 1 := hk
  have hz' : (szT (.i .i64) x.1 + (szT (.l 185 sI4) x.2.1 + (szT (.l 187 sI3) x.2.2.1 + (szT (.i .i64) x.2.2.2.1 + (szT (.i .i64) x.2.2.2.2.1 + (szT (.i .i64) x.2.2.2.2.2.1 + (szT (.i .i64) x.2.2.2.2.2.2.1 + (szT (.i .i64) x.2.2.2.2.2.2.2.1 + (szT (.l 191 sZone) x.2.2.2.2.2.2.2.2.1 + szT (.i .i64) x.2.2.2.2.2.2.2.2.2))))))))) ≤ 1048576 := hz
  have g0 : FltoSatS k x.2.1 = some x.2.1 := tltoSatS k x.2.1 (by omega) (by omega)
  have g1 : FltoSiteS k x.2.2.1 = some x.2.2.1 := tltoSiteS k x.2.2.1 (by omega) (by omega)
  have g2 : FltoZoneS k x.2.2.2.2.2.2.2.2.1 = some x.2.2.2.2.2.2.2.2.1 := tltoZoneS k x.2.2.2.2.2.2.2.2.1 (by omega) (by omega)
  refine (eltoSky k x).trans ?_
  simp only [g0, g1, g2, Option.bind_some, bne_self_eq_false, beq_self_eq_true, Bool.not_true, Bool.false_eq_true, if_false]
theorem tltoStream (k : Nat) (x : Int × Int × List Int) (hz : szT sStream x ≤ 1048576) (hk : szT sStream x + 2 < k) : FltoStream k x = some x := by
  obtain ⟨k, rfl⟩ : ∃ q, k = q + 1 := ⟨k - 1, by omega⟩
  have hk' : (szT (.i .i64) x.1 + (szT (.i .i64) x.2.1 + szT (.l 3 (.i .i64)) x.2.2)) + 2 < k + 1 := hk
  have hz' : (szT (.i .i64) x.1 + (szT (.i .i64) x.2.1 + szT (.l 3 (.i .i64)) x.2.2)) ≤ 1048576 := hz
  have g0 : FltoIntS k x.2.2 = some x.2.2 := tltoIntS k x.2.2 (by omega) (by omega)
  refine (eltoStream k x).trans ?_
  simp only [g0, Option.bind_some, bne_self_eq_false, beq_self_eq_true, Bool.not_true, Bool.false_eq_true, if_false]
theorem tltoStreamS (k : Nat) (x : List (Int × Int × List Int)) (hz : szT (.l 153 sStream) x ≤ 1048576) (hk : szT (.l 153 sStream) x + 3 < k) : FltoStreamS k x = some x := by
  obtain ⟨k, rfl⟩ : ∃ q, k = q + 1 := ⟨k - 1, by omega⟩
  have hk' : x.length + sumL (szT sStream) x + 3 < k + 1 := hk
  have hz' : x.length + sumL (szT sStream) x ≤ 1048576 := hz
  refine (eltoStreamS k x).trans ?_
  rw [if_pos (beq_self_eq_true _), if_pos (by omega), if_pos (by simp; omega)]
  exact toS_loop2 (α := Int × Int × List Int) (L := LltoStreamS_0 k _ x) (f := fun y => FltoStream k y) (fun _ _ => rfl) (a := x) (fun y hy => tltoStream k y (by have := sumL_le (f := szT sStream) hy; omega) (by have := sumL_le (f := szT sStream) hy; omega)) (by omega) x.length k 0 _ (by omega) (by omega) (by simp) (by simp)
theorem tltoWorld (k : Nat) (x : (Int × (List I4) × (List I3) × Int × Int × Int × Int × Int × (List I3) × Int) × (Int × Int × Int × List (I2 × (List I2) × List (Int × (List Int) × List Int))) × (List Int) × (List Int) × (List I6) × (List (List I6)) × (List I4) × (List Int) × (List (Int × Int × List Int)) × (List I4) × Int × Int × (List I6) × List I4) (hz : szT sLWorld x ≤ 1048576) (hk : szT sLWorld x + 7 < k) : FltoWorld k x = some x := by
  obtain ⟨k, rfl⟩ : ∃ q, k = q + 1 := ⟨k - 1, by omega⟩
  have hk' : (szT sLSky x.1 + (szT sLProgram x.2.1 + (szT sLaw x.2.2.1 + (szT (.l 3 (.i .i64)) x.2.2.2.1 + (szT (.l 159 sI6) x.2.2.2.2.1 + (szT (.l 151 sLQueue) x.2.2.2.2.2.1 + (szT (.l 162 sI4) x.2.2.2.2.2.2.1 + (szT (.l 3 (.i .i64)) x.2.2.2.2.2.2.2.1 + (szT (.l 153 sStream) x.2.2.2.2.2.2.2.2.1 + (szT (.l 165 sI4) x.2.2.2.2.2.2.2.2.2.1 + (szT (.i .i64) x.2.2.2.2.2.2.2.2.2.2.1 + (szT (.i .i64) x.2.2.2.2.2.2.2.2.2.2.2.1 + (szT (.l 167 sI6) x.2.2.2.2.2.2.2.2.2.2.2.2.1 + szT (.l 169 sI4) x.2.2.2.2.2.2.2.2.2.2.2.2.2))))))))))))) + 7 < k + 1 := hk
  have hz' : (szT sLSky x.1 + (szT sLProgram x.2.1 + (szT sLaw x.2.2.1 + (szT (.l 3 (.i .i64)) x.2.2.2.1 + (szT (.l 159 sI6) x.2.2.2.2.1 + (szT (.l 151 sLQueue) x.2.2.2.2.2.1 + (szT (.l 162 sI4) x.2.2.2.2.2.2.1 + (szT (.l 3 (.i .i64)) x.2.2.2.2.2.2.2.1 + (szT (.l 153 sStream) x.2.2.2.2.2.2.2.2.1 + (szT (.l 165 sI4) x.2.2.2.2.2.2.2.2.2.1 + (szT (.i .i64) x.2.2.2.2.2.2.2.2.2.2.1 + (szT (.i .i64) x.2.2.2.2.2.2.2.2.2.2.2.1 + (szT (.l 167 sI6) x.2.2.2.2.2.2.2.2.2.2.2.2.1 + szT (.l 169 sI4) x.2.2.2.2.2.2.2.2.2.2.2.2.2))))))))))))) ≤ 1048576 := hz
  have g0 : FltoSky k x.1 = some x.1 := tltoSky k x.1 (by omega) (by omega)
  have g1 : FltoProgram k x.2.1 = some x.2.1 := tltoProgram k x.2.1 (by omega) (by omega)
  have g2 : FltoLaw k x.2.2.1 = some x.2.2.1 := tltoLaw k x.2.2.1 (by omega) (by omega)
  have g3 : FltoIntS k x.2.2.2.1 = some x.2.2.2.1 := tltoIntS k x.2.2.2.1 (by omega) (by omega)
  have g4 : FltoBatteryS k x.2.2.2.2.1 = some x.2.2.2.2.1 := tltoBatteryS k x.2.2.2.2.1 (by omega) (by omega)
  have g5 : FltoQueueS k x.2.2.2.2.2.1 = some x.2.2.2.2.2.1 := tltoQueueS k x.2.2.2.2.2.1 (by omega) (by omega)
  have g6 : FltoFlowS k x.2.2.2.2.2.2.1 = some x.2.2.2.2.2.2.1 := tltoFlowS k x.2.2.2.2.2.2.1 (by omega) (by omega)
  have g7 : FltoIntS k x.2.2.2.2.2.2.2.1 = some x.2.2.2.2.2.2.2.1 := tltoIntS k x.2.2.2.2.2.2.2.1 (by omega) (by omega)
  have g8 : FltoStreamS k x.2.2.2.2.2.2.2.2.1 = some x.2.2.2.2.2.2.2.2.1 := tltoStreamS k x.2.2.2.2.2.2.2.2.1 (by omega) (by omega)
  have g9 : FltoFaultS k x.2.2.2.2.2.2.2.2.2.1 = some x.2.2.2.2.2.2.2.2.2.1 := tltoFaultS k x.2.2.2.2.2.2.2.2.2.1 (by omega) (by omega)
  have g10 : FltoPacketS k x.2.2.2.2.2.2.2.2.2.2.2.2.1 = some x.2.2.2.2.2.2.2.2.2.2.2.2.1 := tltoPacketS k x.2.2.2.2.2.2.2.2.2.2.2.2.1 (by omega) (by omega)
  have g11 : FltoSentS k x.2.2.2.2.2.2.2.2.2.2.2.2.2 = some x.2.2.2.2.2.2.2.2.2.2.2.2.2 := tltoSentS k x.2.2.2.2.2.2.2.2.2.2.2.2.2 (by omega) (by omega)
  refine (eltoWorld k x).trans ?_
  simp only [g0, g1, g2, g3, g4, g5, g6, g7, g8, g9, g10, g11, Option.bind_some, bne_self_eq_false, beq_self_eq_true, Bool.not_true, Bool.false_eq_true, if_false]
end Go.Proofs.YtcdlkadknenodaaGreat.World
