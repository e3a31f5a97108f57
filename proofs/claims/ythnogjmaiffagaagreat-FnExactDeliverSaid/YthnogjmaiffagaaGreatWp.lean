/- Plain lemmas: sizes, copies and comparisons of the law's data. No condition. -/
import Derived.Test.YthnogjmaiffagaaGreatWb
namespace Go.Proofs.YthnogjmaiffagaaGreat.World
open Go Go.V Go.Proofs
set_option linter.unusedVariables false
set_option linter.unusedSimpArgs false
set_option maxRecDepth 100000
theorem qleqBattery (k : Nat) (x : I6) (hz : szT sI6 x ≤ 140737488351232) (hk : szT sI6 x + 1 < k) : yq2 k x x = some true := by
 obtain ⟨k, rfl⟩ : ∃ q, k = q + 1 := ⟨k - 1, by omega⟩
 have hk' : (szT (.i .i64) x.1 + (szT (.i .i64) x.2.1 + (szT (.i .i64) x.2.2.1 + (szT (.i .i64) x.2.2.2.1 + (szT (.i .i64) x.2.2.2.2.1 + szT (.i .i64) x.2.2.2.2.2))))) + 1 < k + 1 := hk
 have hz' : (szT (.i .i64) x.1 + (szT (.i .i64) x.2.1 + (szT (.i .i64) x.2.2.1 + (szT (.i .i64) x.2.2.2.1 + (szT (.i .i64) x.2.2.2.2.1 + szT (.i .i64) x.2.2.2.2.2))))) ≤ 140737488351232 := hz
 refine (eleqBattery k x x).trans ?_
 simp only [Option.bind_some, bne_self_eq_false, beq_self_eq_true, Bool.not_true, Bool.false_eq_true, if_false]
theorem qleqBatteryS (k : Nat) (x : List I6) (hz : szT (.l 164 sI6) x ≤ 140737488351232) (hk : szT (.l 164 sI6) x + 2 < k) : zv1 k x x = some true := by
 obtain ⟨k, rfl⟩ : ∃ q, k = q + 1 := ⟨k - 1, by omega⟩
 have hk' : x.length + sumL (szT sI6) x + 2 < k + 1 := hk
 have hz' : x.length + sumL (szT sI6) x ≤ 140737488351232 := hz
 refine (eleqBatteryS k x x).trans ?_
 rw [if_neg (by simp)]
 exact vv (α := Int × Int × Int × Int × Int × Int) (L := zu1 k _ _ (x, x)) (f := fun y z => yq2 k y z) (fun _ _ => rfl) (a := x) (fun y hy => qleqBattery k y (by have := z8 (f := szT sI6) hy; omega) (by have := z8 (f := szT sI6) hy; omega)) (by omega) x.length k 0 (by omega) (by omega)
theorem qleqFault (k : Nat) (x : I4) (hz : szT sI4 x ≤ 140737488351232) (hk : szT sI4 x + 1 < k) : jb4 k x x = some true := by
 obtain ⟨k, rfl⟩ : ∃ q, k = q + 1 := ⟨k - 1, by omega⟩
 have hk' : (szT (.i .i64) x.1 + (szT (.i .i64) x.2.1 + (szT (.i .i64) x.2.2.1 + szT (.i .i64) x.2.2.2))) + 1 < k + 1 := hk
 have hz' : (szT (.i .i64) x.1 + (szT (.i .i64) x.2.1 + (szT (.i .i64) x.2.2.1 + szT (.i .i64) x.2.2.2))) ≤ 140737488351232 := hz
 refine (eleqFault k x x).trans ?_
 simp only [Option.bind_some, bne_self_eq_false, beq_self_eq_true, Bool.not_true, Bool.false_eq_true, if_false]
theorem qleqFaultS (k : Nat) (x : List I4) (hz : szT (.l 174 sI4) x ≤ 140737488351232) (hk : szT (.l 174 sI4) x + 2 < k) : wm2 k x x = some true := by
 obtain ⟨k, rfl⟩ : ∃ q, k = q + 1 := ⟨k - 1, by omega⟩
 have hk' : x.length + sumL (szT sI4) x + 2 < k + 1 := hk
 have hz' : x.length + sumL (szT sI4) x ≤ 140737488351232 := hz
 refine (eleqFaultS k x x).trans ?_
 rw [if_neg (by simp)]
 exact vv (α := Int × Int × Int × Int) (L := wd2 k _ _ (x, x)) (f := fun y z => jb4 k y z) (fun _ _ => rfl) (a := x) (fun y hy => qleqFault k y (by have := z8 (f := szT sI4) hy; omega) (by have := z8 (f := szT sI4) hy; omega)) (by omega) x.length k 0 (by omega) (by omega)
theorem qleqFlow (k : Nat) (x : I4) (hz : szT sI4 x ≤ 140737488351232) (hk : szT sI4 x + 1 < k) : FleqFlow k x x = some true := by
 obtain ⟨k, rfl⟩ : ∃ q, k = q + 1 := ⟨k - 1, by omega⟩
 have hk' : (szT (.i .i64) x.1 + (szT (.i .i64) x.2.1 + (szT (.i .i64) x.2.2.1 + szT (.i .i64) x.2.2.2))) + 1 < k + 1 := hk
 have hz' : (szT (.i .i64) x.1 + (szT (.i .i64) x.2.1 + (szT (.i .i64) x.2.2.1 + szT (.i .i64) x.2.2.2))) ≤ 140737488351232 := hz
 refine (eleqFlow k x x).trans ?_
 simp only [Option.bind_some, bne_self_eq_false, beq_self_eq_true, Bool.not_true, Bool.false_eq_true, if_false]
theorem qleqFlowS (k : Nat) (x : List I4) (hz : szT (.l 169 sI4) x ≤ 140737488351232) (hk : szT (.l 169 sI4) x + 2 < k) : xe3 k x x = some true := by
 obtain ⟨k, rfl⟩ : ∃ q, k = q + 1 := ⟨k - 1, by omega⟩
 have hk' : x.length + sumL (szT sI4) x + 2 < k + 1 := hk
 have hz' : x.length + sumL (szT sI4) x ≤ 140737488351232 := hz
 refine (eleqFlowS k x x).trans ?_
 rw [if_neg (by simp)]
 exact vv (α := Int × Int × Int × Int) (L := zv2 k _ _ (x, x)) (f := fun y z => FleqFlow k y z) (fun _ _ => rfl) (a := x) (fun y hy => qleqFlow k y (by have := z8 (f := szT sI4) hy; omega) (by have := z8 (f := szT sI4) hy; omega)) (by omega) x.length k 0 (by omega) (by omega)
theorem zn3 (k : Nat) (x : List Int) (hz : szT (.l 3 (.i .i64)) x ≤ 140737488351232) (hk : szT (.l 3 (.i .i64)) x + 1 < k) : v21 k x x = some true := by
 obtain ⟨k, rfl⟩ : ∃ q, k = q + 1 := ⟨k - 1, by omega⟩
 have hk' : x.length + sumL (szT (.i .i64)) x + 1 < k + 1 := hk
 have hz' : x.length + sumL (szT (.i .i64)) x ≤ 140737488351232 := hz
 refine (eleqIntS k x x).trans ?_
 rw [if_neg (by simp)]
 exact eqI_loop2 (α := Int) (L := yl3 k _ _ (x, x)) (fun _ _ => rfl) (a := x) (by omega) x.length k 0 (by omega) (by omega)
theorem qleqLaw (k : Nat) (x : List Int) (hz : szT sLaw x ≤ 140737488351232) (hk : szT sLaw x + 2 < k) : FleqLaw k x x = some true := by
 obtain ⟨k, rfl⟩ : ∃ q, k = q + 1 := ⟨k - 1, by omega⟩
 have hk' : szT (.l 3 (.i .i64)) x + 2 < k + 1 := hk
 have hz' : szT (.l 3 (.i .i64)) x ≤ 140737488351232 := hz
 have g0 : v21 k x x = some true := zn3 k x (by omega) (by omega)
 refine (eleqLaw k x x).trans ?_
 simp only [g0, Option.bind_some, bne_self_eq_false, beq_self_eq_true, Bool.not_true, Bool.false_eq_true, if_false]
theorem qleqPacket (k : Nat) (x : I6) (hz : szT sI6 x ≤ 140737488351232) (hk : szT sI6 x + 1 < k) : vj3 k x x = some true := by
 obtain ⟨k, rfl⟩ : ∃ q, k = q + 1 := ⟨k - 1, by omega⟩
 have hk' : (szT (.i .i64) x.1 + (szT (.i .i64) x.2.1 + (szT (.i .i64) x.2.2.1 + (szT (.i .i64) x.2.2.2.1 + (szT (.i .i64) x.2.2.2.2.1 + szT (.i .i64) x.2.2.2.2.2))))) + 1 < k + 1 := hk
 have hz' : (szT (.i .i64) x.1 + (szT (.i .i64) x.2.1 + (szT (.i .i64) x.2.2.1 + (szT (.i .i64) x.2.2.2.1 + (szT (.i .i64) x.2.2.2.2.1 + szT (.i .i64) x.2.2.2.2.2))))) ≤ 140737488351232 := hz
 refine (eleqPacket k x x).trans ?_
 simp only [Option.bind_some, bne_self_eq_false, beq_self_eq_true, Bool.not_true, Bool.false_eq_true, if_false]
theorem qleqPacketS (k : Nat) (x : List I6) (hz : szT (.l 115 sI6) x ≤ 140737488351232) (hk : szT (.l 115 sI6) x + 2 < k) : zg1 k x x = some true := by
 obtain ⟨k, rfl⟩ : ∃ q, k = q + 1 := ⟨k - 1, by omega⟩
 have hk' : x.length + sumL (szT sI6) x + 2 < k + 1 := hk
 have hz' : x.length + sumL (szT sI6) x ≤ 140737488351232 := hz
 refine (eleqPacketS k x x).trans ?_
 rw [if_neg (by simp)]
 exact vv (α := Int × Int × Int × Int × Int × Int) (L := x32 k _ _ (x, x)) (f := fun y z => vj3 k y z) (fun _ _ => rfl) (a := x) (fun y hy => qleqPacket k y (by have := z8 (f := szT sI6) hy; omega) (by have := z8 (f := szT sI6) hy; omega)) (by omega) x.length k 0 (by omega) (by omega)
theorem qleqLink (k : Nat) (x : I2) (hz : szT sI2 x ≤ 140737488351232) (hk : szT sI2 x + 1 < k) : FleqLink k x x = some true := by
 obtain ⟨k, rfl⟩ : ∃ q, k = q + 1 := ⟨k - 1, by omega⟩
 have hk' : (szT (.i .i64) x.1 + szT (.i .i64) x.2) + 1 < k + 1 := hk
 have hz' : (szT (.i .i64) x.1 + szT (.i .i64) x.2) ≤ 140737488351232 := hz
 refine (eleqLink k x x).trans ?_
 simp only [Option.bind_some, bne_self_eq_false, beq_self_eq_true, Bool.not_true, Bool.false_eq_true, if_false]
theorem qleqLinkS (k : Nat) (x : List I2) (hz : szT (.l 264 sI2) x ≤ 140737488351232) (hk : szT (.l 264 sI2) x + 2 < k) : xb3 k x x = some true := by
 obtain ⟨k, rfl⟩ : ∃ q, k = q + 1 := ⟨k - 1, by omega⟩
 have hk' : x.length + sumL (szT sI2) x + 2 < k + 1 := hk
 have hz' : x.length + sumL (szT sI2) x ≤ 140737488351232 := hz
 refine (eleqLinkS k x x).trans ?_
 rw [if_neg (by simp)]
 exact vv (α := Int × Int) (L := wv2 k _ _ (x, x)) (f := fun y z => FleqLink k y z) (fun _ _ => rfl) (a := x) (fun y hy => qleqLink k y (by have := z8 (f := szT sI2) hy; omega) (by have := z8 (f := szT sI2) hy; omega)) (by omega) x.length k 0 (by omega) (by omega)
theorem qleqSpan (k : Nat) (x : I2) (hz : szT sI2 x ≤ 140737488351232) (hk : szT sI2 x + 1 < k) : FleqSpan k x x = some true := by
 obtain ⟨k, rfl⟩ : ∃ q, k = q + 1 := ⟨k - 1, by omega⟩
 have hk' : (szT (.i .i64) x.1 + szT (.i .i64) x.2) + 1 < k + 1 := hk
 have hz' : (szT (.i .i64) x.1 + szT (.i .i64) x.2) ≤ 140737488351232 := hz
 refine (eleqSpan k x x).trans ?_
 simp only [Option.bind_some, bne_self_eq_false, beq_self_eq_true, Bool.not_true, Bool.false_eq_true, if_false]
theorem qleqTable (k : Nat) (x : Int × (List Int) × List Int) (hz : szT j2 x ≤ 140737488351232) (hk : szT j2 x + 2 < k) : vc4 k x x = some true := by
 obtain ⟨k, rfl⟩ : ∃ q, k = q + 1 := ⟨k - 1, by omega⟩
 have hk' : (szT (.i .i64) x.1 + (szT (.l 3 (.i .i64)) x.2.1 + szT (.l 3 (.i .i64)) x.2.2)) + 2 < k + 1 := hk
 have hz' : (szT (.i .i64) x.1 + (szT (.l 3 (.i .i64)) x.2.1 + szT (.l 3 (.i .i64)) x.2.2)) ≤ 140737488351232 := hz
 have g0 : v21 k x.2.1 x.2.1 = some true := zn3 k x.2.1 (by omega) (by omega)
 have g1 : v21 k x.2.2 x.2.2 = some true := zn3 k x.2.2 (by omega) (by omega)
 refine (eleqTable k x x).trans ?_
 simp only [g0, g1, Option.bind_some, bne_self_eq_false, beq_self_eq_true, Bool.not_true, Bool.false_eq_true, if_false]
theorem qleqTableS (k : Nat) (x : List (Int × (List Int) × List Int)) (hz : szT (.l 147 j2) x ≤ 140737488351232) (hk : szT (.l 147 j2) x + 3 < k) : yk2 k x x = some true := by
 obtain ⟨k, rfl⟩ : ∃ q, k = q + 1 := ⟨k - 1, by omega⟩
 have hk' : x.length + sumL (szT j2) x + 3 < k + 1 := hk
 have hz' : x.length + sumL (szT j2) x ≤ 140737488351232 := hz
 refine (eleqTableS k x x).trans ?_
 rw [if_neg (by simp)]
 exact vv (α := Int × (List Int) × List Int) (L := vc2 k _ _ (x, x)) (f := fun y z => vc4 k y z) (fun _ _ => rfl) (a := x) (fun y hy => qleqTable k y (by have := z8 (f := szT j2) hy; omega) (by have := z8 (f := szT j2) hy; omega)) (by omega) x.length k 0 (by omega) (by omega)
theorem qleqPiece (k : Nat) (x : I2 × (List I2) × List (Int × (List Int) × List Int)) (hz : szT j4 x ≤ 140737488351232) (hk : szT j4 x + 4 < k) : z84 k x x = some true := by
 obtain ⟨k, rfl⟩ : ∃ q, k = q + 1 := ⟨k - 1, by omega⟩
 have hk' : (szT sI2 x.1 + (szT (.l 264 sI2) x.2.1 + szT (.l 147 j2) x.2.2)) + 4 < k + 1 := hk
 have hz' : (szT sI2 x.1 + (szT (.l 264 sI2) x.2.1 + szT (.l 147 j2) x.2.2)) ≤ 140737488351232 := hz
 have g0 : FleqSpan k x.1 x.1 = some true := qleqSpan k x.1 (by omega) (by omega)
 have g1 : xb3 k x.2.1 x.2.1 = some true := qleqLinkS k x.2.1 (by omega) (by omega)
 have g2 : yk2 k x.2.2 x.2.2 = some true := qleqTableS k x.2.2 (by omega) (by omega)
 refine (eleqPiece k x x).trans ?_
 simp only [g0, g1, g2, Option.bind_some, bne_self_eq_false, beq_self_eq_true, Bool.not_true, Bool.false_eq_true, if_false]
theorem qleqPieceS (k : Nat) (x : List (I2 × (List I2) × List (Int × (List Int) × List Int))) (hz : szT (.l 157 j4) x ≤ 140737488351232) (hk : szT (.l 157 j4) x + 5 < k) : zk2 k x x = some true := by
 obtain ⟨k, rfl⟩ : ∃ q, k = q + 1 := ⟨k - 1, by omega⟩
 have hk' : x.length + sumL (szT j4) x + 5 < k + 1 := hk
 have hz' : x.length + sumL (szT j4) x ≤ 140737488351232 := hz
 refine (eleqPieceS k x x).trans ?_
 rw [if_neg (by simp)]
 exact vv (α := I2 × (List I2) × List (Int × (List Int) × List Int)) (L := x92 k _ _ (x, x)) (f := fun y z => z84 k y z) (fun _ _ => rfl) (a := x) (fun y hy => qleqPiece k y (by have := z8 (f := szT j4) hy; omega) (by have := z8 (f := szT j4) hy; omega)) (by omega) x.length k 0 (by omega) (by omega)
theorem qleqProgram (k : Nat) (x : Int × Int × Int × List (I2 × (List I2) × List (Int × (List Int) × List Int))) (hz : szT j3 x ≤ 140737488351232) (hk : szT j3 x + 6 < k) : jr2 k x x = some true := by
 obtain ⟨k, rfl⟩ : ∃ q, k = q + 1 := ⟨k - 1, by omega⟩
 have hk' : (szT (.i .i64) x.1 + (szT (.i .i64) x.2.1 + (szT (.i .i64) x.2.2.1 + szT (.l 157 j4) x.2.2.2))) + 6 < k + 1 := hk
 have hz' : (szT (.i .i64) x.1 + (szT (.i .i64) x.2.1 + (szT (.i .i64) x.2.2.1 + szT (.l 157 j4) x.2.2.2))) ≤ 140737488351232 := hz
 have g0 : zk2 k x.2.2.2 x.2.2.2 = some true := qleqPieceS k x.2.2.2 (by omega) (by omega)
 refine (eleqProgram k x x).trans ?_
 simp only [g0, Option.bind_some, bne_self_eq_false, beq_self_eq_true, Bool.not_true, Bool.false_eq_true, if_false]
theorem qleqQueue (k : Nat) (x : List I6) (hz : szT j5 x ≤ 140737488351232) (hk : szT j5 x + 3 < k) : FleqQueue k x x = some true := by
 obtain ⟨k, rfl⟩ : ∃ q, k = q + 1 := ⟨k - 1, by omega⟩
 have hk' : szT (.l 115 sI6) x + 3 < k + 1 := hk
 have hz' : szT (.l 115 sI6) x ≤ 140737488351232 := hz
 have g0 : zg1 k x x = some true := qleqPacketS k x (by omega) (by omega)
 refine (eleqQueue k x x).trans ?_
 simp only [g0, Option.bind_some, bne_self_eq_false, beq_self_eq_true, Bool.not_true, Bool.false_eq_true, if_false]
theorem qleqQueueS (k : Nat) (x : List (List I6)) (hz : szT (.l 113 j5) x ≤ 140737488351232) (hk : szT (.l 113 j5) x + 4 < k) : vk2 k x x = some true := by
 obtain ⟨k, rfl⟩ : ∃ q, k = q + 1 := ⟨k - 1, by omega⟩
 have hk' : x.length + sumL (szT j5) x + 4 < k + 1 := hk
 have hz' : x.length + sumL (szT j5) x ≤ 140737488351232 := hz
 refine (eleqQueueS k x x).trans ?_
 rw [if_neg (by simp)]
 exact vv (α := List I6) (L := va2 k _ _ (x, x)) (f := fun y z => FleqQueue k y z) (fun _ _ => rfl) (a := x) (fun y hy => qleqQueue k y (by have := z8 (f := szT j5) hy; omega) (by have := z8 (f := szT j5) hy; omega)) (by omega) x.length k 0 (by omega) (by omega)
theorem qleqSent (k : Nat) (x : I4) (hz : szT sI4 x ≤ 140737488351232) (hk : szT sI4 x + 1 < k) : FleqSent k x x = some true := by
 obtain ⟨k, rfl⟩ : ∃ q, k = q + 1 := ⟨k - 1, by omega⟩
 have hk' : (szT (.i .i64) x.1 + (szT (.i .i64) x.2.1 + (szT (.i .i64) x.2.2.1 + szT (.i .i64) x.2.2.2))) + 1 < k + 1 := hk
 have hz' : (szT (.i .i64) x.1 + (szT (.i .i64) x.2.1 + (szT (.i .i64) x.2.2.1 + szT (.i .i64) x.2.2.2))) ≤ 140737488351232 := hz
 refine (eleqSent k x x).trans ?_
 simp only [Option.bind_some, bne_self_eq_false, beq_self_eq_true, Bool.not_true, Bool.false_eq_true, if_false]
theorem qleqSentS (k : Nat) (x : List I4) (hz : szT (.l 69 sI4) x ≤ 140737488351232) (hk : szT (.l 69 sI4) x + 2 < k) : xi3 k x x = some true := by
 obtain ⟨k, rfl⟩ : ∃ q, k = q + 1 := ⟨k - 1, by omega⟩
 have hk' : x.length + sumL (szT sI4) x + 2 < k + 1 := hk
 have hz' : x.length + sumL (szT sI4) x ≤ 140737488351232 := hz
 refine (eleqSentS k x x).trans ?_
 rw [if_neg (by simp)]
 exact vv (α := Int × Int × Int × Int) (L := ju2 k _ _ (x, x)) (f := fun y z => FleqSent k y z) (fun _ _ => rfl) (a := x) (fun y hy => qleqSent k y (by have := z8 (f := szT sI4) hy; omega) (by have := z8 (f := szT sI4) hy; omega)) (by omega) x.length k 0 (by omega) (by omega)
theorem qleqSat (k : Nat) (x : I4) (hz : szT sI4 x ≤ 140737488351232) (hk : szT sI4 x + 1 < k) : FleqSat k x x = some true := by
 obtain ⟨k, rfl⟩ : ∃ q, k = q + 1 := ⟨k - 1, by omega⟩
 have hk' : (szT (.i .i64) x.1 + (szT (.i .i64) x.2.1 + (szT (.i .i64) x.2.2.1 + szT (.i .i64) x.2.2.2))) + 1 < k + 1 := hk
 have hz' : (szT (.i .i64) x.1 + (szT (.i .i64) x.2.1 + (szT (.i .i64) x.2.2.1 + szT (.i .i64) x.2.2.2))) ≤ 140737488351232 := hz
 refine (eleqSat k x x).trans ?_
 simp only [Option.bind_some, bne_self_eq_false, beq_self_eq_true, Bool.not_true, Bool.false_eq_true, if_false]
theorem qleqSatS (k : Nat) (x : List I4) (hz : szT (.l 224 sI4) x ≤ 140737488351232) (hk : szT (.l 224 sI4) x + 2 < k) : y54 k x x = some true := by
 obtain ⟨k, rfl⟩ : ∃ q, k = q + 1 := ⟨k - 1, by omega⟩
 have hk' : x.length + sumL (szT sI4) x + 2 < k + 1 := hk
 have hz' : x.length + sumL (szT sI4) x ≤ 140737488351232 := hz
 refine (eleqSatS k x x).trans ?_
 rw [if_neg (by simp)]
 exact vv (α := Int × Int × Int × Int) (L := jl3 k _ _ (x, x)) (f := fun y z => FleqSat k y z) (fun _ _ => rfl) (a := x) (fun y hy => qleqSat k y (by have := z8 (f := szT sI4) hy; omega) (by have := z8 (f := szT sI4) hy; omega)) (by omega) x.length k 0 (by omega) (by omega)
theorem qleqSite (k : Nat) (x : I3) (hz : szT sI3 x ≤ 140737488351232) (hk : szT sI3 x + 1 < k) : FleqSite k x x = some true := by
 obtain ⟨k, rfl⟩ : ∃ q, k = q + 1 := ⟨k - 1, by omega⟩
 have hk' : (szT (.i .i64) x.1 + (szT (.i .i64) x.2.1 + szT (.i .i64) x.2.2)) + 1 < k + 1 := hk
 have hz' : (szT (.i .i64) x.1 + (szT (.i .i64) x.2.1 + szT (.i .i64) x.2.2)) ≤ 140737488351232 := hz
 refine (eleqSite k x x).trans ?_
 simp only [Option.bind_some, bne_self_eq_false, beq_self_eq_true, Bool.not_true, Bool.false_eq_true, if_false]
theorem qleqSiteS (k : Nat) (x : List I3) (hz : szT (.l 228 sI3) x ≤ 140737488351232) (hk : szT (.l 228 sI3) x + 2 < k) : wd3 k x x = some true := by
 obtain ⟨k, rfl⟩ : ∃ q, k = q + 1 := ⟨k - 1, by omega⟩
 have hk' : x.length + sumL (szT sI3) x + 2 < k + 1 := hk
 have hz' : x.length + sumL (szT sI3) x ≤ 140737488351232 := hz
 refine (eleqSiteS k x x).trans ?_
 rw [if_neg (by simp)]
 exact vv (α := Int × Int × Int) (L := wn2 k _ _ (x, x)) (f := fun y z => FleqSite k y z) (fun _ _ => rfl) (a := x) (fun y hy => qleqSite k y (by have := z8 (f := szT sI3) hy; omega) (by have := z8 (f := szT sI3) hy; omega)) (by omega) x.length k 0 (by omega) (by omega)
theorem qleqArc (k : Nat) (x : I2) (hz : szT sI2 x ≤ 140737488351232) (hk : szT sI2 x + 1 < k) : FleqArc k x x = some true := by
 obtain ⟨k, rfl⟩ : ∃ q, k = q + 1 := ⟨k - 1, by omega⟩
 have hk' : (szT (.i .i64) x.1 + szT (.i .i64) x.2) + 1 < k + 1 := hk
 have hz' : (szT (.i .i64) x.1 + szT (.i .i64) x.2) ≤ 140737488351232 := hz
 refine (eleqArc k x x).trans ?_
 simp only [Option.bind_some, bne_self_eq_false, beq_self_eq_true, Bool.not_true, Bool.false_eq_true, if_false]
theorem qleqZone (k : Nat) (x : I3) (hz : szT sZone x ≤ 140737488351232) (hk : szT sZone x + 2 < k) : FleqZone k x x = some true := by
 obtain ⟨k, rfl⟩ : ∃ q, k = q + 1 := ⟨k - 1, by omega⟩
 have hk' : (szT (.i .i64) x.1 + szT sI2 x.2) + 2 < k + 1 := hk
 have hz' : (szT (.i .i64) x.1 + szT sI2 x.2) ≤ 140737488351232 := hz
 have g0 : FleqArc k x.2 x.2 = some true := qleqArc k x.2 (by omega) (by omega)
 refine (eleqZone k x x).trans ?_
 simp only [g0, Option.bind_some, bne_self_eq_false, beq_self_eq_true, Bool.not_true, Bool.false_eq_true, if_false]
theorem qleqZoneS (k : Nat) (x : List I3) (hz : szT (.l 234 sZone) x ≤ 140737488351232) (hk : szT (.l 234 sZone) x + 3 < k) : w73 k x x = some true := by
 obtain ⟨k, rfl⟩ : ∃ q, k = q + 1 := ⟨k - 1, by omega⟩
 have hk' : x.length + sumL (szT sZone) x + 3 < k + 1 := hk
 have hz' : x.length + sumL (szT sZone) x ≤ 140737488351232 := hz
 refine (eleqZoneS k x x).trans ?_
 rw [if_neg (by simp)]
 exact vv (α := Int × Int × Int) (L := vp2 k _ _ (x, x)) (f := fun y z => FleqZone k y z) (fun _ _ => rfl) (a := x) (fun y hy => qleqZone k y (by have := z8 (f := szT sZone) hy; omega) (by have := z8 (f := szT sZone) hy; omega)) (by omega) x.length k 0 (by omega) (by omega)
theorem qleqSky (k : Nat) (x : Int × (List I4) × (List I3) × Int × Int × Int × Int × Int × (List I3) × Int) (hz : szT sSky x ≤ 140737488351232) (hk : szT sSky x + 4 < k) : FleqSky k x x = some true := by
 obtain ⟨k, rfl⟩ : ∃ q, k = q + 1 := ⟨k - 1, by omega⟩
 have hk' : (szT (.i .i64) x.1 + (szT (.l 224 sI4) x.2.1 + (szT (.l 228 sI3) x.2.2.1 + (szT (.i .i64) x.2.2.2.1 + (szT (.i .i64) x.2.2.2.2.1 + (szT (.i .i64) x.2.2.2.2.2.1 + (szT (.i .i64) x.2.2.2.2.2.2.1 + (szT (.i .i64) x.2.2.2.2.2.2.2.1 + (szT (.l 234 sZone) x.2.2.2.2.2.2.2.2.1 + szT (.i .i64) x.2.2.2.2.2.2.2.2.2))))))))) + 4 < k + 1 := hk
 have hz' : (szT (.i .i64) x.1 + (szT (.l 224 sI4) x.2.1 + (szT (.l 228 sI3) x.2.2.1 + (szT (.i .i64) x.2.2.2.1 + (szT (.i .i64) x.2.2.2.2.1 + (szT (.i .i64) x.2.2.2.2.2.1 + (szT (.i .i64) x.2.2.2.2.2.2.1 + (szT (.i .i64) x.2.2.2.2.2.2.2.1 + (szT (.l 234 sZone) x.2.2.2.2.2.2.2.2.1 + szT (.i .i64) x.2.2.2.2.2.2.2.2.2))))))))) ≤ 140737488351232 := hz
 have g0 : y54 k x.2.1 x.2.1 = some true := qleqSatS k x.2.1 (by omega) (by omega)
 have g1 : wd3 k x.2.2.1 x.2.2.1 = some true := qleqSiteS k x.2.2.1 (by omega) (by omega)
 have g2 : w73 k x.2.2.2.2.2.2.2.2.1 x.2.2.2.2.2.2.2.2.1 = some true := qleqZoneS k x.2.2.2.2.2.2.2.2.1 (by omega) (by omega)
 refine (eleqSky k x x).trans ?_
 simp only [g0, g1, g2, Option.bind_some, bne_self_eq_false, beq_self_eq_true, Bool.not_true, Bool.false_eq_true, if_false]
theorem qleqStream (k : Nat) (x : Int × Int × List Int) (hz : szT z1 x ≤ 140737488351232) (hk : szT z1 x + 2 < k) : yk3 k x x = some true := by
 obtain ⟨k, rfl⟩ : ∃ q, k = q + 1 := ⟨k - 1, by omega⟩
 have hk' : (szT (.i .i64) x.1 + (szT (.i .i64) x.2.1 + szT (.l 3 (.i .i64)) x.2.2)) + 2 < k + 1 := hk
 have hz' : (szT (.i .i64) x.1 + (szT (.i .i64) x.2.1 + szT (.l 3 (.i .i64)) x.2.2)) ≤ 140737488351232 := hz
 have g0 : v21 k x.2.2 x.2.2 = some true := zn3 k x.2.2 (by omega) (by omega)
 refine (eleqStream k x x).trans ?_
 simp only [g0, Option.bind_some, bne_self_eq_false, beq_self_eq_true, Bool.not_true, Bool.false_eq_true, if_false]
theorem qleqStreamS (k : Nat) (x : List (Int × Int × List Int)) (hz : szT (.l 120 z1) x ≤ 140737488351232) (hk : szT (.l 120 z1) x + 3 < k) : z62 k x x = some true := by
 obtain ⟨k, rfl⟩ : ∃ q, k = q + 1 := ⟨k - 1, by omega⟩
 have hk' : x.length + sumL (szT z1) x + 3 < k + 1 := hk
 have hz' : x.length + sumL (szT z1) x ≤ 140737488351232 := hz
 refine (eleqStreamS k x x).trans ?_
 rw [if_neg (by simp)]
 exact vv (α := Int × Int × List Int) (L := xz1 k _ _ (x, x)) (f := fun y z => yk3 k y z) (fun _ _ => rfl) (a := x) (fun y hy => qleqStream k y (by have := z8 (f := szT z1) hy; omega) (by have := z8 (f := szT z1) hy; omega)) (by omega) x.length k 0 (by omega) (by omega)
theorem qleqWorld (k : Nat) (x : (Int × (List I4) × (List I3) × Int × Int × Int × Int × Int × (List I3) × Int) × (Int × Int × Int × List (I2 × (List I2) × List (Int × (List Int) × List Int))) × (List Int) × (List Int) × (List I6) × (List (List I6)) × (List I4) × (List Int) × (List (Int × Int × List Int)) × (List I4) × Int × Int × (List I6) × List I4) (hz : szT xb x ≤ 140737488351232) (hk : szT xb x + 7 < k) : ym2 k x x = some true := by
 obtain ⟨k, rfl⟩ : ∃ q, k = q + 1 := ⟨k - 1, by omega⟩
 have hk' : (szT sSky x.1 + (szT j3 x.2.1 + (szT sLaw x.2.2.1 + (szT (.l 3 (.i .i64)) x.2.2.2.1 + (szT (.l 164 sI6) x.2.2.2.2.1 + (szT (.l 113 j5) x.2.2.2.2.2.1 + (szT (.l 169 sI4) x.2.2.2.2.2.2.1 + (szT (.l 3 (.i .i64)) x.2.2.2.2.2.2.2.1 + (szT (.l 120 z1) x.2.2.2.2.2.2.2.2.1 + (szT (.l 174 sI4) x.2.2.2.2.2.2.2.2.2.1 + (szT (.i .i64) x.2.2.2.2.2.2.2.2.2.2.1 + (szT (.i .i64) x.2.2.2.2.2.2.2.2.2.2.2.1 + (szT (.l 115 sI6) x.2.2.2.2.2.2.2.2.2.2.2.2.1 + szT (.l 69 sI4) x.2.2.2.2.2.2.2.2.2.2.2.2.2))))))))))))) + 7 < k + 1 := hk
 have hz' : (szT sSky x.1 + (szT j3 x.2.1 + (szT sLaw x.2.2.1 + (szT (.l 3 (.i .i64)) x.2.2.2.1 + (szT (.l 164 sI6) x.2.2.2.2.1 + (szT (.l 113 j5) x.2.2.2.2.2.1 + (szT (.l 169 sI4) x.2.2.2.2.2.2.1 + (szT (.l 3 (.i .i64)) x.2.2.2.2.2.2.2.1 + (szT (.l 120 z1) x.2.2.2.2.2.2.2.2.1 + (szT (.l 174 sI4) x.2.2.2.2.2.2.2.2.2.1 + (szT (.i .i64) x.2.2.2.2.2.2.2.2.2.2.1 + (szT (.i .i64) x.2.2.2.2.2.2.2.2.2.2.2.1 + (szT (.l 115 sI6) x.2.2.2.2.2.2.2.2.2.2.2.2.1 + szT (.l 69 sI4) x.2.2.2.2.2.2.2.2.2.2.2.2.2))))))))))))) ≤ 140737488351232 := hz
 have g0 : FleqSky k x.1 x.1 = some true := qleqSky k x.1 (by omega) (by omega)
 have g1 : jr2 k x.2.1 x.2.1 = some true := qleqProgram k x.2.1 (by omega) (by omega)
 have g2 : FleqLaw k x.2.2.1 x.2.2.1 = some true := qleqLaw k x.2.2.1 (by omega) (by omega)
 have g3 : v21 k x.2.2.2.1 x.2.2.2.1 = some true := zn3 k x.2.2.2.1 (by omega) (by omega)
 have g4 : zv1 k x.2.2.2.2.1 x.2.2.2.2.1 = some true := qleqBatteryS k x.2.2.2.2.1 (by omega) (by omega)
 have g5 : vk2 k x.2.2.2.2.2.1 x.2.2.2.2.2.1 = some true := qleqQueueS k x.2.2.2.2.2.1 (by omega) (by omega)
 have g6 : xe3 k x.2.2.2.2.2.2.1 x.2.2.2.2.2.2.1 = some true := qleqFlowS k x.2.2.2.2.2.2.1 (by omega) (by omega)
 have g7 : v21 k x.2.2.2.2.2.2.2.1 x.2.2.2.2.2.2.2.1 = some true := zn3 k x.2.2.2.2.2.2.2.1 (by omega) (by omega)
 have g8 : z62 k x.2.2.2.2.2.2.2.2.1 x.2.2.2.2.2.2.2.2.1 = some true := qleqStreamS k x.2.2.2.2.2.2.2.2.1 (by omega) (by omega)
 have g9 : wm2 k x.2.2.2.2.2.2.2.2.2.1 x.2.2.2.2.2.2.2.2.2.1 = some true := qleqFaultS k x.2.2.2.2.2.2.2.2.2.1 (by omega) (by omega)
 have g10 : zg1 k x.2.2.2.2.2.2.2.2.2.2.2.2.1 x.2.2.2.2.2.2.2.2.2.2.2.2.1 = some true := qleqPacketS k x.2.2.2.2.2.2.2.2.2.2.2.2.1 (by omega) (by omega)
 have g11 : xi3 k x.2.2.2.2.2.2.2.2.2.2.2.2.2 x.2.2.2.2.2.2.2.2.2.2.2.2.2 = some true := qleqSentS k x.2.2.2.2.2.2.2.2.2.2.2.2.2 (by omega) (by omega)
 refine (eleqWorld k x x).trans ?_
 simp only [g0, g1, g2, g3, g4, g5, g6, g7, g8, g9, g10, g11, Option.bind_some, bne_self_eq_false, beq_self_eq_true, Bool.not_true, Bool.false_eq_true, if_false]
theorem hlheldBatteryS (k : Nat) (x : List I6) (m : Int) (h0 : 0 ≤ m) (hB : m + 16 * szT (.l 164 sI6) x ≤ 1152921504606846976) (hz : szT (.l 164 sI6) x ≤ 140737488351232) (hk : szT (.l 164 sI6) x + 1 < k) : vt1 k (mkT (.l 164 sI6) x m).1 m = some (mkT (.l 164 sI6) x m).2 := by
 obtain ⟨k, rfl⟩ : ∃ q, k = q + 1 := ⟨k - 1, by omega⟩
 have hz' : x.length + sumL (szT sI6) x ≤ 140737488351232 := hz
 have hk' : x.length + sumL (szT sI6) x + 1 < k + 1 := hk
 have hB' : m + 16 * ((x.length + sumL (szT sI6) x : Nat) : Int) ≤ 1152921504606846976 := hB
 obtain ⟨a, ha⟩ : ∃ a : List I6, (mkT (.l 164 sI6) x m).1 = a := ⟨_, rfl⟩
 rw [ha]
 refine (elheldBatteryS k a m).trans ?_
 refine (zn (α := Int × Int × Int × Int × Int × Int) (L := zf1 k _ _ _ _ _ _ _ _) (X := fun v => some v.1) (fun i m => (m, i)) (f := mkE sI6) (s := szT sI6) (B := 1152921504606846976) (P := fun y => szT sI6 y + 0 < k ∧ szT sI6 y ≤ 140737488351232) (r := x) (m := m) ha.symm (fun n i m x hi hx hP h0 hB hn hlt hin hw => ?_) (fun n m => ?_) (fun x m => ?_) (fun y hy => ?_) (by omega) (by omega) h0 hB')
 · have hd : decide ((i : Int) < (a.length : Int)) = true := decide_eq_true hlt
   have e1 : mkE sI6 x m = ((m, (m + 1), ((m + 1) + 1), (((m + 1) + 1) + 1), ((((m + 1) + 1) + 1) + 1), (((((m + 1) + 1) + 1) + 1) + 1)), ((((((m + 1) + 1) + 1) + 1) + 1) + 1)) := rfl
   have es : szT sI6 x = 0 := xc _ _ rfl
   rw [es] at hB
   have w0 : IntKind.i64.wrap (m + 1) = m + 1 := v6 (by omega) (by omega)
   have w1 : IntKind.i64.wrap ((m + 1) + 1) = (m + 1) + 1 := v6 (by omega) (by omega)
   have w2 : IntKind.i64.wrap (((m + 1) + 1) + 1) = ((m + 1) + 1) + 1 := v6 (by omega) (by omega)
   have w3 : IntKind.i64.wrap ((((m + 1) + 1) + 1) + 1) = (((m + 1) + 1) + 1) + 1 := v6 (by omega) (by omega)
   have w4 : IntKind.i64.wrap (((((m + 1) + 1) + 1) + 1) + 1) = ((((m + 1) + 1) + 1) + 1) + 1 := v6 (by omega) (by omega)
   have w5 : IntKind.i64.wrap ((((((m + 1) + 1) + 1) + 1) + 1) + 1) = (((((m + 1) + 1) + 1) + 1) + 1) + 1 := v6 (by omega) (by omega)
   rw [e1] at hx
   show zu k _ _ _ _ _ _ _ _ _ _ = _
   simp only [zu, hd, if_true, if_pos hn, hin, va hx, hw, e1, w0, w1, w2, w3, w4, w5, Option.bind_some, bne_self_eq_false, Bool.false_eq_true, if_false]
 · show zu k _ _ _ _ _ _ _ _ _ _ = _
   simp only [zu]
   rw [if_neg (by simp)]
 · have := yq sI6 x m rfl
   have hl : Sh.leafs sI6 ≤ 16 := by decide
   omega
 · have := z8 (f := szT sI6) hy
   constructor <;> omega
theorem hlheldFaultS (k : Nat) (x : List I4) (m : Int) (h0 : 0 ≤ m) (hB : m + 16 * szT (.l 174 sI4) x ≤ 1152921504606846976) (hz : szT (.l 174 sI4) x ≤ 140737488351232) (hk : szT (.l 174 sI4) x + 1 < k) : vb2 k (mkT (.l 174 sI4) x m).1 m = some (mkT (.l 174 sI4) x m).2 := by
 obtain ⟨k, rfl⟩ : ∃ q, k = q + 1 := ⟨k - 1, by omega⟩
 have hz' : x.length + sumL (szT sI4) x ≤ 140737488351232 := hz
 have hk' : x.length + sumL (szT sI4) x + 1 < k + 1 := hk
 have hB' : m + 16 * ((x.length + sumL (szT sI4) x : Nat) : Int) ≤ 1152921504606846976 := hB
 obtain ⟨a, ha⟩ : ∃ a : List I4, (mkT (.l 174 sI4) x m).1 = a := ⟨_, rfl⟩
 rw [ha]
 refine (elheldFaultS k a m).trans ?_
 refine (zn (α := Int × Int × Int × Int) (L := js1 k _ _ _ _ _ _) (X := fun v => some v.1) (fun i m => (m, i)) (f := mkE sI4) (s := szT sI4) (B := 1152921504606846976) (P := fun y => szT sI4 y + 0 < k ∧ szT sI4 y ≤ 140737488351232) (r := x) (m := m) ha.symm (fun n i m x hi hx hP h0 hB hn hlt hin hw => ?_) (fun n m => ?_) (fun x m => ?_) (fun y hy => ?_) (by omega) (by omega) h0 hB')
 · have hd : decide ((i : Int) < (a.length : Int)) = true := decide_eq_true hlt
   have e1 : mkE sI4 x m = ((m, (m + 1), ((m + 1) + 1), (((m + 1) + 1) + 1)), ((((m + 1) + 1) + 1) + 1)) := rfl
   have es : szT sI4 x = 0 := xc _ _ rfl
   rw [es] at hB
   have w0 : IntKind.i64.wrap (m + 1) = m + 1 := v6 (by omega) (by omega)
   have w1 : IntKind.i64.wrap ((m + 1) + 1) = (m + 1) + 1 := v6 (by omega) (by omega)
   have w2 : IntKind.i64.wrap (((m + 1) + 1) + 1) = ((m + 1) + 1) + 1 := v6 (by omega) (by omega)
   have w3 : IntKind.i64.wrap ((((m + 1) + 1) + 1) + 1) = (((m + 1) + 1) + 1) + 1 := v6 (by omega) (by omega)
   rw [e1] at hx
   show v61 k _ _ _ _ _ _ _ _ = _
   simp only [v61, hd, if_true, if_pos hn, hin, va hx, hw, e1, w0, w1, w2, w3, Option.bind_some, bne_self_eq_false, Bool.false_eq_true, if_false]
 · show v61 k _ _ _ _ _ _ _ _ = _
   simp only [v61]
   rw [if_neg (by simp)]
 · have := yq sI4 x m rfl
   have hl : Sh.leafs sI4 ≤ 16 := by decide
   omega
 · have := z8 (f := szT sI4) hy
   constructor <;> omega
theorem hlheldFlowS (k : Nat) (x : List I4) (m : Int) (h0 : 0 ≤ m) (hB : m + 16 * szT (.l 169 sI4) x ≤ 1152921504606846976) (hz : szT (.l 169 sI4) x ≤ 140737488351232) (hk : szT (.l 169 sI4) x + 1 < k) : jo2 k (mkT (.l 169 sI4) x m).1 m = some (mkT (.l 169 sI4) x m).2 := by
 obtain ⟨k, rfl⟩ : ∃ q, k = q + 1 := ⟨k - 1, by omega⟩
 have hz' : x.length + sumL (szT sI4) x ≤ 140737488351232 := hz
 have hk' : x.length + sumL (szT sI4) x + 1 < k + 1 := hk
 have hB' : m + 16 * ((x.length + sumL (szT sI4) x : Nat) : Int) ≤ 1152921504606846976 := hB
 obtain ⟨a, ha⟩ : ∃ a : List I4, (mkT (.l 169 sI4) x m).1 = a := ⟨_, rfl⟩
 rw [ha]
 refine (elheldFlowS k a m).trans ?_
 refine (zn (α := Int × Int × Int × Int) (L := y02 k _ _ _ _ _ _) (X := fun v => some v.1) (fun i m => (m, i)) (f := mkE sI4) (s := szT sI4) (B := 1152921504606846976) (P := fun y => szT sI4 y + 0 < k ∧ szT sI4 y ≤ 140737488351232) (r := x) (m := m) ha.symm (fun n i m x hi hx hP h0 hB hn hlt hin hw => ?_) (fun n m => ?_) (fun x m => ?_) (fun y hy => ?_) (by omega) (by omega) h0 hB')
 · have hd : decide ((i : Int) < (a.length : Int)) = true := decide_eq_true hlt
   have e1 : mkE sI4 x m = ((m, (m + 1), ((m + 1) + 1), (((m + 1) + 1) + 1)), ((((m + 1) + 1) + 1) + 1)) := rfl
   have es : szT sI4 x = 0 := xc _ _ rfl
   rw [es] at hB
   have w0 : IntKind.i64.wrap (m + 1) = m + 1 := v6 (by omega) (by omega)
   have w1 : IntKind.i64.wrap ((m + 1) + 1) = (m + 1) + 1 := v6 (by omega) (by omega)
   have w2 : IntKind.i64.wrap (((m + 1) + 1) + 1) = ((m + 1) + 1) + 1 := v6 (by omega) (by omega)
   have w3 : IntKind.i64.wrap ((((m + 1) + 1) + 1) + 1) = (((m + 1) + 1) + 1) + 1 := v6 (by omega) (by omega)
   rw [e1] at hx
   show wb1 k _ _ _ _ _ _ _ _ = _
   simp only [wb1, hd, if_true, if_pos hn, hin, va hx, hw, e1, w0, w1, w2, w3, Option.bind_some, bne_self_eq_false, Bool.false_eq_true, if_false]
 · show wb1 k _ _ _ _ _ _ _ _ = _
   simp only [wb1]
   rw [if_neg (by simp)]
 · have := yq sI4 x m rfl
   have hl : Sh.leafs sI4 ≤ 16 := by decide
   omega
 · have := z8 (f := szT sI4) hy
   constructor <;> omega
theorem w42 (k : Nat) (x : List Int) (m : Int) (h0 : 0 ≤ m) (hB : m + 16 * szT (.l 3 (.i .i64)) x ≤ 1152921504606846976) (hz : szT (.l 3 (.i .i64)) x ≤ 140737488351232) (hk : szT (.l 3 (.i .i64)) x + 1 < k) : zc1 k (mkT (.l 3 (.i .i64)) x m).1 m = some (mkT (.l 3 (.i .i64)) x m).2 := by
 obtain ⟨k, rfl⟩ : ∃ q, k = q + 1 := ⟨k - 1, by omega⟩
 have hz' : x.length + sumL (szT (.i .i64)) x ≤ 140737488351232 := hz
 have hk' : x.length + sumL (szT (.i .i64)) x + 1 < k + 1 := hk
 have hB' : m + 16 * ((x.length + sumL (szT (.i .i64)) x : Nat) : Int) ≤ 1152921504606846976 := hB
 obtain ⟨a, ha⟩ : ∃ a : List Int, (mkT (.l 3 (.i .i64)) x m).1 = a := ⟨_, rfl⟩
 rw [ha]
 refine (elheldIntS k a m).trans ?_
 refine (zn (α := Int) (L := yc2 k _ _ _) (X := fun v => some v.1) (fun i m => (m, i)) (f := mkE (.i .i64)) (s := szT (.i .i64)) (B := 1152921504606846976) (P := fun y => szT (.i .i64) y + 0 < k ∧ szT (.i .i64) y ≤ 140737488351232) (r := x) (m := m) ha.symm (fun n i m x hi hx hP h0 hB hn hlt hin hw => ?_) (fun n m => ?_) (fun x m => ?_) (fun y hy => ?_) (by omega) (by omega) h0 hB')
 · have hd : decide ((i : Int) < (a.length : Int)) = true := decide_eq_true hlt
   have e1 : mkE (.i .i64) x m = (m, (m + 1)) := rfl
   have es : szT (.i .i64) x = 0 := xc _ _ rfl
   rw [es] at hB
   have w0 : IntKind.i64.wrap (m + 1) = m + 1 := v6 (by omega) (by omega)
   rw [e1] at hx
   show wi1 k _ _ _ _ _ = _
   simp only [wi1, hd, if_true, if_pos hn, hin, va hx, hw, e1, w0, Option.bind_some, bne_self_eq_false, Bool.false_eq_true, if_false]
 · show wi1 k _ _ _ _ _ = _
   simp only [wi1]
   rw [if_neg (by simp)]
 · have := yq (.i .i64) x m rfl
   have hl : Sh.leafs (.i .i64) ≤ 16 := by decide
   omega
 · have := z8 (f := szT (.i .i64)) hy
   constructor <;> omega
theorem hlheldLaw (k : Nat) (x : List Int) (m : Int) (h0 : 0 ≤ m) (hB : m + 16 * szT sLaw x ≤ 1152921504606846976) (hz : szT sLaw x ≤ 140737488351232) (hk : szT sLaw x + 2 < k) : FlheldLaw k (mkT sLaw x m).1 m = some (mkT sLaw x m).2 := by
 obtain ⟨k, rfl⟩ : ∃ q, k = q + 1 := ⟨k - 1, by omega⟩
 have es : szT sLaw x = szT (.l 3 (.i .i64)) x := rfl
 rw [es] at hB hz hk
 have b0 := vf (.l 3 (.i .i64)) x m rfl
 have g0 := w42 k x m (by omega) (by omega) (by omega) (by omega)
 have n0 : decide ((mkT (.l 3 (.i .i64)) x m).2 < 0) = false := by rw [decide_eq_false]; omega
 refine (elheldLaw k _ m).trans ?_
 refine (congrArg (fun z => Option.bind z _) g0).trans ?_
 rw [Option.bind_some]
 refine (if_neg (by rw [n0]; decide)).trans ?_
 rfl
theorem x64 (k : Nat) (x : List I6) (m : Int) (h0 : 0 ≤ m) (hB : m + 16 * szT (.l 115 sI6) x ≤ 1152921504606846976) (hz : szT (.l 115 sI6) x ≤ 140737488351232) (hk : szT (.l 115 sI6) x + 1 < k) : xm1 k (mkT (.l 115 sI6) x m).1 m = some (mkT (.l 115 sI6) x m).2 := by
 obtain ⟨k, rfl⟩ : ∃ q, k = q + 1 := ⟨k - 1, by omega⟩
 have hz' : x.length + sumL (szT sI6) x ≤ 140737488351232 := hz
 have hk' : x.length + sumL (szT sI6) x + 1 < k + 1 := hk
 have hB' : m + 16 * ((x.length + sumL (szT sI6) x : Nat) : Int) ≤ 1152921504606846976 := hB
 obtain ⟨a, ha⟩ : ∃ a : List I6, (mkT (.l 115 sI6) x m).1 = a := ⟨_, rfl⟩
 rw [ha]
 refine (elheldPacketS k a m).trans ?_
 refine (zn (α := Int × Int × Int × Int × Int × Int) (L := jk1 k _ _ _ _ _ _ _ _) (X := fun v => some v.1) (fun i m => (m, i)) (f := mkE sI6) (s := szT sI6) (B := 1152921504606846976) (P := fun y => szT sI6 y + 0 < k ∧ szT sI6 y ≤ 140737488351232) (r := x) (m := m) ha.symm (fun n i m x hi hx hP h0 hB hn hlt hin hw => ?_) (fun n m => ?_) (fun x m => ?_) (fun y hy => ?_) (by omega) (by omega) h0 hB')
 · have hd : decide ((i : Int) < (a.length : Int)) = true := decide_eq_true hlt
   have e1 : mkE sI6 x m = ((m, (m + 1), ((m + 1) + 1), (((m + 1) + 1) + 1), ((((m + 1) + 1) + 1) + 1), (((((m + 1) + 1) + 1) + 1) + 1)), ((((((m + 1) + 1) + 1) + 1) + 1) + 1)) := rfl
   have es : szT sI6 x = 0 := xc _ _ rfl
   rw [es] at hB
   have w0 : IntKind.i64.wrap (m + 1) = m + 1 := v6 (by omega) (by omega)
   have w1 : IntKind.i64.wrap ((m + 1) + 1) = (m + 1) + 1 := v6 (by omega) (by omega)
   have w2 : IntKind.i64.wrap (((m + 1) + 1) + 1) = ((m + 1) + 1) + 1 := v6 (by omega) (by omega)
   have w3 : IntKind.i64.wrap ((((m + 1) + 1) + 1) + 1) = (((m + 1) + 1) + 1) + 1 := v6 (by omega) (by omega)
   have w4 : IntKind.i64.wrap (((((m + 1) + 1) + 1) + 1) + 1) = ((((m + 1) + 1) + 1) + 1) + 1 := v6 (by omega) (by omega)
   have w5 : IntKind.i64.wrap ((((((m + 1) + 1) + 1) + 1) + 1) + 1) = (((((m + 1) + 1) + 1) + 1) + 1) + 1 := v6 (by omega) (by omega)
   rw [e1] at hx
   show jy k _ _ _ _ _ _ _ _ _ _ = _
   simp only [jy, hd, if_true, if_pos hn, hin, va hx, hw, e1, w0, w1, w2, w3, w4, w5, Option.bind_some, bne_self_eq_false, Bool.false_eq_true, if_false]
 · show jy k _ _ _ _ _ _ _ _ _ _ = _
   simp only [jy]
   rw [if_neg (by simp)]
 · have := yq sI6 x m rfl
   have hl : Sh.leafs sI6 ≤ 16 := by decide
   omega
 · have := z8 (f := szT sI6) hy
   constructor <;> omega
theorem hlheldLinkS (k : Nat) (x : List I2) (m : Int) (h0 : 0 ≤ m) (hB : m + 16 * szT (.l 264 sI2) x ≤ 1152921504606846976) (hz : szT (.l 264 sI2) x ≤ 140737488351232) (hk : szT (.l 264 sI2) x + 1 < k) : wr2 k (mkT (.l 264 sI2) x m).1 m = some (mkT (.l 264 sI2) x m).2 := by
 obtain ⟨k, rfl⟩ : ∃ q, k = q + 1 := ⟨k - 1, by omega⟩
 have hz' : x.length + sumL (szT sI2) x ≤ 140737488351232 := hz
 have hk' : x.length + sumL (szT sI2) x + 1 < k + 1 := hk
 have hB' : m + 16 * ((x.length + sumL (szT sI2) x : Nat) : Int) ≤ 1152921504606846976 := hB
 obtain ⟨a, ha⟩ : ∃ a : List I2, (mkT (.l 264 sI2) x m).1 = a := ⟨_, rfl⟩
 rw [ha]
 refine (elheldLinkS k a m).trans ?_
 refine (zn (α := Int × Int) (L := y32 k _ _ _ _) (X := fun v => some v.1) (fun i m => (m, i)) (f := mkE sI2) (s := szT sI2) (B := 1152921504606846976) (P := fun y => szT sI2 y + 0 < k ∧ szT sI2 y ≤ 140737488351232) (r := x) (m := m) ha.symm (fun n i m x hi hx hP h0 hB hn hlt hin hw => ?_) (fun n m => ?_) (fun x m => ?_) (fun y hy => ?_) (by omega) (by omega) h0 hB')
 · have hd : decide ((i : Int) < (a.length : Int)) = true := decide_eq_true hlt
   have e1 : mkE sI2 x m = ((m, (m + 1)), ((m + 1) + 1)) := rfl
   have es : szT sI2 x = 0 := xc _ _ rfl
   rw [es] at hB
   have w0 : IntKind.i64.wrap (m + 1) = m + 1 := v6 (by omega) (by omega)
   have w1 : IntKind.i64.wrap ((m + 1) + 1) = (m + 1) + 1 := v6 (by omega) (by omega)
   rw [e1] at hx
   show ya1 k _ _ _ _ _ _ = _
   simp only [ya1, hd, if_true, if_pos hn, hin, va hx, hw, e1, w0, w1, Option.bind_some, bne_self_eq_false, Bool.false_eq_true, if_false]
 · show ya1 k _ _ _ _ _ _ = _
   simp only [ya1]
   rw [if_neg (by simp)]
 · have := yq sI2 x m rfl
   have hl : Sh.leafs sI2 ≤ 16 := by decide
   omega
 · have := z8 (f := szT sI2) hy
   constructor <;> omega
theorem hlheldTableS (k : Nat) (x : List (Int × (List Int) × List Int)) (m : Int) (h0 : 0 ≤ m) (hB : m + 16 * szT (.l 147 j2) x ≤ 1152921504606846976) (hz : szT (.l 147 j2) x ≤ 140737488351232) (hk : szT (.l 147 j2) x + 2 < k) : wf2 k (mkT (.l 147 j2) x m).1 m = some (mkT (.l 147 j2) x m).2 := by
 obtain ⟨k, rfl⟩ : ∃ q, k = q + 1 := ⟨k - 1, by omega⟩
 have hz' : x.length + sumL (szT j2) x ≤ 140737488351232 := hz
 have hk' : x.length + sumL (szT j2) x + 2 < k + 1 := hk
 have hB' : m + 16 * ((x.length + sumL (szT j2) x : Nat) : Int) ≤ 1152921504606846976 := hB
 obtain ⟨a, ha⟩ : ∃ a : List (Int × (List Int) × List Int), (mkT (.l 147 j2) x m).1 = a := ⟨_, rfl⟩
 rw [ha]
 refine (elheldTableS k a m).trans ?_
 refine (zn (α := Int × (List Int) × List Int) (L := xt1 k _ _ _ _ _) (X := fun v => some v.1) (fun i m => (m, i)) (f := mkE j2) (s := szT j2) (B := 1152921504606846976) (P := fun y => szT j2 y + 1 < k ∧ szT j2 y ≤ 140737488351232) (r := x) (m := m) ha.symm (fun n i m x hi hx hP h0 hB hn hlt hin hw => ?_) (fun n m => ?_) (fun x m => ?_) (fun y hy => ?_) (by omega) (by omega) h0 hB')
 · have hd : decide ((i : Int) < (a.length : Int)) = true := decide_eq_true hlt
   have e1 : mkE j2 x m = ((m, (mkT (.l 3 (.i .i64)) x.2.1 (m + 1)).1, (mkT (.l 3 (.i .i64)) x.2.2 (mkT (.l 3 (.i .i64)) x.2.1 (m + 1)).2).1), (mkT (.l 3 (.i .i64)) x.2.2 (mkT (.l 3 (.i .i64)) x.2.1 (m + 1)).2).2) := rfl
   have es : szT j2 x = (0 + (szT (.l 3 (.i .i64)) x.2.1 + szT (.l 3 (.i .i64)) x.2.2)) := rfl
   have b0 := vf (.l 3 (.i .i64)) x.2.1 (m + 1) rfl
   have b1 := vf (.l 3 (.i .i64)) x.2.2 ((mkT (.l 3 (.i .i64)) x.2.1 (m + 1)).2) rfl
   obtain ⟨hP1, hP2⟩ := hP
   rw [es] at hP1 hP2 hB
   have g0 := w42 k x.2.1 (m + 1) (by omega) (by omega) (by omega) (by omega)
   have g1 := w42 k x.2.2 ((mkT (.l 3 (.i .i64)) x.2.1 (m + 1)).2) (by omega) (by omega) (by omega) (by omega)
   have w0 : IntKind.i64.wrap (m + 1) = m + 1 := v6 (by omega) (by omega)
   have n0 : decide ((mkT (.l 3 (.i .i64)) x.2.1 (m + 1)).2 < 0) = false := by rw [decide_eq_false]; omega
   have n1 : decide ((mkT (.l 3 (.i .i64)) x.2.2 ((mkT (.l 3 (.i .i64)) x.2.1 (m + 1)).2)).2 < 0) = false := by rw [decide_eq_false]; omega
   rw [e1] at hx
   show x51 k _ _ _ _ _ _ _ = _
   simp only [x51, hd, if_true, if_pos hn, hin, va hx, hw, e1, w0, g0, g1, Option.bind_some, n0, n1, bne_self_eq_false, Bool.false_eq_true, if_false]
   try rfl
 · show x51 k _ _ _ _ _ _ _ = _
   simp only [x51]
   rw [if_neg (by simp)]
 · have := yq j2 x m rfl
   have hl : Sh.leafs j2 ≤ 16 := by decide
   omega
 · have := z8 (f := szT j2) hy
   constructor <;> omega
theorem hlheldPieceS (k : Nat) (x : List (I2 × (List I2) × List (Int × (List Int) × List Int))) (m : Int) (h0 : 0 ≤ m) (hB : m + 16 * szT (.l 157 j4) x ≤ 1152921504606846976) (hz : szT (.l 157 j4) x ≤ 140737488351232) (hk : szT (.l 157 j4) x + 3 < k) : yd2 k (mkT (.l 157 j4) x m).1 m = some (mkT (.l 157 j4) x m).2 := by
 obtain ⟨k, rfl⟩ : ∃ q, k = q + 1 := ⟨k - 1, by omega⟩
 have hz' : x.length + sumL (szT j4) x ≤ 140737488351232 := hz
 have hk' : x.length + sumL (szT j4) x + 3 < k + 1 := hk
 have hB' : m + 16 * ((x.length + sumL (szT j4) x : Nat) : Int) ≤ 1152921504606846976 := hB
 obtain ⟨a, ha⟩ : ∃ a : List (I2 × (List I2) × List (Int × (List Int) × List Int)), (mkT (.l 157 j4) x m).1 = a := ⟨_, rfl⟩
 rw [ha]
 refine (elheldPieceS k a m).trans ?_
 refine (zn (α := I2 × (List I2) × List (Int × (List Int) × List Int)) (L := xs1 k _ _ _ _ _ _) (X := fun v => some v.1) (fun i m => (m, i)) (f := mkE j4) (s := szT j4) (B := 1152921504606846976) (P := fun y => szT j4 y + 2 < k ∧ szT j4 y ≤ 140737488351232) (r := x) (m := m) ha.symm (fun n i m x hi hx hP h0 hB hn hlt hin hw => ?_) (fun n m => ?_) (fun x m => ?_) (fun y hy => ?_) (by omega) (by omega) h0 hB')
 · have hd : decide ((i : Int) < (a.length : Int)) = true := decide_eq_true hlt
   have e1 : mkE j4 x m = (((m, (m + 1)), (mkT (.l 264 sI2) x.2.1 ((m + 1) + 1)).1, (mkT (.l 147 j2) x.2.2 (mkT (.l 264 sI2) x.2.1 ((m + 1) + 1)).2).1), (mkT (.l 147 j2) x.2.2 (mkT (.l 264 sI2) x.2.1 ((m + 1) + 1)).2).2) := rfl
   have es : szT j4 x = ((0 + 0) + (szT (.l 264 sI2) x.2.1 + szT (.l 147 j2) x.2.2)) := rfl
   have b0 := vf (.l 264 sI2) x.2.1 ((m + 1) + 1) rfl
   have b1 := vf (.l 147 j2) x.2.2 ((mkT (.l 264 sI2) x.2.1 ((m + 1) + 1)).2) rfl
   obtain ⟨hP1, hP2⟩ := hP
   rw [es] at hP1 hP2 hB
   have g0 := hlheldLinkS k x.2.1 ((m + 1) + 1) (by omega) (by omega) (by omega) (by omega)
   have g1 := hlheldTableS k x.2.2 ((mkT (.l 264 sI2) x.2.1 ((m + 1) + 1)).2) (by omega) (by omega) (by omega) (by omega)
   have w0 : IntKind.i64.wrap (m + 1) = m + 1 := v6 (by omega) (by omega)
   have w1 : IntKind.i64.wrap ((m + 1) + 1) = (m + 1) + 1 := v6 (by omega) (by omega)
   have n0 : decide ((mkT (.l 264 sI2) x.2.1 ((m + 1) + 1)).2 < 0) = false := by rw [decide_eq_false]; omega
   have n1 : decide ((mkT (.l 147 j2) x.2.2 ((mkT (.l 264 sI2) x.2.1 ((m + 1) + 1)).2)).2 < 0) = false := by rw [decide_eq_false]; omega
   rw [e1] at hx
   show y51 k _ _ _ _ _ _ _ _ = _
   simp only [y51, hd, if_true, if_pos hn, hin, va hx, hw, e1, w0, w1, g0, g1, Option.bind_some, n0, n1, bne_self_eq_false, Bool.false_eq_true, if_false]
   try rfl
 · show y51 k _ _ _ _ _ _ _ _ = _
   simp only [y51]
   rw [if_neg (by simp)]
 · have := yq j4 x m rfl
   have hl : Sh.leafs j4 ≤ 16 := by decide
   omega
 · have := z8 (f := szT j4) hy
   constructor <;> omega
theorem hlheldProgram (k : Nat) (x : Int × Int × Int × List (I2 × (List I2) × List (Int × (List Int) × List Int))) (m : Int) (h0 : 0 ≤ m) (hB : m + 16 * szT j3 x ≤ 1152921504606846976) (hz : szT j3 x ≤ 140737488351232) (hk : szT j3 x + 4 < k) : yn2 k (mkT j3 x m).1 m = some (mkT j3 x m).2 := by
 obtain ⟨k, rfl⟩ : ∃ q, k = q + 1 := ⟨k - 1, by omega⟩
 have es : szT j3 x = (0 + (0 + (0 + szT (.l 157 j4) x.2.2.2))) := rfl
 rw [es] at hB hz hk
 have b0 := vf (.l 157 j4) x.2.2.2 m rfl
 have g0 := hlheldPieceS k x.2.2.2 m (by omega) (by omega) (by omega) (by omega)
 have n0 : decide ((mkT (.l 157 j4) x.2.2.2 m).2 < 0) = false := by rw [decide_eq_false]; omega
 refine (elheldProgram k _ m).trans ?_
 refine (congrArg (fun z => Option.bind z _) g0).trans ?_
 rw [Option.bind_some]
 refine (if_neg (by rw [n0]; decide)).trans ?_
 rfl
theorem hlheldQueueS (k : Nat) (x : List (List I6)) (m : Int) (h0 : 0 ≤ m) (hB : m + 16 * szT (.l 113 j5) x ≤ 1152921504606846976) (hz : szT (.l 113 j5) x ≤ 140737488351232) (hk : szT (.l 113 j5) x + 2 < k) : ya2 k (mkT (.l 113 j5) x m).1 m = some (mkT (.l 113 j5) x m).2 := by
 obtain ⟨k, rfl⟩ : ∃ q, k = q + 1 := ⟨k - 1, by omega⟩
 have hz' : x.length + sumL (szT j5) x ≤ 140737488351232 := hz
 have hk' : x.length + sumL (szT j5) x + 2 < k + 1 := hk
 have hB' : m + 16 * ((x.length + sumL (szT j5) x : Nat) : Int) ≤ 1152921504606846976 := hB
 obtain ⟨a, ha⟩ : ∃ a : List (List I6), (mkT (.l 113 j5) x m).1 = a := ⟨_, rfl⟩
 rw [ha]
 refine (elheldQueueS k a m).trans ?_
 refine (zn (α := List I6) (L := yr1 k _ _ _) (X := fun v => some v.1) (fun i m => (m, i)) (f := mkE j5) (s := szT j5) (B := 1152921504606846976) (P := fun y => szT j5 y + 1 < k ∧ szT j5 y ≤ 140737488351232) (r := x) (m := m) ha.symm (fun n i m x hi hx hP h0 hB hn hlt hin hw => ?_) (fun n m => ?_) (fun x m => ?_) (fun y hy => ?_) (by omega) (by omega) h0 hB')
 · have hd : decide ((i : Int) < (a.length : Int)) = true := decide_eq_true hlt
   have e1 : mkE j5 x m = ((mkT (.l 115 sI6) x m).1, (mkT (.l 115 sI6) x m).2) := rfl
   have es : szT j5 x = szT (.l 115 sI6) x := rfl
   have b0 := vf (.l 115 sI6) x m rfl
   obtain ⟨hP1, hP2⟩ := hP
   rw [es] at hP1 hP2 hB
   have g0 := x64 k x m (by omega) (by omega) (by omega) (by omega)
   have n0 : decide ((mkT (.l 115 sI6) x m).2 < 0) = false := by rw [decide_eq_false]; omega
   rw [e1] at hx
   show w51 k _ _ _ _ _ = _
   simp only [w51, hd, if_true, if_pos hn, hin, va hx, hw, e1, g0, Option.bind_some, n0, bne_self_eq_false, Bool.false_eq_true, if_false]
   try rfl
 · show w51 k _ _ _ _ _ = _
   simp only [w51]
   rw [if_neg (by simp)]
 · have := yq j5 x m rfl
   have hl : Sh.leafs j5 ≤ 16 := by decide
   omega
 · have := z8 (f := szT j5) hy
   constructor <;> omega
theorem hlheldSentS (k : Nat) (x : List I4) (m : Int) (h0 : 0 ≤ m) (hB : m + 16 * szT (.l 69 sI4) x ≤ 1152921504606846976) (hz : szT (.l 69 sI4) x ≤ 140737488351232) (hk : szT (.l 69 sI4) x + 1 < k) : xr2 k (mkT (.l 69 sI4) x m).1 m = some (mkT (.l 69 sI4) x m).2 := by
 obtain ⟨k, rfl⟩ : ∃ q, k = q + 1 := ⟨k - 1, by omega⟩
 have hz' : x.length + sumL (szT sI4) x ≤ 140737488351232 := hz
 have hk' : x.length + sumL (szT sI4) x + 1 < k + 1 := hk
 have hB' : m + 16 * ((x.length + sumL (szT sI4) x : Nat) : Int) ≤ 1152921504606846976 := hB
 obtain ⟨a, ha⟩ : ∃ a : List I4, (mkT (.l 69 sI4) x m).1 = a := ⟨_, rfl⟩
 rw [ha]
 refine (elheldSentS k a m).trans ?_
 refine (zn (α := Int × Int × Int × Int) (L := j22 k _ _ _ _ _ _) (X := fun v => some v.1) (fun i m => (m, i)) (f := mkE sI4) (s := szT sI4) (B := 1152921504606846976) (P := fun y => szT sI4 y + 0 < k ∧ szT sI4 y ≤ 140737488351232) (r := x) (m := m) ha.symm (fun n i m x hi hx hP h0 hB hn hlt hin hw => ?_) (fun n m => ?_) (fun x m => ?_) (fun y hy => ?_) (by omega) (by omega) h0 hB')
 · have hd : decide ((i : Int) < (a.length : Int)) = true := decide_eq_true hlt
   have e1 : mkE sI4 x m = ((m, (m + 1), ((m + 1) + 1), (((m + 1) + 1) + 1)), ((((m + 1) + 1) + 1) + 1)) := rfl
   have es : szT sI4 x = 0 := xc _ _ rfl
   rw [es] at hB
   have w0 : IntKind.i64.wrap (m + 1) = m + 1 := v6 (by omega) (by omega)
   have w1 : IntKind.i64.wrap ((m + 1) + 1) = (m + 1) + 1 := v6 (by omega) (by omega)
   have w2 : IntKind.i64.wrap (((m + 1) + 1) + 1) = ((m + 1) + 1) + 1 := v6 (by omega) (by omega)
   have w3 : IntKind.i64.wrap ((((m + 1) + 1) + 1) + 1) = (((m + 1) + 1) + 1) + 1 := v6 (by omega) (by omega)
   rw [e1] at hx
   show ja1 k _ _ _ _ _ _ _ _ = _
   simp only [ja1, hd, if_true, if_pos hn, hin, va hx, hw, e1, w0, w1, w2, w3, Option.bind_some, bne_self_eq_false, Bool.false_eq_true, if_false]
 · show ja1 k _ _ _ _ _ _ _ _ = _
   simp only [ja1]
   rw [if_neg (by simp)]
 · have := yq sI4 x m rfl
   have hl : Sh.leafs sI4 ≤ 16 := by decide
   omega
 · have := z8 (f := szT sI4) hy
   constructor <;> omega
theorem hlheldSatS (k : Nat) (x : List I4) (m : Int) (h0 : 0 ≤ m) (hB : m + 16 * szT (.l 224 sI4) x ≤ 1152921504606846976) (hz : szT (.l 224 sI4) x ≤ 140737488351232) (hk : szT (.l 224 sI4) x + 1 < k) : ym3 k (mkT (.l 224 sI4) x m).1 m = some (mkT (.l 224 sI4) x m).2 := by
 obtain ⟨k, rfl⟩ : ∃ q, k = q + 1 := ⟨k - 1, by omega⟩
 have hz' : x.length + sumL (szT sI4) x ≤ 140737488351232 := hz
 have hk' : x.length + sumL (szT sI4) x + 1 < k + 1 := hk
 have hB' : m + 16 * ((x.length + sumL (szT sI4) x : Nat) : Int) ≤ 1152921504606846976 := hB
 obtain ⟨a, ha⟩ : ∃ a : List I4, (mkT (.l 224 sI4) x m).1 = a := ⟨_, rfl⟩
 rw [ha]
 refine (elheldSatS k a m).trans ?_
 refine (zn (α := Int × Int × Int × Int) (L := j92 k _ _ _ _ _ _) (X := fun v => some v.1) (fun i m => (m, i)) (f := mkE sI4) (s := szT sI4) (B := 1152921504606846976) (P := fun y => szT sI4 y + 0 < k ∧ szT sI4 y ≤ 140737488351232) (r := x) (m := m) ha.symm (fun n i m x hi hx hP h0 hB hn hlt hin hw => ?_) (fun n m => ?_) (fun x m => ?_) (fun y hy => ?_) (by omega) (by omega) h0 hB')
 · have hd : decide ((i : Int) < (a.length : Int)) = true := decide_eq_true hlt
   have e1 : mkE sI4 x m = ((m, (m + 1), ((m + 1) + 1), (((m + 1) + 1) + 1)), ((((m + 1) + 1) + 1) + 1)) := rfl
   have es : szT sI4 x = 0 := xc _ _ rfl
   rw [es] at hB
   have w0 : IntKind.i64.wrap (m + 1) = m + 1 := v6 (by omega) (by omega)
   have w1 : IntKind.i64.wrap ((m + 1) + 1) = (m + 1) + 1 := v6 (by omega) (by omega)
   have w2 : IntKind.i64.wrap (((m + 1) + 1) + 1) = ((m + 1) + 1) + 1 := v6 (by omega) (by omega)
   have w3 : IntKind.i64.wrap ((((m + 1) + 1) + 1) + 1) = (((m + 1) + 1) + 1) + 1 := v6 (by omega) (by omega)
   rw [e1] at hx
   show yk1 k _ _ _ _ _ _ _ _ = _
   simp only [yk1, hd, if_true, if_pos hn, hin, va hx, hw, e1, w0, w1, w2, w3, Option.bind_some, bne_self_eq_false, Bool.false_eq_true, if_false]
 · show yk1 k _ _ _ _ _ _ _ _ = _
   simp only [yk1]
   rw [if_neg (by simp)]
 · have := yq sI4 x m rfl
   have hl : Sh.leafs sI4 ≤ 16 := by decide
   omega
 · have := z8 (f := szT sI4) hy
   constructor <;> omega
theorem hlheldSiteS (k : Nat) (x : List I3) (m : Int) (h0 : 0 ≤ m) (hB : m + 16 * szT (.l 228 sI3) x ≤ 1152921504606846976) (hz : szT (.l 228 sI3) x ≤ 140737488351232) (hk : szT (.l 228 sI3) x + 1 < k) : wt2 k (mkT (.l 228 sI3) x m).1 m = some (mkT (.l 228 sI3) x m).2 := by
 obtain ⟨k, rfl⟩ : ∃ q, k = q + 1 := ⟨k - 1, by omega⟩
 have hz' : x.length + sumL (szT sI3) x ≤ 140737488351232 := hz
 have hk' : x.length + sumL (szT sI3) x + 1 < k + 1 := hk
 have hB' : m + 16 * ((x.length + sumL (szT sI3) x : Nat) : Int) ≤ 1152921504606846976 := hB
 obtain ⟨a, ha⟩ : ∃ a : List I3, (mkT (.l 228 sI3) x m).1 = a := ⟨_, rfl⟩
 rw [ha]
 refine (elheldSiteS k a m).trans ?_
 refine (zn (α := Int × Int × Int) (L := w22 k _ _ _ _ _) (X := fun v => some v.1) (fun i m => (m, i)) (f := mkE sI3) (s := szT sI3) (B := 1152921504606846976) (P := fun y => szT sI3 y + 0 < k ∧ szT sI3 y ≤ 140737488351232) (r := x) (m := m) ha.symm (fun n i m x hi hx hP h0 hB hn hlt hin hw => ?_) (fun n m => ?_) (fun x m => ?_) (fun y hy => ?_) (by omega) (by omega) h0 hB')
 · have hd : decide ((i : Int) < (a.length : Int)) = true := decide_eq_true hlt
   have e1 : mkE sI3 x m = ((m, (m + 1), ((m + 1) + 1)), (((m + 1) + 1) + 1)) := rfl
   have es : szT sI3 x = 0 := xc _ _ rfl
   rw [es] at hB
   have w0 : IntKind.i64.wrap (m + 1) = m + 1 := v6 (by omega) (by omega)
   have w1 : IntKind.i64.wrap ((m + 1) + 1) = (m + 1) + 1 := v6 (by omega) (by omega)
   have w2 : IntKind.i64.wrap (((m + 1) + 1) + 1) = ((m + 1) + 1) + 1 := v6 (by omega) (by omega)
   rw [e1] at hx
   show j91 k _ _ _ _ _ _ _ = _
   simp only [j91, hd, if_true, if_pos hn, hin, va hx, hw, e1, w0, w1, w2, Option.bind_some, bne_self_eq_false, Bool.false_eq_true, if_false]
 · show j91 k _ _ _ _ _ _ _ = _
   simp only [j91]
   rw [if_neg (by simp)]
 · have := yq sI3 x m rfl
   have hl : Sh.leafs sI3 ≤ 16 := by decide
   omega
 · have := z8 (f := szT sI3) hy
   constructor <;> omega
theorem hlheldZoneS (k : Nat) (x : List I3) (m : Int) (h0 : 0 ≤ m) (hB : m + 16 * szT (.l 234 sZone) x ≤ 1152921504606846976) (hz : szT (.l 234 sZone) x ≤ 140737488351232) (hk : szT (.l 234 sZone) x + 1 < k) : wp2 k (mkT (.l 234 sZone) x m).1 m = some (mkT (.l 234 sZone) x m).2 := by
 obtain ⟨k, rfl⟩ : ∃ q, k = q + 1 := ⟨k - 1, by omega⟩
 have hz' : x.length + sumL (szT sZone) x ≤ 140737488351232 := hz
 have hk' : x.length + sumL (szT sZone) x + 1 < k + 1 := hk
 have hB' : m + 16 * ((x.length + sumL (szT sZone) x : Nat) : Int) ≤ 1152921504606846976 := hB
 obtain ⟨a, ha⟩ : ∃ a : List I3, (mkT (.l 234 sZone) x m).1 = a := ⟨_, rfl⟩
 rw [ha]
 refine (elheldZoneS k a m).trans ?_
 refine (zn (α := Int × Int × Int) (L := v02 k _ _ _ _ _) (X := fun v => some v.1) (fun i m => (m, i)) (f := mkE sZone) (s := szT sZone) (B := 1152921504606846976) (P := fun y => szT sZone y + 0 < k ∧ szT sZone y ≤ 140737488351232) (r := x) (m := m) ha.symm (fun n i m x hi hx hP h0 hB hn hlt hin hw => ?_) (fun n m => ?_) (fun x m => ?_) (fun y hy => ?_) (by omega) (by omega) h0 hB')
 · have hd : decide ((i : Int) < (a.length : Int)) = true := decide_eq_true hlt
   have e1 : mkE sZone x m = ((m, ((m + 1), ((m + 1) + 1))), (((m + 1) + 1) + 1)) := rfl
   have es : szT sZone x = 0 := xc _ _ rfl
   rw [es] at hB
   have w0 : IntKind.i64.wrap (m + 1) = m + 1 := v6 (by omega) (by omega)
   have w1 : IntKind.i64.wrap ((m + 1) + 1) = (m + 1) + 1 := v6 (by omega) (by omega)
   have w2 : IntKind.i64.wrap (((m + 1) + 1) + 1) = ((m + 1) + 1) + 1 := v6 (by omega) (by omega)
   rw [e1] at hx
   show va1 k _ _ _ _ _ _ _ = _
   simp only [va1, hd, if_true, if_pos hn, hin, va hx, hw, e1, w0, w1, w2, Option.bind_some, bne_self_eq_false, Bool.false_eq_true, if_false]
 · show va1 k _ _ _ _ _ _ _ = _
   simp only [va1]
   rw [if_neg (by simp)]
 · have := yq sZone x m rfl
   have hl : Sh.leafs sZone ≤ 16 := by decide
   omega
 · have := z8 (f := szT sZone) hy
   constructor <;> omega
theorem hlheldSky (k : Nat) (x : Int × (List I4) × (List I3) × Int × Int × Int × Int × Int × (List I3) × Int) (m : Int) (h0 : 0 ≤ m) (hB : m + 16 * szT sSky x ≤ 1152921504606846976) (hz : szT sSky x ≤ 140737488351232) (hk : szT sSky x + 2 < k) : FlheldSky k (mkT sSky x m).1 m = some (mkT sSky x m).2 := by
 obtain ⟨k, rfl⟩ : ∃ q, k = q + 1 := ⟨k - 1, by omega⟩
 have es : szT sSky x = (0 + (szT (.l 224 sI4) x.2.1 + (szT (.l 228 sI3) x.2.2.1 + (0 + (0 + (0 + (0 + (0 + (szT (.l 234 sZone) x.2.2.2.2.2.2.2.2.1 + 0))))))))) := rfl
 rw [es] at hB hz hk
 have b0 := vf (.l 224 sI4) x.2.1 m rfl
 have b1 := vf (.l 228 sI3) x.2.2.1 ((mkT (.l 224 sI4) x.2.1 m).2) rfl
 have b2 := vf (.l 234 sZone) x.2.2.2.2.2.2.2.2.1 ((mkT (.l 228 sI3) x.2.2.1 (mkT (.l 224 sI4) x.2.1 m).2).2) rfl
 have g0 := hlheldSatS k x.2.1 m (by omega) (by omega) (by omega) (by omega)
 have g1 := hlheldSiteS k x.2.2.1 ((mkT (.l 224 sI4) x.2.1 m).2) (by omega) (by omega) (by omega) (by omega)
 have g2 := hlheldZoneS k x.2.2.2.2.2.2.2.2.1 ((mkT (.l 228 sI3) x.2.2.1 (mkT (.l 224 sI4) x.2.1 m).2).2) (by omega) (by omega) (by omega) (by omega)
 have n0 : decide ((mkT (.l 224 sI4) x.2.1 m).2 < 0) = false := by rw [decide_eq_false]; omega
 have n1 : decide ((mkT (.l 228 sI3) x.2.2.1 ((mkT (.l 224 sI4) x.2.1 m).2)).2 < 0) = false := by rw [decide_eq_false]; omega
 have n2 : decide ((mkT (.l 234 sZone) x.2.2.2.2.2.2.2.2.1 ((mkT (.l 228 sI3) x.2.2.1 (mkT (.l 224 sI4) x.2.1 m).2).2)).2 < 0) = false := by rw [decide_eq_false]; omega
 refine (elheldSky k _ m).trans ?_
 refine (congrArg (fun z => Option.bind z _) g0).trans ?_
 rw [Option.bind_some]
 refine (if_neg (by rw [n0]; decide)).trans ?_
 refine (congrArg (fun z => Option.bind z _) g1).trans ?_
 rw [Option.bind_some]
 refine (if_neg (by rw [n1]; decide)).trans ?_
 refine (congrArg (fun z => Option.bind z _) g2).trans ?_
 rw [Option.bind_some]
 refine (if_neg (by rw [n2]; decide)).trans ?_
 rfl
theorem hlheldStreamS (k : Nat) (x : List (Int × Int × List Int)) (m : Int) (h0 : 0 ≤ m) (hB : m + 16 * szT (.l 120 z1) x ≤ 1152921504606846976) (hz : szT (.l 120 z1) x ≤ 140737488351232) (hk : szT (.l 120 z1) x + 2 < k) : j12 k (mkT (.l 120 z1) x m).1 m = some (mkT (.l 120 z1) x m).2 := by
 obtain ⟨k, rfl⟩ : ∃ q, k = q + 1 := ⟨k - 1, by omega⟩
 have hz' : x.length + sumL (szT z1) x ≤ 140737488351232 := hz
 have hk' : x.length + sumL (szT z1) x + 2 < k + 1 := hk
 have hB' : m + 16 * ((x.length + sumL (szT z1) x : Nat) : Int) ≤ 1152921504606846976 := hB
 obtain ⟨a, ha⟩ : ∃ a : List (Int × Int × List Int), (mkT (.l 120 z1) x m).1 = a := ⟨_, rfl⟩
 rw [ha]
 refine (elheldStreamS k a m).trans ?_
 refine (zn (α := Int × Int × List Int) (L := jl1 k _ _ _ _ _) (X := fun v => some v.1) (fun i m => (m, i)) (f := mkE z1) (s := szT z1) (B := 1152921504606846976) (P := fun y => szT z1 y + 1 < k ∧ szT z1 y ≤ 140737488351232) (r := x) (m := m) ha.symm (fun n i m x hi hx hP h0 hB hn hlt hin hw => ?_) (fun n m => ?_) (fun x m => ?_) (fun y hy => ?_) (by omega) (by omega) h0 hB')
 · have hd : decide ((i : Int) < (a.length : Int)) = true := decide_eq_true hlt
   have e1 : mkE z1 x m = ((m, (m + 1), (mkT (.l 3 (.i .i64)) x.2.2 ((m + 1) + 1)).1), (mkT (.l 3 (.i .i64)) x.2.2 ((m + 1) + 1)).2) := rfl
   have es : szT z1 x = (0 + (0 + szT (.l 3 (.i .i64)) x.2.2)) := rfl
   have b0 := vf (.l 3 (.i .i64)) x.2.2 ((m + 1) + 1) rfl
   obtain ⟨hP1, hP2⟩ := hP
   rw [es] at hP1 hP2 hB
   have g0 := w42 k x.2.2 ((m + 1) + 1) (by omega) (by omega) (by omega) (by omega)
   have w0 : IntKind.i64.wrap (m + 1) = m + 1 := v6 (by omega) (by omega)
   have w1 : IntKind.i64.wrap ((m + 1) + 1) = (m + 1) + 1 := v6 (by omega) (by omega)
   have n0 : decide ((mkT (.l 3 (.i .i64)) x.2.2 ((m + 1) + 1)).2 < 0) = false := by rw [decide_eq_false]; omega
   rw [e1] at hx
   show vx k _ _ _ _ _ _ _ = _
   simp only [vx, hd, if_true, if_pos hn, hin, va hx, hw, e1, w0, w1, g0, Option.bind_some, n0, bne_self_eq_false, Bool.false_eq_true, if_false]
   try rfl
 · show vx k _ _ _ _ _ _ _ = _
   simp only [vx]
   rw [if_neg (by simp)]
 · have := yq z1 x m rfl
   have hl : Sh.leafs z1 ≤ 16 := by decide
   omega
 · have := z8 (f := szT z1) hy
   constructor <;> omega
theorem hlheldWorld (k : Nat) (x : (Int × (List I4) × (List I3) × Int × Int × Int × Int × Int × (List I3) × Int) × (Int × Int × Int × List (I2 × (List I2) × List (Int × (List Int) × List Int))) × (List Int) × (List Int) × (List I6) × (List (List I6)) × (List I4) × (List Int) × (List (Int × Int × List Int)) × (List I4) × Int × Int × (List I6) × List I4) (m : Int) (h0 : 0 ≤ m) (hB : m + 16 * szT xb x ≤ 1152921504606846976) (hz : szT xb x ≤ 140737488351232) (hk : szT xb x + 5 < k) : vq2 k (mkT xb x m).1 m = some (mkT xb x m).2 := by
 obtain ⟨k, rfl⟩ : ∃ q, k = q + 1 := ⟨k - 1, by omega⟩
 have es : szT xb x = (szT sSky x.1 + (szT j3 x.2.1 + (szT sLaw x.2.2.1 + (szT (.l 3 (.i .i64)) x.2.2.2.1 + (szT (.l 164 sI6) x.2.2.2.2.1 + (szT (.l 113 j5) x.2.2.2.2.2.1 + (szT (.l 169 sI4) x.2.2.2.2.2.2.1 + (szT (.l 3 (.i .i64)) x.2.2.2.2.2.2.2.1 + (szT (.l 120 z1) x.2.2.2.2.2.2.2.2.1 + (szT (.l 174 sI4) x.2.2.2.2.2.2.2.2.2.1 + (0 + (0 + (szT (.l 115 sI6) x.2.2.2.2.2.2.2.2.2.2.2.2.1 + szT (.l 69 sI4) x.2.2.2.2.2.2.2.2.2.2.2.2.2))))))))))))) := rfl
 rw [es] at hB hz hk
 have b0 := vf sSky x.1 m rfl
 have b1 := vf j3 x.2.1 ((mkT sSky x.1 m).2) rfl
 have b2 := vf sLaw x.2.2.1 ((mkT j3 x.2.1 (mkT sSky x.1 m).2).2) rfl
 have b3 := vf (.l 3 (.i .i64)) x.2.2.2.1 ((mkT sLaw x.2.2.1 (mkT j3 x.2.1 (mkT sSky x.1 m).2).2).2) rfl
 have b4 := vf (.l 164 sI6) x.2.2.2.2.1 ((mkT (.l 3 (.i .i64)) x.2.2.2.1 (mkT sLaw x.2.2.1 (mkT j3 x.2.1 (mkT sSky x.1 m).2).2).2).2) rfl
 have b5 := vf (.l 113 j5) x.2.2.2.2.2.1 ((mkT (.l 164 sI6) x.2.2.2.2.1 (mkT (.l 3 (.i .i64)) x.2.2.2.1 (mkT sLaw x.2.2.1 (mkT j3 x.2.1 (mkT sSky x.1 m).2).2).2).2).2) rfl
 have b6 := vf (.l 169 sI4) x.2.2.2.2.2.2.1 ((mkT (.l 113 j5) x.2.2.2.2.2.1 (mkT (.l 164 sI6) x.2.2.2.2.1 (mkT (.l 3 (.i .i64)) x.2.2.2.1 (mkT sLaw x.2.2.1 (mkT j3 x.2.1 (mkT sSky x.1 m).2).2).2).2).2).2) rfl
 have b7 := vf (.l 3 (.i .i64)) x.2.2.2.2.2.2.2.1 ((mkT (.l 169 sI4) x.2.2.2.2.2.2.1 (mkT (.l 113 j5) x.2.2.2.2.2.1 (mkT (.l 164 sI6) x.2.2.2.2.1 (mkT (.l 3 (.i .i64)) x.2.2.2.1 (mkT sLaw x.2.2.1 (mkT j3 x.2.1 (mkT sSky x.1 m).2).2).2).2).2).2).2) rfl
 have b8 := vf (.l 120 z1) x.2.2.2.2.2.2.2.2.1 ((mkT (.l 3 (.i .i64)) x.2.2.2.2.2.2.2.1 (mkT (.l 169 sI4) x.2.2.2.2.2.2.1 (mkT (.l 113 j5) x.2.2.2.2.2.1 (mkT (.l 164 sI6) x.2.2.2.2.1 (mkT (.l 3 (.i .i64)) x.2.2.2.1 (mkT sLaw x.2.2.1 (mkT j3 x.2.1 (mkT sSky x.1 m).2).2).2).2).2).2).2).2) rfl
 have b9 := vf (.l 174 sI4) x.2.2.2.2.2.2.2.2.2.1 ((mkT (.l 120 z1) x.2.2.2.2.2.2.2.2.1 (mkT (.l 3 (.i .i64)) x.2.2.2.2.2.2.2.1 (mkT (.l 169 sI4) x.2.2.2.2.2.2.1 (mkT (.l 113 j5) x.2.2.2.2.2.1 (mkT (.l 164 sI6) x.2.2.2.2.1 (mkT (.l 3 (.i .i64)) x.2.2.2.1 (mkT sLaw x.2.2.1 (mkT j3 x.2.1 (mkT sSky x.1 m).2).2).2).2).2).2).2).2).2) rfl
 have b10 := vf (.l 115 sI6) x.2.2.2.2.2.2.2.2.2.2.2.2.1 ((mkT (.l 174 sI4) x.2.2.2.2.2.2.2.2.2.1 (mkT (.l 120 z1) x.2.2.2.2.2.2.2.2.1 (mkT (.l 3 (.i .i64)) x.2.2.2.2.2.2.2.1 (mkT (.l 169 sI4) x.2.2.2.2.2.2.1 (mkT (.l 113 j5) x.2.2.2.2.2.1 (mkT (.l 164 sI6) x.2.2.2.2.1 (mkT (.l 3 (.i .i64)) x.2.2.2.1 (mkT sLaw x.2.2.1 (mkT j3 x.2.1 (mkT sSky x.1 m).2).2).2).2).2).2).2).2).2).2) rfl
 have b11 := vf (.l 69 sI4) x.2.2.2.2.2.2.2.2.2.2.2.2.2 ((mkT (.l 115 sI6) x.2.2.2.2.2.2.2.2.2.2.2.2.1 (mkT (.l 174 sI4) x.2.2.2.2.2.2.2.2.2.1 (mkT (.l 120 z1) x.2.2.2.2.2.2.2.2.1 (mkT (.l 3 (.i .i64)) x.2.2.2.2.2.2.2.1 (mkT (.l 169 sI4) x.2.2.2.2.2.2.1 (mkT (.l 113 j5) x.2.2.2.2.2.1 (mkT (.l 164 sI6) x.2.2.2.2.1 (mkT (.l 3 (.i .i64)) x.2.2.2.1 (mkT sLaw x.2.2.1 (mkT j3 x.2.1 (mkT sSky x.1 m).2).2).2).2).2).2).2).2).2).2).2) rfl
 have g0 := hlheldSky k x.1 m (by omega) (by omega) (by omega) (by omega)
 have g1 := hlheldProgram k x.2.1 ((mkT sSky x.1 m).2) (by omega) (by omega) (by omega) (by omega)
 have g2 := hlheldLaw k x.2.2.1 ((mkT j3 x.2.1 (mkT sSky x.1 m).2).2) (by omega) (by omega) (by omega) (by omega)
 have g3 := w42 k x.2.2.2.1 ((mkT sLaw x.2.2.1 (mkT j3 x.2.1 (mkT sSky x.1 m).2).2).2) (by omega) (by omega) (by omega) (by omega)
 have g4 := hlheldBatteryS k x.2.2.2.2.1 ((mkT (.l 3 (.i .i64)) x.2.2.2.1 (mkT sLaw x.2.2.1 (mkT j3 x.2.1 (mkT sSky x.1 m).2).2).2).2) (by omega) (by omega) (by omega) (by omega)
 have g5 := hlheldQueueS k x.2.2.2.2.2.1 ((mkT (.l 164 sI6) x.2.2.2.2.1 (mkT (.l 3 (.i .i64)) x.2.2.2.1 (mkT sLaw x.2.2.1 (mkT j3 x.2.1 (mkT sSky x.1 m).2).2).2).2).2) (by omega) (by omega) (by omega) (by omega)
 have g6 := hlheldFlowS k x.2.2.2.2.2.2.1 ((mkT (.l 113 j5) x.2.2.2.2.2.1 (mkT (.l 164 sI6) x.2.2.2.2.1 (mkT (.l 3 (.i .i64)) x.2.2.2.1 (mkT sLaw x.2.2.1 (mkT j3 x.2.1 (mkT sSky x.1 m).2).2).2).2).2).2) (by omega) (by omega) (by omega) (by omega)
 have g7 := w42 k x.2.2.2.2.2.2.2.1 ((mkT (.l 169 sI4) x.2.2.2.2.2.2.1 (mkT (.l 113 j5) x.2.2.2.2.2.1 (mkT (.l 164 sI6) x.2.2.2.2.1 (mkT (.l 3 (.i .i64)) x.2.2.2.1 (mkT sLaw x.2.2.1 (mkT j3 x.2.1 (mkT sSky x.1 m).2).2).2).2).2).2).2) (by omega) (by omega) (by omega) (by omega)
 have g8 := hlheldStreamS k x.2.2.2.2.2.2.2.2.1 ((mkT (.l 3 (.i .i64)) x.2.2.2.2.2.2.2.1 (mkT (.l 169 sI4) x.2.2.2.2.2.2.1 (mkT (.l 113 j5) x.2.2.2.2.2.1 (mkT (.l 164 sI6) x.2.2.2.2.1 (mkT (.l 3 (.i .i64)) x.2.2.2.1 (mkT sLaw x.2.2.1 (mkT j3 x.2.1 (mkT sSky x.1 m).2).2).2).2).2).2).2).2) (by omega) (by omega) (by omega) (by omega)
 have g9 := hlheldFaultS k x.2.2.2.2.2.2.2.2.2.1 ((mkT (.l 120 z1) x.2.2.2.2.2.2.2.2.1 (mkT (.l 3 (.i .i64)) x.2.2.2.2.2.2.2.1 (mkT (.l 169 sI4) x.2.2.2.2.2.2.1 (mkT (.l 113 j5) x.2.2.2.2.2.1 (mkT (.l 164 sI6) x.2.2.2.2.1 (mkT (.l 3 (.i .i64)) x.2.2.2.1 (mkT sLaw x.2.2.1 (mkT j3 x.2.1 (mkT sSky x.1 m).2).2).2).2).2).2).2).2).2) (by omega) (by omega) (by omega) (by omega)
 have g10 := x64 k x.2.2.2.2.2.2.2.2.2.2.2.2.1 ((mkT (.l 174 sI4) x.2.2.2.2.2.2.2.2.2.1 (mkT (.l 120 z1) x.2.2.2.2.2.2.2.2.1 (mkT (.l 3 (.i .i64)) x.2.2.2.2.2.2.2.1 (mkT (.l 169 sI4) x.2.2.2.2.2.2.1 (mkT (.l 113 j5) x.2.2.2.2.2.1 (mkT (.l 164 sI6) x.2.2.2.2.1 (mkT (.l 3 (.i .i64)) x.2.2.2.1 (mkT sLaw x.2.2.1 (mkT j3 x.2.1 (mkT sSky x.1 m).2).2).2).2).2).2).2).2).2).2) (by omega) (by omega) (by omega) (by omega)
 have g11 := hlheldSentS k x.2.2.2.2.2.2.2.2.2.2.2.2.2 ((mkT (.l 115 sI6) x.2.2.2.2.2.2.2.2.2.2.2.2.1 (mkT (.l 174 sI4) x.2.2.2.2.2.2.2.2.2.1 (mkT (.l 120 z1) x.2.2.2.2.2.2.2.2.1 (mkT (.l 3 (.i .i64)) x.2.2.2.2.2.2.2.1 (mkT (.l 169 sI4) x.2.2.2.2.2.2.1 (mkT (.l 113 j5) x.2.2.2.2.2.1 (mkT (.l 164 sI6) x.2.2.2.2.1 (mkT (.l 3 (.i .i64)) x.2.2.2.1 (mkT sLaw x.2.2.1 (mkT j3 x.2.1 (mkT sSky x.1 m).2).2).2).2).2).2).2).2).2).2).2) (by omega) (by omega) (by omega) (by omega)
 have n0 : decide ((mkT sSky x.1 m).2 < 0) = false := by rw [decide_eq_false]; omega
 have n1 : decide ((mkT j3 x.2.1 ((mkT sSky x.1 m).2)).2 < 0) = false := by rw [decide_eq_false]; omega
 have n2 : decide ((mkT sLaw x.2.2.1 ((mkT j3 x.2.1 (mkT sSky x.1 m).2).2)).2 < 0) = false := by rw [decide_eq_false]; omega
 have n3 : decide ((mkT (.l 3 (.i .i64)) x.2.2.2.1 ((mkT sLaw x.2.2.1 (mkT j3 x.2.1 (mkT sSky x.1 m).2).2).2)).2 < 0) = false := by rw [decide_eq_false]; omega
 have n4 : decide ((mkT (.l 164 sI6) x.2.2.2.2.1 ((mkT (.l 3 (.i .i64)) x.2.2.2.1 (mkT sLaw x.2.2.1 (mkT j3 x.2.1 (mkT sSky x.1 m).2).2).2).2)).2 < 0) = false := by rw [decide_eq_false]; omega
 have n5 : decide ((mkT (.l 113 j5) x.2.2.2.2.2.1 ((mkT (.l 164 sI6) x.2.2.2.2.1 (mkT (.l 3 (.i .i64)) x.2.2.2.1 (mkT sLaw x.2.2.1 (mkT j3 x.2.1 (mkT sSky x.1 m).2).2).2).2).2)).2 < 0) = false := by rw [decide_eq_false]; omega
 have n6 : decide ((mkT (.l 169 sI4) x.2.2.2.2.2.2.1 ((mkT (.l 113 j5) x.2.2.2.2.2.1 (mkT (.l 164 sI6) x.2.2.2.2.1 (mkT (.l 3 (.i .i64)) x.2.2.2.1 (mkT sLaw x.2.2.1 (mkT j3 x.2.1 (mkT sSky x.1 m).2).2).2).2).2).2)).2 < 0) = false := by rw [decide_eq_false]; omega
 have n7 : decide ((mkT (.l 3 (.i .i64)) x.2.2.2.2.2.2.2.1 ((mkT (.l 169 sI4) x.2.2.2.2.2.2.1 (mkT (.l 113 j5) x.2.2.2.2.2.1 (mkT (.l 164 sI6) x.2.2.2.2.1 (mkT (.l 3 (.i .i64)) x.2.2.2.1 (mkT sLaw x.2.2.1 (mkT j3 x.2.1 (mkT sSky x.1 m).2).2).2).2).2).2).2)).2 < 0) = false := by rw [decide_eq_false]; omega
 have n8 : decide ((mkT (.l 120 z1) x.2.2.2.2.2.2.2.2.1 ((mkT (.l 3 (.i .i64)) x.2.2.2.2.2.2.2.1 (mkT (.l 169 sI4) x.2.2.2.2.2.2.1 (mkT (.l 113 j5) x.2.2.2.2.2.1 (mkT (.l 164 sI6) x.2.2.2.2.1 (mkT (.l 3 (.i .i64)) x.2.2.2.1 (mkT sLaw x.2.2.1 (mkT j3 x.2.1 (mkT sSky x.1 m).2).2).2).2).2).2).2).2)).2 < 0) = false := by rw [decide_eq_false]; omega
 have n9 : decide ((mkT (.l 174 sI4) x.2.2.2.2.2.2.2.2.2.1 ((mkT (.l 120 z1) x.2.2.2.2.2.2.2.2.1 (mkT (.l 3 (.i .i64)) x.2.2.2.2.2.2.2.1 (mkT (.l 169 sI4) x.2.2.2.2.2.2.1 (mkT (.l 113 j5) x.2.2.2.2.2.1 (mkT (.l 164 sI6) x.2.2.2.2.1 (mkT (.l 3 (.i .i64)) x.2.2.2.1 (mkT sLaw x.2.2.1 (mkT j3 x.2.1 (mkT sSky x.1 m).2).2).2).2).2).2).2).2).2)).2 < 0) = false := by rw [decide_eq_false]; omega
 have n10 : decide ((mkT (.l 115 sI6) x.2.2.2.2.2.2.2.2.2.2.2.2.1 ((mkT (.l 174 sI4) x.2.2.2.2.2.2.2.2.2.1 (mkT (.l 120 z1) x.2.2.2.2.2.2.2.2.1 (mkT (.l 3 (.i .i64)) x.2.2.2.2.2.2.2.1 (mkT (.l 169 sI4) x.2.2.2.2.2.2.1 (mkT (.l 113 j5) x.2.2.2.2.2.1 (mkT (.l 164 sI6) x.2.2.2.2.1 (mkT (.l 3 (.i .i64)) x.2.2.2.1 (mkT sLaw x.2.2.1 (mkT j3 x.2.1 (mkT sSky x.1 m).2).2).2).2).2).2).2).2).2).2)).2 < 0) = false := by rw [decide_eq_false]; omega
 have n11 : decide ((mkT (.l 69 sI4) x.2.2.2.2.2.2.2.2.2.2.2.2.2 ((mkT (.l 115 sI6) x.2.2.2.2.2.2.2.2.2.2.2.2.1 (mkT (.l 174 sI4) x.2.2.2.2.2.2.2.2.2.1 (mkT (.l 120 z1) x.2.2.2.2.2.2.2.2.1 (mkT (.l 3 (.i .i64)) x.2.2.2.2.2.2.2.1 (mkT (.l 169 sI4) x.2.2.2.2.2.2.1 (mkT (.l 113 j5) x.2.2.2.2.2.1 (mkT (.l 164 sI6) x.2.2.2.2.1 (mkT (.l 3 (.i .i64)) x.2.2.2.1 (mkT sLaw x.2.2.1 (mkT j3 x.2.1 (mkT sSky x.1 m).2).2).2).2).2).2).2).2).2).2).2)).2 < 0) = false := by rw [decide_eq_false]; omega
 refine (elheldWorld k _ m).trans ?_
 refine (congrArg (fun z => Option.bind z _) g0).trans ?_
 rw [Option.bind_some]
 refine (if_neg (by rw [n0]; decide)).trans ?_
 refine (congrArg (fun z => Option.bind z _) g1).trans ?_
 rw [Option.bind_some]
 refine (if_neg (by rw [n1]; decide)).trans ?_
 refine (congrArg (fun z => Option.bind z _) g2).trans ?_
 rw [Option.bind_some]
 refine (if_neg (by rw [n2]; decide)).trans ?_
 refine (congrArg (fun z => Option.bind z _) g3).trans ?_
 rw [Option.bind_some]
 refine (if_neg (by rw [n3]; decide)).trans ?_
 refine (congrArg (fun z => Option.bind z _) g4).trans ?_
 rw [Option.bind_some]
 refine (if_neg (by rw [n4]; decide)).trans ?_
 refine (congrArg (fun z => Option.bind z _) g5).trans ?_
 rw [Option.bind_some]
 refine (if_neg (by rw [n5]; decide)).trans ?_
 refine (congrArg (fun z => Option.bind z _) g6).trans ?_
 rw [Option.bind_some]
 refine (if_neg (by rw [n6]; decide)).trans ?_
 refine (congrArg (fun z => Option.bind z _) g7).trans ?_
 rw [Option.bind_some]
 refine (if_neg (by rw [n7]; decide)).trans ?_
 refine (congrArg (fun z => Option.bind z _) g8).trans ?_
 rw [Option.bind_some]
 refine (if_neg (by rw [n8]; decide)).trans ?_
 refine (congrArg (fun z => Option.bind z _) g9).trans ?_
 rw [Option.bind_some]
 refine (if_neg (by rw [n9]; decide)).trans ?_
 refine (congrArg (fun z => Option.bind z _) g10).trans ?_
 rw [Option.bind_some]
 refine (if_neg (by rw [n10]; decide)).trans ?_
 refine (congrArg (fun z => Option.bind z _) g11).trans ?_
 rw [Option.bind_some]
 refine (if_neg (by rw [n11]; decide)).trans ?_
 rfl
theorem mlmarkBatteryS (k : Nat) (x : List I6) (m : Int) (h0 : 0 ≤ m) (hB : m + 16 * szT (.l 164 sI6) x ≤ 1152921504606846976) (hz : szT (.l 164 sI6) x ≤ 140737488351232) (hk : szT (.l 164 sI6) x + 1 < k) : vq1 k x m = (some ((mkT (.l 164 sI6) x m).2, (mkT (.l 164 sI6) x m).1) : Option (Int × List I6)) := by
 obtain ⟨k, rfl⟩ : ∃ q, k = q + 1 := ⟨k - 1, by omega⟩
 have hz' : x.length + sumL (szT sI6) x ≤ 140737488351232 := hz
 have hk' : x.length + sumL (szT sI6) x + 1 < k + 1 := hk
 have hB' : m + 16 * ((x.length + sumL (szT sI6) x : Nat) : Int) ≤ 1152921504606846976 := hB
 refine (elmarkBatteryS k x m).trans ?_
 refine (jm (α := Int × Int × Int × Int × Int × Int) (L := wf1 k _ _) (X := fun v => some (v.1, v.2.2)) (fun a i m => (m, i, a)) (f := mkE sI6) (s := szT sI6) (B := 1152921504606846976) (P := fun y => szT sI6 y + 0 < k ∧ szT sI6 y ≤ 140737488351232) (fun n a i m x hi hx hP h0 hB hn hlt hin hw => ?_) (fun n a m => ?_) (fun x m => ?_) (fun y hy => ?_) (by omega) (by omega) h0 hB')
 · have hd : decide ((i : Int) < (a.length : Int)) = true := decide_eq_true hlt
   have e1 : mkE sI6 x m = ((m, (m + 1), ((m + 1) + 1), (((m + 1) + 1) + 1), ((((m + 1) + 1) + 1) + 1), (((((m + 1) + 1) + 1) + 1) + 1)), ((((((m + 1) + 1) + 1) + 1) + 1) + 1)) := rfl
   have es : szT sI6 x = 0 := xc _ _ rfl
   rw [es] at hB
   have w0 : IntKind.i64.wrap (m + 1) = m + 1 := v6 (by omega) (by omega)
   have w1 : IntKind.i64.wrap ((m + 1) + 1) = (m + 1) + 1 := v6 (by omega) (by omega)
   have w2 : IntKind.i64.wrap (((m + 1) + 1) + 1) = ((m + 1) + 1) + 1 := v6 (by omega) (by omega)
   have w3 : IntKind.i64.wrap ((((m + 1) + 1) + 1) + 1) = (((m + 1) + 1) + 1) + 1 := v6 (by omega) (by omega)
   have w4 : IntKind.i64.wrap (((((m + 1) + 1) + 1) + 1) + 1) = ((((m + 1) + 1) + 1) + 1) + 1 := v6 (by omega) (by omega)
   have w5 : IntKind.i64.wrap ((((((m + 1) + 1) + 1) + 1) + 1) + 1) = (((((m + 1) + 1) + 1) + 1) + 1) + 1 := v6 (by omega) (by omega)
   show yu k _ _ _ _ = _
   simp only [yu, hd, if_true, if_pos hn, if_pos hlt, List.length_set, hin, va hx, zg2 hi, List.set_set, hw, e1, w0, w1, w2, w3, w4, w5, Option.bind_some]
 · show yu k _ _ _ _ = _
   simp only [yu]
   rw [if_neg (by simp)]
 · have := yq sI6 x m rfl
   have hl : Sh.leafs sI6 ≤ 16 := by decide
   omega
 · have := z8 (f := szT sI6) hy
   constructor <;> omega
theorem mlmarkFaultS (k : Nat) (x : List I4) (m : Int) (h0 : 0 ≤ m) (hB : m + 16 * szT (.l 174 sI4) x ≤ 1152921504606846976) (hz : szT (.l 174 sI4) x ≤ 140737488351232) (hk : szT (.l 174 sI4) x + 1 < k) : jb2 k x m = (some ((mkT (.l 174 sI4) x m).2, (mkT (.l 174 sI4) x m).1) : Option (Int × List I4)) := by
 obtain ⟨k, rfl⟩ : ∃ q, k = q + 1 := ⟨k - 1, by omega⟩
 have hz' : x.length + sumL (szT sI4) x ≤ 140737488351232 := hz
 have hk' : x.length + sumL (szT sI4) x + 1 < k + 1 := hk
 have hB' : m + 16 * ((x.length + sumL (szT sI4) x : Nat) : Int) ≤ 1152921504606846976 := hB
 refine (elmarkFaultS k x m).trans ?_
 refine (jm (α := Int × Int × Int × Int) (L := vr1 k _ _) (X := fun v => some (v.1, v.2.2)) (fun a i m => (m, i, a)) (f := mkE sI4) (s := szT sI4) (B := 1152921504606846976) (P := fun y => szT sI4 y + 0 < k ∧ szT sI4 y ≤ 140737488351232) (fun n a i m x hi hx hP h0 hB hn hlt hin hw => ?_) (fun n a m => ?_) (fun x m => ?_) (fun y hy => ?_) (by omega) (by omega) h0 hB')
 · have hd : decide ((i : Int) < (a.length : Int)) = true := decide_eq_true hlt
   have e1 : mkE sI4 x m = ((m, (m + 1), ((m + 1) + 1), (((m + 1) + 1) + 1)), ((((m + 1) + 1) + 1) + 1)) := rfl
   have es : szT sI4 x = 0 := xc _ _ rfl
   rw [es] at hB
   have w0 : IntKind.i64.wrap (m + 1) = m + 1 := v6 (by omega) (by omega)
   have w1 : IntKind.i64.wrap ((m + 1) + 1) = (m + 1) + 1 := v6 (by omega) (by omega)
   have w2 : IntKind.i64.wrap (((m + 1) + 1) + 1) = ((m + 1) + 1) + 1 := v6 (by omega) (by omega)
   have w3 : IntKind.i64.wrap ((((m + 1) + 1) + 1) + 1) = (((m + 1) + 1) + 1) + 1 := v6 (by omega) (by omega)
   show j41 k _ _ _ _ = _
   simp only [j41, hd, if_true, if_pos hn, if_pos hlt, List.length_set, hin, va hx, zg2 hi, List.set_set, hw, e1, w0, w1, w2, w3, Option.bind_some]
 · show j41 k _ _ _ _ = _
   simp only [j41]
   rw [if_neg (by simp)]
 · have := yq sI4 x m rfl
   have hl : Sh.leafs sI4 ≤ 16 := by decide
   omega
 · have := z8 (f := szT sI4) hy
   constructor <;> omega
theorem mlmarkFlowS (k : Nat) (x : List I4) (m : Int) (h0 : 0 ≤ m) (hB : m + 16 * szT (.l 169 sI4) x ≤ 1152921504606846976) (hz : szT (.l 169 sI4) x ≤ 140737488351232) (hk : szT (.l 169 sI4) x + 1 < k) : zp2 k x m = (some ((mkT (.l 169 sI4) x m).2, (mkT (.l 169 sI4) x m).1) : Option (Int × List I4)) := by
 obtain ⟨k, rfl⟩ : ∃ q, k = q + 1 := ⟨k - 1, by omega⟩
 have hz' : x.length + sumL (szT sI4) x ≤ 140737488351232 := hz
 have hk' : x.length + sumL (szT sI4) x + 1 < k + 1 := hk
 have hB' : m + 16 * ((x.length + sumL (szT sI4) x : Nat) : Int) ≤ 1152921504606846976 := hB
 refine (elmarkFlowS k x m).trans ?_
 refine (jm (α := Int × Int × Int × Int) (L := v12 k _ _) (X := fun v => some (v.1, v.2.2)) (fun a i m => (m, i, a)) (f := mkE sI4) (s := szT sI4) (B := 1152921504606846976) (P := fun y => szT sI4 y + 0 < k ∧ szT sI4 y ≤ 140737488351232) (fun n a i m x hi hx hP h0 hB hn hlt hin hw => ?_) (fun n a m => ?_) (fun x m => ?_) (fun y hy => ?_) (by omega) (by omega) h0 hB')
 · have hd : decide ((i : Int) < (a.length : Int)) = true := decide_eq_true hlt
   have e1 : mkE sI4 x m = ((m, (m + 1), ((m + 1) + 1), (((m + 1) + 1) + 1)), ((((m + 1) + 1) + 1) + 1)) := rfl
   have es : szT sI4 x = 0 := xc _ _ rfl
   rw [es] at hB
   have w0 : IntKind.i64.wrap (m + 1) = m + 1 := v6 (by omega) (by omega)
   have w1 : IntKind.i64.wrap ((m + 1) + 1) = (m + 1) + 1 := v6 (by omega) (by omega)
   have w2 : IntKind.i64.wrap (((m + 1) + 1) + 1) = ((m + 1) + 1) + 1 := v6 (by omega) (by omega)
   have w3 : IntKind.i64.wrap ((((m + 1) + 1) + 1) + 1) = (((m + 1) + 1) + 1) + 1 := v6 (by omega) (by omega)
   show vc1 k _ _ _ _ = _
   simp only [vc1, hd, if_true, if_pos hn, if_pos hlt, List.length_set, hin, va hx, zg2 hi, List.set_set, hw, e1, w0, w1, w2, w3, Option.bind_some]
 · show vc1 k _ _ _ _ = _
   simp only [vc1]
   rw [if_neg (by simp)]
 · have := yq sI4 x m rfl
   have hl : Sh.leafs sI4 ≤ 16 := by decide
   omega
 · have := z8 (f := szT sI4) hy
   constructor <;> omega
theorem x42 (k : Nat) (x : List Int) (m : Int) (h0 : 0 ≤ m) (hB : m + 16 * szT (.l 3 (.i .i64)) x ≤ 1152921504606846976) (hz : szT (.l 3 (.i .i64)) x ≤ 140737488351232) (hk : szT (.l 3 (.i .i64)) x + 1 < k) : w91 k x m = (some ((mkT (.l 3 (.i .i64)) x m).2, (mkT (.l 3 (.i .i64)) x m).1) : Option (Int × List Int)) := by
 obtain ⟨k, rfl⟩ : ∃ q, k = q + 1 := ⟨k - 1, by omega⟩
 have hz' : x.length + sumL (szT (.i .i64)) x ≤ 140737488351232 := hz
 have hk' : x.length + sumL (szT (.i .i64)) x + 1 < k + 1 := hk
 have hB' : m + 16 * ((x.length + sumL (szT (.i .i64)) x : Nat) : Int) ≤ 1152921504606846976 := hB
 refine (elmarkIntS k x m).trans ?_
 refine (jm (α := Int) (L := yf2 k _ _) (X := fun v => some (v.1, v.2.2)) (fun a i m => (m, i, a)) (f := mkE (.i .i64)) (s := szT (.i .i64)) (B := 1152921504606846976) (P := fun y => szT (.i .i64) y + 0 < k ∧ szT (.i .i64) y ≤ 140737488351232) (fun n a i m x hi hx hP h0 hB hn hlt hin hw => ?_) (fun n a m => ?_) (fun x m => ?_) (fun y hy => ?_) (by omega) (by omega) h0 hB')
 · have hd : decide ((i : Int) < (a.length : Int)) = true := decide_eq_true hlt
   have e1 : mkE (.i .i64) x m = (m, (m + 1)) := rfl
   have es : szT (.i .i64) x = 0 := xc _ _ rfl
   rw [es] at hB
   have w0 : IntKind.i64.wrap (m + 1) = m + 1 := v6 (by omega) (by omega)
   show zj1 k _ _ _ _ = _
   simp only [zj1, hd, if_true, if_pos hn, if_pos hlt, List.length_set, hin, va hx, zg2 hi, List.set_set, hw, e1, w0, Option.bind_some]
 · show zj1 k _ _ _ _ = _
   simp only [zj1]
   rw [if_neg (by simp)]
 · have := yq (.i .i64) x m rfl
   have hl : Sh.leafs (.i .i64) ≤ 16 := by decide
   omega
 · have := z8 (f := szT (.i .i64)) hy
   constructor <;> omega
theorem mlmarkLaw (k : Nat) (x : List Int) (m : Int) (h0 : 0 ≤ m) (hB : m + 16 * szT sLaw x ≤ 1152921504606846976) (hz : szT sLaw x ≤ 140737488351232) (hk : szT sLaw x + 2 < k) : FlmarkLaw k x m = (some ((mkT sLaw x m).2, (mkT sLaw x m).1) : Option (Int × List Int)) := by
 obtain ⟨k, rfl⟩ : ∃ q, k = q + 1 := ⟨k - 1, by omega⟩
 have es : szT sLaw x = szT (.l 3 (.i .i64)) x := rfl
 rw [es] at hB hz hk
 have b0 := vf (.l 3 (.i .i64)) x m rfl
 have g0 := x42 k x m (by omega) (by omega) (by omega) (by omega)
 rw [elmarkLaw]
 simp only [g0, Option.bind_some]
 rfl
theorem mlmarkPacketS (k : Nat) (x : List I6) (m : Int) (h0 : 0 ≤ m) (hB : m + 16 * szT (.l 115 sI6) x ≤ 1152921504606846976) (hz : szT (.l 115 sI6) x ≤ 140737488351232) (hk : szT (.l 115 sI6) x + 1 < k) : yn1 k x m = (some ((mkT (.l 115 sI6) x m).2, (mkT (.l 115 sI6) x m).1) : Option (Int × List I6)) := by
 obtain ⟨k, rfl⟩ : ∃ q, k = q + 1 := ⟨k - 1, by omega⟩
 have hz' : x.length + sumL (szT sI6) x ≤ 140737488351232 := hz
 have hk' : x.length + sumL (szT sI6) x + 1 < k + 1 := hk
 have hB' : m + 16 * ((x.length + sumL (szT sI6) x : Nat) : Int) ≤ 1152921504606846976 := hB
 refine (elmarkPacketS k x m).trans ?_
 refine (jm (α := Int × Int × Int × Int × Int × Int) (L := jm1 k _ _) (X := fun v => some (v.1, v.2.2)) (fun a i m => (m, i, a)) (f := mkE sI6) (s := szT sI6) (B := 1152921504606846976) (P := fun y => szT sI6 y + 0 < k ∧ szT sI6 y ≤ 140737488351232) (fun n a i m x hi hx hP h0 hB hn hlt hin hw => ?_) (fun n a m => ?_) (fun x m => ?_) (fun y hy => ?_) (by omega) (by omega) h0 hB')
 · have hd : decide ((i : Int) < (a.length : Int)) = true := decide_eq_true hlt
   have e1 : mkE sI6 x m = ((m, (m + 1), ((m + 1) + 1), (((m + 1) + 1) + 1), ((((m + 1) + 1) + 1) + 1), (((((m + 1) + 1) + 1) + 1) + 1)), ((((((m + 1) + 1) + 1) + 1) + 1) + 1)) := rfl
   have es : szT sI6 x = 0 := xc _ _ rfl
   rw [es] at hB
   have w0 : IntKind.i64.wrap (m + 1) = m + 1 := v6 (by omega) (by omega)
   have w1 : IntKind.i64.wrap ((m + 1) + 1) = (m + 1) + 1 := v6 (by omega) (by omega)
   have w2 : IntKind.i64.wrap (((m + 1) + 1) + 1) = ((m + 1) + 1) + 1 := v6 (by omega) (by omega)
   have w3 : IntKind.i64.wrap ((((m + 1) + 1) + 1) + 1) = (((m + 1) + 1) + 1) + 1 := v6 (by omega) (by omega)
   have w4 : IntKind.i64.wrap (((((m + 1) + 1) + 1) + 1) + 1) = ((((m + 1) + 1) + 1) + 1) + 1 := v6 (by omega) (by omega)
   have w5 : IntKind.i64.wrap ((((((m + 1) + 1) + 1) + 1) + 1) + 1) = (((((m + 1) + 1) + 1) + 1) + 1) + 1 := v6 (by omega) (by omega)
   show vy k _ _ _ _ = _
   simp only [vy, hd, if_true, if_pos hn, if_pos hlt, List.length_set, hin, va hx, zg2 hi, List.set_set, hw, e1, w0, w1, w2, w3, w4, w5, Option.bind_some]
 · show vy k _ _ _ _ = _
   simp only [vy]
   rw [if_neg (by simp)]
 · have := yq sI6 x m rfl
   have hl : Sh.leafs sI6 ≤ 16 := by decide
   omega
 · have := z8 (f := szT sI6) hy
   constructor <;> omega
theorem mlmarkLinkS (k : Nat) (x : List I2) (m : Int) (h0 : 0 ≤ m) (hB : m + 16 * szT (.l 264 sI2) x ≤ 1152921504606846976) (hz : szT (.l 264 sI2) x ≤ 140737488351232) (hk : szT (.l 264 sI2) x + 1 < k) : jt2 k x m = (some ((mkT (.l 264 sI2) x m).2, (mkT (.l 264 sI2) x m).1) : Option (Int × List I2)) := by
 obtain ⟨k, rfl⟩ : ∃ q, k = q + 1 := ⟨k - 1, by omega⟩
 have hz' : x.length + sumL (szT sI2) x ≤ 140737488351232 := hz
 have hk' : x.length + sumL (szT sI2) x + 1 < k + 1 := hk
 have hB' : m + 16 * ((x.length + sumL (szT sI2) x : Nat) : Int) ≤ 1152921504606846976 := hB
 refine (elmarkLinkS k x m).trans ?_
 refine (jm (α := Int × Int) (L := x22 k _ _) (X := fun v => some (v.1, v.2.2)) (fun a i m => (m, i, a)) (f := mkE sI2) (s := szT sI2) (B := 1152921504606846976) (P := fun y => szT sI2 y + 0 < k ∧ szT sI2 y ≤ 140737488351232) (fun n a i m x hi hx hP h0 hB hn hlt hin hw => ?_) (fun n a m => ?_) (fun x m => ?_) (fun y hy => ?_) (by omega) (by omega) h0 hB')
 · have hd : decide ((i : Int) < (a.length : Int)) = true := decide_eq_true hlt
   have e1 : mkE sI2 x m = ((m, (m + 1)), ((m + 1) + 1)) := rfl
   have es : szT sI2 x = 0 := xc _ _ rfl
   rw [es] at hB
   have w0 : IntKind.i64.wrap (m + 1) = m + 1 := v6 (by omega) (by omega)
   have w1 : IntKind.i64.wrap ((m + 1) + 1) = (m + 1) + 1 := v6 (by omega) (by omega)
   show v91 k _ _ _ _ = _
   simp only [v91, hd, if_true, if_pos hn, if_pos hlt, List.length_set, hin, va hx, zg2 hi, List.set_set, hw, e1, w0, w1, Option.bind_some]
 · show v91 k _ _ _ _ = _
   simp only [v91]
   rw [if_neg (by simp)]
 · have := yq sI2 x m rfl
   have hl : Sh.leafs sI2 ≤ 16 := by decide
   omega
 · have := z8 (f := szT sI2) hy
   constructor <;> omega
theorem mlmarkTableS (k : Nat) (x : List (Int × (List Int) × List Int)) (m : Int) (h0 : 0 ≤ m) (hB : m + 16 * szT (.l 147 j2) x ≤ 1152921504606846976) (hz : szT (.l 147 j2) x ≤ 140737488351232) (hk : szT (.l 147 j2) x + 2 < k) : yb2 k x m = (some ((mkT (.l 147 j2) x m).2, (mkT (.l 147 j2) x m).1) : Option (Int × List (Int × (List Int) × List Int))) := by
 obtain ⟨k, rfl⟩ : ∃ q, k = q + 1 := ⟨k - 1, by omega⟩
 have hz' : x.length + sumL (szT j2) x ≤ 140737488351232 := hz
 have hk' : x.length + sumL (szT j2) x + 2 < k + 1 := hk
 have hB' : m + 16 * ((x.length + sumL (szT j2) x : Nat) : Int) ≤ 1152921504606846976 := hB
 refine (elmarkTableS k x m).trans ?_
 refine (jm (α := Int × (List Int) × List Int) (L := ws1 k _ _) (X := fun v => some (v.1, v.2.2)) (fun a i m => (m, i, a)) (f := mkE j2) (s := szT j2) (B := 1152921504606846976) (P := fun y => szT j2 y + 1 < k ∧ szT j2 y ≤ 140737488351232) (fun n a i m x hi hx hP h0 hB hn hlt hin hw => ?_) (fun n a m => ?_) (fun x m => ?_) (fun y hy => ?_) (by omega) (by omega) h0 hB')
 · have hd : decide ((i : Int) < (a.length : Int)) = true := decide_eq_true hlt
   have e1 : mkE j2 x m = ((m, (mkT (.l 3 (.i .i64)) x.2.1 (m + 1)).1, (mkT (.l 3 (.i .i64)) x.2.2 (mkT (.l 3 (.i .i64)) x.2.1 (m + 1)).2).1), (mkT (.l 3 (.i .i64)) x.2.2 (mkT (.l 3 (.i .i64)) x.2.1 (m + 1)).2).2) := rfl
   have es : szT j2 x = (0 + (szT (.l 3 (.i .i64)) x.2.1 + szT (.l 3 (.i .i64)) x.2.2)) := rfl
   have b0 := vf (.l 3 (.i .i64)) x.2.1 (m + 1) rfl
   have b1 := vf (.l 3 (.i .i64)) x.2.2 ((mkT (.l 3 (.i .i64)) x.2.1 (m + 1)).2) rfl
   obtain ⟨hP1, hP2⟩ := hP
   rw [es] at hP1 hP2 hB
   have g0 := x42 k x.2.1 (m + 1) (by omega) (by omega) (by omega) (by omega)
   have g1 := x42 k x.2.2 ((mkT (.l 3 (.i .i64)) x.2.1 (m + 1)).2) (by omega) (by omega) (by omega) (by omega)
   have w0 : IntKind.i64.wrap (m + 1) = m + 1 := v6 (by omega) (by omega)
   show x41 k _ _ _ _ = _
   simp only [x41, hd, if_true, if_pos hn, if_pos hlt, List.length_set, hin, va hx, zg2 hi, List.set_set, hw, e1, w0, g0, g1, Option.bind_some]
   try rfl
 · show x41 k _ _ _ _ = _
   simp only [x41]
   rw [if_neg (by simp)]
 · have := yq j2 x m rfl
   have hl : Sh.leafs j2 ≤ 16 := by decide
   omega
 · have := z8 (f := szT j2) hy
   constructor <;> omega
theorem mlmarkPieceS (k : Nat) (x : List (I2 × (List I2) × List (Int × (List Int) × List Int))) (m : Int) (h0 : 0 ≤ m) (hB : m + 16 * szT (.l 157 j4) x ≤ 1152921504606846976) (hz : szT (.l 157 j4) x ≤ 140737488351232) (hk : szT (.l 157 j4) x + 3 < k) : zf2 k x m = (some ((mkT (.l 157 j4) x m).2, (mkT (.l 157 j4) x m).1) : Option (Int × List (I2 × (List I2) × List (Int × (List Int) × List Int)))) := by
 obtain ⟨k, rfl⟩ : ∃ q, k = q + 1 := ⟨k - 1, by omega⟩
 have hz' : x.length + sumL (szT j4) x ≤ 140737488351232 := hz
 have hk' : x.length + sumL (szT j4) x + 3 < k + 1 := hk
 have hB' : m + 16 * ((x.length + sumL (szT j4) x : Nat) : Int) ≤ 1152921504606846976 := hB
 refine (elmarkPieceS k x m).trans ?_
 refine (jm (α := I2 × (List I2) × List (Int × (List Int) × List Int)) (L := jt1 k _ _) (X := fun v => some (v.1, v.2.2)) (fun a i m => (m, i, a)) (f := mkE j4) (s := szT j4) (B := 1152921504606846976) (P := fun y => szT j4 y + 2 < k ∧ szT j4 y ≤ 140737488351232) (fun n a i m x hi hx hP h0 hB hn hlt hin hw => ?_) (fun n a m => ?_) (fun x m => ?_) (fun y hy => ?_) (by omega) (by omega) h0 hB')
 · have hd : decide ((i : Int) < (a.length : Int)) = true := decide_eq_true hlt
   have e1 : mkE j4 x m = (((m, (m + 1)), (mkT (.l 264 sI2) x.2.1 ((m + 1) + 1)).1, (mkT (.l 147 j2) x.2.2 (mkT (.l 264 sI2) x.2.1 ((m + 1) + 1)).2).1), (mkT (.l 147 j2) x.2.2 (mkT (.l 264 sI2) x.2.1 ((m + 1) + 1)).2).2) := rfl
   have es : szT j4 x = ((0 + 0) + (szT (.l 264 sI2) x.2.1 + szT (.l 147 j2) x.2.2)) := rfl
   have b0 := vf (.l 264 sI2) x.2.1 ((m + 1) + 1) rfl
   have b1 := vf (.l 147 j2) x.2.2 ((mkT (.l 264 sI2) x.2.1 ((m + 1) + 1)).2) rfl
   obtain ⟨hP1, hP2⟩ := hP
   rw [es] at hP1 hP2 hB
   have g0 := mlmarkLinkS k x.2.1 ((m + 1) + 1) (by omega) (by omega) (by omega) (by omega)
   have g1 := mlmarkTableS k x.2.2 ((mkT (.l 264 sI2) x.2.1 ((m + 1) + 1)).2) (by omega) (by omega) (by omega) (by omega)
   have w0 : IntKind.i64.wrap (m + 1) = m + 1 := v6 (by omega) (by omega)
   have w1 : IntKind.i64.wrap ((m + 1) + 1) = (m + 1) + 1 := v6 (by omega) (by omega)
   show w61 k _ _ _ _ = _
   simp only [w61, hd, if_true, if_pos hn, if_pos hlt, List.length_set, hin, va hx, zg2 hi, List.set_set, hw, e1, w0, w1, g0, g1, Option.bind_some]
   try rfl
 · show w61 k _ _ _ _ = _
   simp only [w61]
   rw [if_neg (by simp)]
 · have := yq j4 x m rfl
   have hl : Sh.leafs j4 ≤ 16 := by decide
   omega
 · have := z8 (f := szT j4) hy
   constructor <;> omega
theorem mlmarkProgram (k : Nat) (x : Int × Int × Int × List (I2 × (List I2) × List (Int × (List Int) × List Int))) (m : Int) (h0 : 0 ≤ m) (hB : m + 16 * szT j3 x ≤ 1152921504606846976) (hz : szT j3 x ≤ 140737488351232) (hk : szT j3 x + 4 < k) : zs2 k x m = (some ((mkT j3 x m).2, ((mkT j3 x m).1).2.2.2) : Option (Int × List (I2 × (List I2) × List (Int × (List Int) × List Int)))) := by
 obtain ⟨k, rfl⟩ : ∃ q, k = q + 1 := ⟨k - 1, by omega⟩
 have es : szT j3 x = (0 + (0 + (0 + szT (.l 157 j4) x.2.2.2))) := rfl
 rw [es] at hB hz hk
 have b0 := vf (.l 157 j4) x.2.2.2 m rfl
 have g0 := mlmarkPieceS k x.2.2.2 m (by omega) (by omega) (by omega) (by omega)
 rw [elmarkProgram]
 simp only [g0, Option.bind_some]
 rfl
theorem mlmarkQueueS (k : Nat) (x : List (List I6)) (m : Int) (h0 : 0 ≤ m) (hB : m + 16 * szT (.l 113 j5) x ≤ 1152921504606846976) (hz : szT (.l 113 j5) x ≤ 140737488351232) (hk : szT (.l 113 j5) x + 2 < k) : jd2 k x m = (some ((mkT (.l 113 j5) x m).2, (mkT (.l 113 j5) x m).1) : Option (Int × List (List I6))) := by
 obtain ⟨k, rfl⟩ : ∃ q, k = q + 1 := ⟨k - 1, by omega⟩
 have hz' : x.length + sumL (szT j5) x ≤ 140737488351232 := hz
 have hk' : x.length + sumL (szT j5) x + 2 < k + 1 := hk
 have hB' : m + 16 * ((x.length + sumL (szT j5) x : Nat) : Int) ≤ 1152921504606846976 := hB
 refine (elmarkQueueS k x m).trans ?_
 refine (jm (α := List I6) (L := zt1 k _ _) (X := fun v => some (v.1, v.2.2)) (fun a i m => (m, i, a)) (f := mkE j5) (s := szT j5) (B := 1152921504606846976) (P := fun y => szT j5 y + 1 < k ∧ szT j5 y ≤ 140737488351232) (fun n a i m x hi hx hP h0 hB hn hlt hin hw => ?_) (fun n a m => ?_) (fun x m => ?_) (fun y hy => ?_) (by omega) (by omega) h0 hB')
 · have hd : decide ((i : Int) < (a.length : Int)) = true := decide_eq_true hlt
   have e1 : mkE j5 x m = ((mkT (.l 115 sI6) x m).1, (mkT (.l 115 sI6) x m).2) := rfl
   have es : szT j5 x = szT (.l 115 sI6) x := rfl
   have b0 := vf (.l 115 sI6) x m rfl
   obtain ⟨hP1, hP2⟩ := hP
   rw [es] at hP1 hP2 hB
   have g0 := mlmarkPacketS k x m (by omega) (by omega) (by omega) (by omega)
   show w41 k _ _ _ _ = _
   simp only [w41, hd, if_true, if_pos hn, if_pos hlt, List.length_set, hin, va hx, zg2 hi, List.set_set, hw, e1, g0, Option.bind_some]
   try rfl
 · show w41 k _ _ _ _ = _
   simp only [w41]
   rw [if_neg (by simp)]
 · have := yq j5 x m rfl
   have hl : Sh.leafs j5 ≤ 16 := by decide
   omega
 · have := z8 (f := szT j5) hy
   constructor <;> omega
theorem mlmarkSentS (k : Nat) (x : List I4) (m : Int) (h0 : 0 ≤ m) (hB : m + 16 * szT (.l 69 sI4) x ≤ 1152921504606846976) (hz : szT (.l 69 sI4) x ≤ 140737488351232) (hk : szT (.l 69 sI4) x + 1 < k) : vo2 k x m = (some ((mkT (.l 69 sI4) x m).2, (mkT (.l 69 sI4) x m).1) : Option (Int × List I4)) := by
 obtain ⟨k, rfl⟩ : ∃ q, k = q + 1 := ⟨k - 1, by omega⟩
 have hz' : x.length + sumL (szT sI4) x ≤ 140737488351232 := hz
 have hk' : x.length + sumL (szT sI4) x + 1 < k + 1 := hk
 have hB' : m + 16 * ((x.length + sumL (szT sI4) x : Nat) : Int) ≤ 1152921504606846976 := hB
 refine (elmarkSentS k x m).trans ?_
 refine (jm (α := Int × Int × Int × Int) (L := x02 k _ _) (X := fun v => some (v.1, v.2.2)) (fun a i m => (m, i, a)) (f := mkE sI4) (s := szT sI4) (B := 1152921504606846976) (P := fun y => szT sI4 y + 0 < k ∧ szT sI4 y ≤ 140737488351232) (fun n a i m x hi hx hP h0 hB hn hlt hin hw => ?_) (fun n a m => ?_) (fun x m => ?_) (fun y hy => ?_) (by omega) (by omega) h0 hB')
 · have hd : decide ((i : Int) < (a.length : Int)) = true := decide_eq_true hlt
   have e1 : mkE sI4 x m = ((m, (m + 1), ((m + 1) + 1), (((m + 1) + 1) + 1)), ((((m + 1) + 1) + 1) + 1)) := rfl
   have es : szT sI4 x = 0 := xc _ _ rfl
   rw [es] at hB
   have w0 : IntKind.i64.wrap (m + 1) = m + 1 := v6 (by omega) (by omega)
   have w1 : IntKind.i64.wrap ((m + 1) + 1) = (m + 1) + 1 := v6 (by omega) (by omega)
   have w2 : IntKind.i64.wrap (((m + 1) + 1) + 1) = ((m + 1) + 1) + 1 := v6 (by omega) (by omega)
   have w3 : IntKind.i64.wrap ((((m + 1) + 1) + 1) + 1) = (((m + 1) + 1) + 1) + 1 := v6 (by omega) (by omega)
   show wc1 k _ _ _ _ = _
   simp only [wc1, hd, if_true, if_pos hn, if_pos hlt, List.length_set, hin, va hx, zg2 hi, List.set_set, hw, e1, w0, w1, w2, w3, Option.bind_some]
 · show wc1 k _ _ _ _ = _
   simp only [wc1]
   rw [if_neg (by simp)]
 · have := yq sI4 x m rfl
   have hl : Sh.leafs sI4 ≤ 16 := by decide
   omega
 · have := z8 (f := szT sI4) hy
   constructor <;> omega
theorem mlmarkSatS (k : Nat) (x : List I4) (m : Int) (h0 : 0 ≤ m) (hB : m + 16 * szT (.l 224 sI4) x ≤ 1152921504606846976) (hz : szT (.l 224 sI4) x ≤ 140737488351232) (hk : szT (.l 224 sI4) x + 1 < k) : yj3 k x m = (some ((mkT (.l 224 sI4) x m).2, (mkT (.l 224 sI4) x m).1) : Option (Int × List I4)) := by
 obtain ⟨k, rfl⟩ : ∃ q, k = q + 1 := ⟨k - 1, by omega⟩
 have hz' : x.length + sumL (szT sI4) x ≤ 140737488351232 := hz
 have hk' : x.length + sumL (szT sI4) x + 1 < k + 1 := hk
 have hB' : m + 16 * ((x.length + sumL (szT sI4) x : Nat) : Int) ≤ 1152921504606846976 := hB
 refine (elmarkSatS k x m).trans ?_
 refine (jm (α := Int × Int × Int × Int) (L := ye2 k _ _) (X := fun v => some (v.1, v.2.2)) (fun a i m => (m, i, a)) (f := mkE sI4) (s := szT sI4) (B := 1152921504606846976) (P := fun y => szT sI4 y + 0 < k ∧ szT sI4 y ≤ 140737488351232) (fun n a i m x hi hx hP h0 hB hn hlt hin hw => ?_) (fun n a m => ?_) (fun x m => ?_) (fun y hy => ?_) (by omega) (by omega) h0 hB')
 · have hd : decide ((i : Int) < (a.length : Int)) = true := decide_eq_true hlt
   have e1 : mkE sI4 x m = ((m, (m + 1), ((m + 1) + 1), (((m + 1) + 1) + 1)), ((((m + 1) + 1) + 1) + 1)) := rfl
   have es : szT sI4 x = 0 := xc _ _ rfl
   rw [es] at hB
   have w0 : IntKind.i64.wrap (m + 1) = m + 1 := v6 (by omega) (by omega)
   have w1 : IntKind.i64.wrap ((m + 1) + 1) = (m + 1) + 1 := v6 (by omega) (by omega)
   have w2 : IntKind.i64.wrap (((m + 1) + 1) + 1) = ((m + 1) + 1) + 1 := v6 (by omega) (by omega)
   have w3 : IntKind.i64.wrap ((((m + 1) + 1) + 1) + 1) = (((m + 1) + 1) + 1) + 1 := v6 (by omega) (by omega)
   show vj1 k _ _ _ _ = _
   simp only [vj1, hd, if_true, if_pos hn, if_pos hlt, List.length_set, hin, va hx, zg2 hi, List.set_set, hw, e1, w0, w1, w2, w3, Option.bind_some]
 · show vj1 k _ _ _ _ = _
   simp only [vj1]
   rw [if_neg (by simp)]
 · have := yq sI4 x m rfl
   have hl : Sh.leafs sI4 ≤ 16 := by decide
   omega
 · have := z8 (f := szT sI4) hy
   constructor <;> omega
theorem mlmarkSiteS (k : Nat) (x : List I3) (m : Int) (h0 : 0 ≤ m) (hB : m + 16 * szT (.l 228 sI3) x ≤ 1152921504606846976) (hz : szT (.l 228 sI3) x ≤ 140737488351232) (hk : szT (.l 228 sI3) x + 1 < k) : zr2 k x m = (some ((mkT (.l 228 sI3) x m).2, (mkT (.l 228 sI3) x m).1) : Option (Int × List I3)) := by
 obtain ⟨k, rfl⟩ : ∃ q, k = q + 1 := ⟨k - 1, by omega⟩
 have hz' : x.length + sumL (szT sI3) x ≤ 140737488351232 := hz
 have hk' : x.length + sumL (szT sI3) x + 1 < k + 1 := hk
 have hB' : m + 16 * ((x.length + sumL (szT sI3) x : Nat) : Int) ≤ 1152921504606846976 := hB
 refine (elmarkSiteS k x m).trans ?_
 refine (jm (α := Int × Int × Int) (L := wz1 k _ _) (X := fun v => some (v.1, v.2.2)) (fun a i m => (m, i, a)) (f := mkE sI3) (s := szT sI3) (B := 1152921504606846976) (P := fun y => szT sI3 y + 0 < k ∧ szT sI3 y ≤ 140737488351232) (fun n a i m x hi hx hP h0 hB hn hlt hin hw => ?_) (fun n a m => ?_) (fun x m => ?_) (fun y hy => ?_) (by omega) (by omega) h0 hB')
 · have hd : decide ((i : Int) < (a.length : Int)) = true := decide_eq_true hlt
   have e1 : mkE sI3 x m = ((m, (m + 1), ((m + 1) + 1)), (((m + 1) + 1) + 1)) := rfl
   have es : szT sI3 x = 0 := xc _ _ rfl
   rw [es] at hB
   have w0 : IntKind.i64.wrap (m + 1) = m + 1 := v6 (by omega) (by omega)
   have w1 : IntKind.i64.wrap ((m + 1) + 1) = (m + 1) + 1 := v6 (by omega) (by omega)
   have w2 : IntKind.i64.wrap (((m + 1) + 1) + 1) = ((m + 1) + 1) + 1 := v6 (by omega) (by omega)
   show xb1 k _ _ _ _ = _
   simp only [xb1, hd, if_true, if_pos hn, if_pos hlt, List.length_set, hin, va hx, zg2 hi, List.set_set, hw, e1, w0, w1, w2, Option.bind_some]
 · show xb1 k _ _ _ _ = _
   simp only [xb1]
   rw [if_neg (by simp)]
 · have := yq sI3 x m rfl
   have hl : Sh.leafs sI3 ≤ 16 := by decide
   omega
 · have := z8 (f := szT sI3) hy
   constructor <;> omega
theorem mlmarkZoneS (k : Nat) (x : List I3) (m : Int) (h0 : 0 ≤ m) (hB : m + 16 * szT (.l 234 sZone) x ≤ 1152921504606846976) (hz : szT (.l 234 sZone) x ≤ 140737488351232) (hk : szT (.l 234 sZone) x + 1 < k) : ws2 k x m = (some ((mkT (.l 234 sZone) x m).2, (mkT (.l 234 sZone) x m).1) : Option (Int × List I3)) := by
 obtain ⟨k, rfl⟩ : ∃ q, k = q + 1 := ⟨k - 1, by omega⟩
 have hz' : x.length + sumL (szT sZone) x ≤ 140737488351232 := hz
 have hk' : x.length + sumL (szT sZone) x + 1 < k + 1 := hk
 have hB' : m + 16 * ((x.length + sumL (szT sZone) x : Nat) : Int) ≤ 1152921504606846976 := hB
 refine (elmarkZoneS k x m).trans ?_
 refine (jm (α := Int × Int × Int) (L := z12 k _ _) (X := fun v => some (v.1, v.2.2)) (fun a i m => (m, i, a)) (f := mkE sZone) (s := szT sZone) (B := 1152921504606846976) (P := fun y => szT sZone y + 0 < k ∧ szT sZone y ≤ 140737488351232) (fun n a i m x hi hx hP h0 hB hn hlt hin hw => ?_) (fun n a m => ?_) (fun x m => ?_) (fun y hy => ?_) (by omega) (by omega) h0 hB')
 · have hd : decide ((i : Int) < (a.length : Int)) = true := decide_eq_true hlt
   have e1 : mkE sZone x m = ((m, ((m + 1), ((m + 1) + 1))), (((m + 1) + 1) + 1)) := rfl
   have es : szT sZone x = 0 := xc _ _ rfl
   rw [es] at hB
   have w0 : IntKind.i64.wrap (m + 1) = m + 1 := v6 (by omega) (by omega)
   have w1 : IntKind.i64.wrap ((m + 1) + 1) = (m + 1) + 1 := v6 (by omega) (by omega)
   have w2 : IntKind.i64.wrap (((m + 1) + 1) + 1) = ((m + 1) + 1) + 1 := v6 (by omega) (by omega)
   show xc1 k _ _ _ _ = _
   simp only [xc1, hd, if_true, if_pos hn, if_pos hlt, List.length_set, hin, va hx, zg2 hi, List.set_set, hw, e1, w0, w1, w2, Option.bind_some]
 · show xc1 k _ _ _ _ = _
   simp only [xc1]
   rw [if_neg (by simp)]
 · have := yq sZone x m rfl
   have hl : Sh.leafs sZone ≤ 16 := by decide
   omega
 · have := z8 (f := szT sZone) hy
   constructor <;> omega
theorem mlmarkSky (k : Nat) (x : Int × (List I4) × (List I3) × Int × Int × Int × Int × Int × (List I3) × Int) (m : Int) (h0 : 0 ≤ m) (hB : m + 16 * szT sSky x ≤ 1152921504606846976) (hz : szT sSky x ≤ 140737488351232) (hk : szT sSky x + 2 < k) : FlmarkSky k x m = (some ((mkT sSky x m).2, ((mkT sSky x m).1).2.1, ((mkT sSky x m).1).2.2.1, ((mkT sSky x m).1).2.2.2.2.2.2.2.2.1) : Option (Int × (List I4) × (List I3) × List I3)) := by
 obtain ⟨k, rfl⟩ : ∃ q, k = q + 1 := ⟨k - 1, by omega⟩
 have es : szT sSky x = (0 + (szT (.l 224 sI4) x.2.1 + (szT (.l 228 sI3) x.2.2.1 + (0 + (0 + (0 + (0 + (0 + (szT (.l 234 sZone) x.2.2.2.2.2.2.2.2.1 + 0))))))))) := rfl
 rw [es] at hB hz hk
 have b0 := vf (.l 224 sI4) x.2.1 m rfl
 have b1 := vf (.l 228 sI3) x.2.2.1 ((mkT (.l 224 sI4) x.2.1 m).2) rfl
 have b2 := vf (.l 234 sZone) x.2.2.2.2.2.2.2.2.1 ((mkT (.l 228 sI3) x.2.2.1 (mkT (.l 224 sI4) x.2.1 m).2).2) rfl
 have g0 := mlmarkSatS k x.2.1 m (by omega) (by omega) (by omega) (by omega)
 have g1 := mlmarkSiteS k x.2.2.1 ((mkT (.l 224 sI4) x.2.1 m).2) (by omega) (by omega) (by omega) (by omega)
 have g2 := mlmarkZoneS k x.2.2.2.2.2.2.2.2.1 ((mkT (.l 228 sI3) x.2.2.1 (mkT (.l 224 sI4) x.2.1 m).2).2) (by omega) (by omega) (by omega) (by omega)
 rw [elmarkSky]
 simp only [g0, g1, g2, Option.bind_some]
 rfl
theorem mlmarkStreamS (k : Nat) (x : List (Int × Int × List Int)) (m : Int) (h0 : 0 ≤ m) (hB : m + 16 * szT (.l 120 z1) x ≤ 1152921504606846976) (hz : szT (.l 120 z1) x ≤ 140737488351232) (hk : szT (.l 120 z1) x + 2 < k) : j02 k x m = (some ((mkT (.l 120 z1) x m).2, (mkT (.l 120 z1) x m).1) : Option (Int × List (Int × Int × List Int))) := by
 obtain ⟨k, rfl⟩ : ∃ q, k = q + 1 := ⟨k - 1, by omega⟩
 have hz' : x.length + sumL (szT z1) x ≤ 140737488351232 := hz
 have hk' : x.length + sumL (szT z1) x + 2 < k + 1 := hk
 have hB' : m + 16 * ((x.length + sumL (szT z1) x : Nat) : Int) ≤ 1152921504606846976 := hB
 refine (elmarkStreamS k x m).trans ?_
 refine (jm (α := Int × Int × List Int) (L := vl1 k _ _) (X := fun v => some (v.1, v.2.2)) (fun a i m => (m, i, a)) (f := mkE z1) (s := szT z1) (B := 1152921504606846976) (P := fun y => szT z1 y + 1 < k ∧ szT z1 y ≤ 140737488351232) (fun n a i m x hi hx hP h0 hB hn hlt hin hw => ?_) (fun n a m => ?_) (fun x m => ?_) (fun y hy => ?_) (by omega) (by omega) h0 hB')
 · have hd : decide ((i : Int) < (a.length : Int)) = true := decide_eq_true hlt
   have e1 : mkE z1 x m = ((m, (m + 1), (mkT (.l 3 (.i .i64)) x.2.2 ((m + 1) + 1)).1), (mkT (.l 3 (.i .i64)) x.2.2 ((m + 1) + 1)).2) := rfl
   have es : szT z1 x = (0 + (0 + szT (.l 3 (.i .i64)) x.2.2)) := rfl
   have b0 := vf (.l 3 (.i .i64)) x.2.2 ((m + 1) + 1) rfl
   obtain ⟨hP1, hP2⟩ := hP
   rw [es] at hP1 hP2 hB
   have g0 := x42 k x.2.2 ((m + 1) + 1) (by omega) (by omega) (by omega) (by omega)
   have w0 : IntKind.i64.wrap (m + 1) = m + 1 := v6 (by omega) (by omega)
   have w1 : IntKind.i64.wrap ((m + 1) + 1) = (m + 1) + 1 := v6 (by omega) (by omega)
   show zz k _ _ _ _ = _
   simp only [zz, hd, if_true, if_pos hn, if_pos hlt, List.length_set, hin, va hx, zg2 hi, List.set_set, hw, e1, w0, w1, g0, Option.bind_some]
   try rfl
 · show zz k _ _ _ _ = _
   simp only [zz]
   rw [if_neg (by simp)]
 · have := yq z1 x m rfl
   have hl : Sh.leafs z1 ≤ 16 := by decide
   omega
 · have := z8 (f := szT z1) hy
   constructor <;> omega
theorem mlmarkWorld (k : Nat) (x : (Int × (List I4) × (List I3) × Int × Int × Int × Int × Int × (List I3) × Int) × (Int × Int × Int × List (I2 × (List I2) × List (Int × (List Int) × List Int))) × (List Int) × (List Int) × (List I6) × (List (List I6)) × (List I4) × (List Int) × (List (Int × Int × List Int)) × (List I4) × Int × Int × (List I6) × List I4) (m : Int) (h0 : 0 ≤ m) (hB : m + 16 * szT xb x ≤ 1152921504606846976) (hz : szT xb x ≤ 140737488351232) (hk : szT xb x + 5 < k) : wu2 k x m = (some ((mkT xb x m).2, (((mkT xb x m).1).1).2.1, (((mkT xb x m).1).1).2.2.1, (((mkT xb x m).1).1).2.2.2.2.2.2.2.2.1, (((mkT xb x m).1).2.1).2.2.2, ((mkT xb x m).1).2.2.1, ((mkT xb x m).1).2.2.2.1, ((mkT xb x m).1).2.2.2.2.1, ((mkT xb x m).1).2.2.2.2.2.1, ((mkT xb x m).1).2.2.2.2.2.2.1, ((mkT xb x m).1).2.2.2.2.2.2.2.1, ((mkT xb x m).1).2.2.2.2.2.2.2.2.1, ((mkT xb x m).1).2.2.2.2.2.2.2.2.2.1, ((mkT xb x m).1).2.2.2.2.2.2.2.2.2.2.2.2.1, ((mkT xb x m).1).2.2.2.2.2.2.2.2.2.2.2.2.2) : Option (Int × (List I4) × (List I3) × (List I3) × (List (I2 × (List I2) × List (Int × (List Int) × List Int))) × (List Int) × (List Int) × (List I6) × (List (List I6)) × (List I4) × (List Int) × (List (Int × Int × List Int)) × (List I4) × (List I6) × List I4)) := by
 obtain ⟨k, rfl⟩ : ∃ q, k = q + 1 := ⟨k - 1, by omega⟩
 have es : szT xb x = (szT sSky x.1 + (szT j3 x.2.1 + (szT sLaw x.2.2.1 + (szT (.l 3 (.i .i64)) x.2.2.2.1 + (szT (.l 164 sI6) x.2.2.2.2.1 + (szT (.l 113 j5) x.2.2.2.2.2.1 + (szT (.l 169 sI4) x.2.2.2.2.2.2.1 + (szT (.l 3 (.i .i64)) x.2.2.2.2.2.2.2.1 + (szT (.l 120 z1) x.2.2.2.2.2.2.2.2.1 + (szT (.l 174 sI4) x.2.2.2.2.2.2.2.2.2.1 + (0 + (0 + (szT (.l 115 sI6) x.2.2.2.2.2.2.2.2.2.2.2.2.1 + szT (.l 69 sI4) x.2.2.2.2.2.2.2.2.2.2.2.2.2))))))))))))) := rfl
 rw [es] at hB hz hk
 have b0 := vf sSky x.1 m rfl
 have b1 := vf j3 x.2.1 ((mkT sSky x.1 m).2) rfl
 have b2 := vf sLaw x.2.2.1 ((mkT j3 x.2.1 (mkT sSky x.1 m).2).2) rfl
 have b3 := vf (.l 3 (.i .i64)) x.2.2.2.1 ((mkT sLaw x.2.2.1 (mkT j3 x.2.1 (mkT sSky x.1 m).2).2).2) rfl
 have b4 := vf (.l 164 sI6) x.2.2.2.2.1 ((mkT (.l 3 (.i .i64)) x.2.2.2.1 (mkT sLaw x.2.2.1 (mkT j3 x.2.1 (mkT sSky x.1 m).2).2).2).2) rfl
 have b5 := vf (.l 113 j5) x.2.2.2.2.2.1 ((mkT (.l 164 sI6) x.2.2.2.2.1 (mkT (.l 3 (.i .i64)) x.2.2.2.1 (mkT sLaw x.2.2.1 (mkT j3 x.2.1 (mkT sSky x.1 m).2).2).2).2).2) rfl
 have b6 := vf (.l 169 sI4) x.2.2.2.2.2.2.1 ((mkT (.l 113 j5) x.2.2.2.2.2.1 (mkT (.l 164 sI6) x.2.2.2.2.1 (mkT (.l 3 (.i .i64)) x.2.2.2.1 (mkT sLaw x.2.2.1 (mkT j3 x.2.1 (mkT sSky x.1 m).2).2).2).2).2).2) rfl
 have b7 := vf (.l 3 (.i .i64)) x.2.2.2.2.2.2.2.1 ((mkT (.l 169 sI4) x.2.2.2.2.2.2.1 (mkT (.l 113 j5) x.2.2.2.2.2.1 (mkT (.l 164 sI6) x.2.2.2.2.1 (mkT (.l 3 (.i .i64)) x.2.2.2.1 (mkT sLaw x.2.2.1 (mkT j3 x.2.1 (mkT sSky x.1 m).2).2).2).2).2).2).2) rfl
 have b8 := vf (.l 120 z1) x.2.2.2.2.2.2.2.2.1 ((mkT (.l 3 (.i .i64)) x.2.2.2.2.2.2.2.1 (mkT (.l 169 sI4) x.2.2.2.2.2.2.1 (mkT (.l 113 j5) x.2.2.2.2.2.1 (mkT (.l 164 sI6) x.2.2.2.2.1 (mkT (.l 3 (.i .i64)) x.2.2.2.1 (mkT sLaw x.2.2.1 (mkT j3 x.2.1 (mkT sSky x.1 m).2).2).2).2).2).2).2).2) rfl
 have b9 := vf (.l 174 sI4) x.2.2.2.2.2.2.2.2.2.1 ((mkT (.l 120 z1) x.2.2.2.2.2.2.2.2.1 (mkT (.l 3 (.i .i64)) x.2.2.2.2.2.2.2.1 (mkT (.l 169 sI4) x.2.2.2.2.2.2.1 (mkT (.l 113 j5) x.2.2.2.2.2.1 (mkT (.l 164 sI6) x.2.2.2.2.1 (mkT (.l 3 (.i .i64)) x.2.2.2.1 (mkT sLaw x.2.2.1 (mkT j3 x.2.1 (mkT sSky x.1 m).2).2).2).2).2).2).2).2).2) rfl
 have b10 := vf (.l 115 sI6) x.2.2.2.2.2.2.2.2.2.2.2.2.1 ((mkT (.l 174 sI4) x.2.2.2.2.2.2.2.2.2.1 (mkT (.l 120 z1) x.2.2.2.2.2.2.2.2.1 (mkT (.l 3 (.i .i64)) x.2.2.2.2.2.2.2.1 (mkT (.l 169 sI4) x.2.2.2.2.2.2.1 (mkT (.l 113 j5) x.2.2.2.2.2.1 (mkT (.l 164 sI6) x.2.2.2.2.1 (mkT (.l 3 (.i .i64)) x.2.2.2.1 (mkT sLaw x.2.2.1 (mkT j3 x.2.1 (mkT sSky x.1 m).2).2).2).2).2).2).2).2).2).2) rfl
 have b11 := vf (.l 69 sI4) x.2.2.2.2.2.2.2.2.2.2.2.2.2 ((mkT (.l 115 sI6) x.2.2.2.2.2.2.2.2.2.2.2.2.1 (mkT (.l 174 sI4) x.2.2.2.2.2.2.2.2.2.1 (mkT (.l 120 z1) x.2.2.2.2.2.2.2.2.1 (mkT (.l 3 (.i .i64)) x.2.2.2.2.2.2.2.1 (mkT (.l 169 sI4) x.2.2.2.2.2.2.1 (mkT (.l 113 j5) x.2.2.2.2.2.1 (mkT (.l 164 sI6) x.2.2.2.2.1 (mkT (.l 3 (.i .i64)) x.2.2.2.1 (mkT sLaw x.2.2.1 (mkT j3 x.2.1 (mkT sSky x.1 m).2).2).2).2).2).2).2).2).2).2).2) rfl
 have g0 := mlmarkSky k x.1 m (by omega) (by omega) (by omega) (by omega)
 have g1 := mlmarkProgram k x.2.1 ((mkT sSky x.1 m).2) (by omega) (by omega) (by omega) (by omega)
 have g2 := mlmarkLaw k x.2.2.1 ((mkT j3 x.2.1 (mkT sSky x.1 m).2).2) (by omega) (by omega) (by omega) (by omega)
 have g3 := x42 k x.2.2.2.1 ((mkT sLaw x.2.2.1 (mkT j3 x.2.1 (mkT sSky x.1 m).2).2).2) (by omega) (by omega) (by omega) (by omega)
 have g4 := mlmarkBatteryS k x.2.2.2.2.1 ((mkT (.l 3 (.i .i64)) x.2.2.2.1 (mkT sLaw x.2.2.1 (mkT j3 x.2.1 (mkT sSky x.1 m).2).2).2).2) (by omega) (by omega) (by omega) (by omega)
 have g5 := mlmarkQueueS k x.2.2.2.2.2.1 ((mkT (.l 164 sI6) x.2.2.2.2.1 (mkT (.l 3 (.i .i64)) x.2.2.2.1 (mkT sLaw x.2.2.1 (mkT j3 x.2.1 (mkT sSky x.1 m).2).2).2).2).2) (by omega) (by omega) (by omega) (by omega)
 have g6 := mlmarkFlowS k x.2.2.2.2.2.2.1 ((mkT (.l 113 j5) x.2.2.2.2.2.1 (mkT (.l 164 sI6) x.2.2.2.2.1 (mkT (.l 3 (.i .i64)) x.2.2.2.1 (mkT sLaw x.2.2.1 (mkT j3 x.2.1 (mkT sSky x.1 m).2).2).2).2).2).2) (by omega) (by omega) (by omega) (by omega)
 have g7 := x42 k x.2.2.2.2.2.2.2.1 ((mkT (.l 169 sI4) x.2.2.2.2.2.2.1 (mkT (.l 113 j5) x.2.2.2.2.2.1 (mkT (.l 164 sI6) x.2.2.2.2.1 (mkT (.l 3 (.i .i64)) x.2.2.2.1 (mkT sLaw x.2.2.1 (mkT j3 x.2.1 (mkT sSky x.1 m).2).2).2).2).2).2).2) (by omega) (by omega) (by omega) (by omega)
 have g8 := mlmarkStreamS k x.2.2.2.2.2.2.2.2.1 ((mkT (.l 3 (.i .i64)) x.2.2.2.2.2.2.2.1 (mkT (.l 169 sI4) x.2.2.2.2.2.2.1 (mkT (.l 113 j5) x.2.2.2.2.2.1 (mkT (.l 164 sI6) x.2.2.2.2.1 (mkT (.l 3 (.i .i64)) x.2.2.2.1 (mkT sLaw x.2.2.1 (mkT j3 x.2.1 (mkT sSky x.1 m).2).2).2).2).2).2).2).2) (by omega) (by omega) (by omega) (by omega)
 have g9 := mlmarkFaultS k x.2.2.2.2.2.2.2.2.2.1 ((mkT (.l 120 z1) x.2.2.2.2.2.2.2.2.1 (mkT (.l 3 (.i .i64)) x.2.2.2.2.2.2.2.1 (mkT (.l 169 sI4) x.2.2.2.2.2.2.1 (mkT (.l 113 j5) x.2.2.2.2.2.1 (mkT (.l 164 sI6) x.2.2.2.2.1 (mkT (.l 3 (.i .i64)) x.2.2.2.1 (mkT sLaw x.2.2.1 (mkT j3 x.2.1 (mkT sSky x.1 m).2).2).2).2).2).2).2).2).2) (by omega) (by omega) (by omega) (by omega)
 have g10 := mlmarkPacketS k x.2.2.2.2.2.2.2.2.2.2.2.2.1 ((mkT (.l 174 sI4) x.2.2.2.2.2.2.2.2.2.1 (mkT (.l 120 z1) x.2.2.2.2.2.2.2.2.1 (mkT (.l 3 (.i .i64)) x.2.2.2.2.2.2.2.1 (mkT (.l 169 sI4) x.2.2.2.2.2.2.1 (mkT (.l 113 j5) x.2.2.2.2.2.1 (mkT (.l 164 sI6) x.2.2.2.2.1 (mkT (.l 3 (.i .i64)) x.2.2.2.1 (mkT sLaw x.2.2.1 (mkT j3 x.2.1 (mkT sSky x.1 m).2).2).2).2).2).2).2).2).2).2) (by omega) (by omega) (by omega) (by omega)
 have g11 := mlmarkSentS k x.2.2.2.2.2.2.2.2.2.2.2.2.2 ((mkT (.l 115 sI6) x.2.2.2.2.2.2.2.2.2.2.2.2.1 (mkT (.l 174 sI4) x.2.2.2.2.2.2.2.2.2.1 (mkT (.l 120 z1) x.2.2.2.2.2.2.2.2.1 (mkT (.l 3 (.i .i64)) x.2.2.2.2.2.2.2.1 (mkT (.l 169 sI4) x.2.2.2.2.2.2.1 (mkT (.l 113 j5) x.2.2.2.2.2.1 (mkT (.l 164 sI6) x.2.2.2.2.1 (mkT (.l 3 (.i .i64)) x.2.2.2.1 (mkT sLaw x.2.2.1 (mkT j3 x.2.1 (mkT sSky x.1 m).2).2).2).2).2).2).2).2).2).2).2) (by omega) (by omega) (by omega) (by omega)
 rw [elmarkWorld]
 simp only [g0, g1, g2, g3, g4, g5, g6, g7, g8, g9, g10, g11, Option.bind_some]
 rfl
theorem zlszBatteryS (k : Nat) (x : List I6) (left : Int) (hr : j8 140737488351232 (.l 166 sI6) x) (hk : szT (.l 166 sI6) x + 1 < k) (h0 : 0 ≤ left) (h1 : left ≤ 1048576) : zd3 k x left = some (szR (szT (.l 166 sI6) x) left) := by
 obtain ⟨k, rfl⟩ : ∃ q, k = q + 1 := ⟨k - 1, by omega⟩
 have hl : x.length ≤ 140737488351232 := (z6 hr).1
 have hz : szT (.l 166 sI6) x = x.length := yd1 (e := 166) (sh := sI6) rfl x
 exact (elszBatteryS k x left).trans ((wg2 hl h0 h1).trans (congrArg (fun n => some (szR n left)) hz.symm))
theorem zlszFaultS (k : Nat) (x : List I4) (left : Int) (hr : j8 140737488351232 (.l 176 sI4) x) (hk : szT (.l 176 sI4) x + 1 < k) (h0 : 0 ≤ left) (h1 : left ≤ 1048576) : FlszFaultS k x left = some (szR (szT (.l 176 sI4) x) left) := by
 obtain ⟨k, rfl⟩ : ∃ q, k = q + 1 := ⟨k - 1, by omega⟩
 have hl : x.length ≤ 140737488351232 := (z6 hr).1
 have hz : szT (.l 176 sI4) x = x.length := yd1 (e := 176) (sh := sI4) rfl x
 exact (elszFaultS k x left).trans ((wg2 hl h0 h1).trans (congrArg (fun n => some (szR n left)) hz.symm))
theorem zlszFlowS (k : Nat) (x : List I4) (left : Int) (hr : j8 140737488351232 (.l 171 sI4) x) (hk : szT (.l 171 sI4) x + 1 < k) (h0 : 0 ≤ left) (h1 : left ≤ 1048576) : FlszFlowS k x left = some (szR (szT (.l 171 sI4) x) left) := by
 obtain ⟨k, rfl⟩ : ∃ q, k = q + 1 := ⟨k - 1, by omega⟩
 have hl : x.length ≤ 140737488351232 := (z6 hr).1
 have hz : szT (.l 171 sI4) x = x.length := yd1 (e := 171) (sh := sI4) rfl x
 exact (elszFlowS k x left).trans ((wg2 hl h0 h1).trans (congrArg (fun n => some (szR n left)) hz.symm))
theorem vm3 (k : Nat) (x : List Int) (left : Int) (hr : j8 140737488351232 (.l 3 (.i .i64)) x) (hk : szT (.l 3 (.i .i64)) x + 1 < k) (h0 : 0 ≤ left) (h1 : left ≤ 1048576) : xa2 k x left = some (szR (szT (.l 3 (.i .i64)) x) left) := by
 obtain ⟨k, rfl⟩ : ∃ q, k = q + 1 := ⟨k - 1, by omega⟩
 have hl : x.length ≤ 140737488351232 := (z6 hr).1
 have hz : szT (.l 3 (.i .i64)) x = x.length := yd1 (e := 3) (sh := (.i .i64)) rfl x
 exact (elszIntS k x left).trans ((wg2 hl h0 h1).trans (congrArg (fun n => some (szR n left)) hz.symm))
theorem zlszLaw (k : Nat) (x : List Int) (left : Int) (hr : j8 140737488351232 sLaw x) (hk : szT sLaw x + 2 < k) (h0 : 0 ≤ left) (h1 : left ≤ 1048576) : FlszLaw k x left = some (szR (szT sLaw x) left) := by
 obtain ⟨k, rfl⟩ : ∃ q, k = q + 1 := ⟨k - 1, by omega⟩
 have hk' : szT (.l 3 (.i .i64)) x + 2 < k + 1 := hk
 have r0 : j8 140737488351232 (.l 3 (.i .i64)) x := hr
 have ht : szT sLaw x = szT (.l 3 (.i .i64)) x + 0 := by
   show szT (.l 3 (.i .i64)) x = _
   omega
 rw [elszLaw, ht]
 exact zr (vm3 k _ _ r0 (by omega) h0 h1) h0 h1 fun p1 q1 w1 => w92 q1
theorem zlszPacketS (k : Nat) (x : List I6) (left : Int) (hr : j8 140737488351232 (.l 178 sI6) x) (hk : szT (.l 178 sI6) x + 1 < k) (h0 : 0 ≤ left) (h1 : left ≤ 1048576) : yp2 k x left = some (szR (szT (.l 178 sI6) x) left) := by
 obtain ⟨k, rfl⟩ : ∃ q, k = q + 1 := ⟨k - 1, by omega⟩
 have hl : x.length ≤ 140737488351232 := (z6 hr).1
 have hz : szT (.l 178 sI6) x = x.length := yd1 (e := 178) (sh := sI6) rfl x
 exact (elszPacketS k x left).trans ((wg2 hl h0 h1).trans (congrArg (fun n => some (szR n left)) hz.symm))
theorem zlszLinkS (k : Nat) (x : List I2) (left : Int) (hr : j8 140737488351232 (.l 284 sI2) x) (hk : szT (.l 284 sI2) x + 1 < k) (h0 : 0 ≤ left) (h1 : left ≤ 1048576) : FlszLinkS k x left = some (szR (szT (.l 284 sI2) x) left) := by
 obtain ⟨k, rfl⟩ : ∃ q, k = q + 1 := ⟨k - 1, by omega⟩
 have hl : x.length ≤ 140737488351232 := (z6 hr).1
 have hz : szT (.l 284 sI2) x = x.length := yd1 (e := 284) (sh := sI2) rfl x
 exact (elszLinkS k x left).trans ((wg2 hl h0 h1).trans (congrArg (fun n => some (szR n left)) hz.symm))
theorem zlszTable (k : Nat) (x : Int × (List Int) × List Int) (left : Int) (hr : j8 140737488351232 j2 x) (hk : szT j2 x + 2 < k) (h0 : 0 ≤ left) (h1 : left ≤ 1048576) : wa4 k x left = some (szR (szT j2 x) left) := by
 obtain ⟨k, rfl⟩ : ∃ q, k = q + 1 := ⟨k - 1, by omega⟩
 have hk' : (szT (.i .i64) x.1 + (szT (.l 3 (.i .i64)) x.2.1 + szT (.l 3 (.i .i64)) x.2.2)) + 2 < k + 1 := hk
 obtain ⟨r0, r1, r2⟩ : j8 140737488351232 (.i .i64) x.1 ∧ j8 140737488351232 (.l 3 (.i .i64)) x.2.1 ∧ j8 140737488351232 (.l 3 (.i .i64)) x.2.2 := hr
 have f0 : szT (.i .i64) x.1 = 0 := xc _ _ rfl
 have ht : szT j2 x = szT (.l 3 (.i .i64)) x.2.1 + (szT (.l 3 (.i .i64)) x.2.2 + 0) := by
   show (szT (.i .i64) x.1 + (szT (.l 3 (.i .i64)) x.2.1 + szT (.l 3 (.i .i64)) x.2.2)) = _
   omega
 rw [elszTable, ht]
 exact zr (vm3 k _ _ r1 (by omega) h0 h1) h0 h1 fun p1 q1 w1 => zr (vm3 k _ _ r2 (by omega) q1 w1) q1 w1 fun p2 q2 w2 => w92 q2
theorem zlszTableS (k : Nat) (x : List (Int × (List Int) × List Int)) (left : Int) (hr : j8 140737488351232 (.l 280 j2) x) (hk : szT (.l 280 j2) x + 3 < k) (h0 : 0 ≤ left) (h1 : left ≤ 1048576) : wj3 k x left = some (szR (szT (.l 280 j2) x) left) := by
 obtain ⟨k, rfl⟩ : ∃ q, k = q + 1 := ⟨k - 1, by omega⟩
 obtain ⟨hl, hr⟩ : x.length ≤ 140737488351232 ∧ ∀ y ∈ x, j8 140737488351232 j2 y := z6 hr
 have hk' : x.length + sumL (szT j2) x + 3 < k + 1 := hk
 have hw : 0 ≤ left - (x.length : Int) → IntKind.i64.wrap (left - (x.length : Int)) = left - x.length := fun _ => v6 (by omega) (by omega)
 refine (elszTableS k x left).trans (sz_rows (α := Int × (List Int) × List Int) (s := szT j2) hl h0 h1 fun hp => ?_)
 rw [hw hp]
 have := j23 (L := za2 k _ _ x) (f := fun y p => wa4 k y p) (fun _ _ => rfl) (neg := some (-1)) (fin := fun p => some p) (fun _ _ _ => rfl) (fun _ => rfl) (s := szT j2) (a := x) (fun y hy p q0 q1 => zlszTable k y p (hr y hy) (by have := z8 (f := szT j2) hy; omega) q0 q1) hl x.length k 0 (left - x.length) (by omega) (by omega) (by omega) (by omega)
 exact this
theorem zlszPiece (k : Nat) (x : I2 × (List I2) × List (Int × (List Int) × List Int)) (left : Int) (hr : j8 140737488351232 wd x) (hk : szT wd x + 4 < k) (h0 : 0 ≤ left) (h1 : left ≤ 1048576) : wb4 k x left = some (szR (szT wd x) left) := by
 obtain ⟨k, rfl⟩ : ∃ q, k = q + 1 := ⟨k - 1, by omega⟩
 have hk' : (szT sI2 x.1 + (szT (.l 284 sI2) x.2.1 + szT (.l 280 j2) x.2.2)) + 4 < k + 1 := hk
 obtain ⟨r0, r1, r2⟩ : j8 140737488351232 sI2 x.1 ∧ j8 140737488351232 (.l 284 sI2) x.2.1 ∧ j8 140737488351232 (.l 280 j2) x.2.2 := hr
 have f0 : szT sI2 x.1 = 0 := xc _ _ rfl
 have ht : szT wd x = szT (.l 284 sI2) x.2.1 + (szT (.l 280 j2) x.2.2 + 0) := by
   show (szT sI2 x.1 + (szT (.l 284 sI2) x.2.1 + szT (.l 280 j2) x.2.2)) = _
   omega
 rw [elszPiece, ht]
 exact zr (zlszLinkS k _ _ r1 (by omega) h0 h1) h0 h1 fun p1 q1 w1 => zr (zlszTableS k _ _ r2 (by omega) q1 w1) q1 w1 fun p2 q2 w2 => w92 q2
theorem zlszPieceS (k : Nat) (x : List (I2 × (List I2) × List (Int × (List Int) × List Int))) (left : Int) (hr : j8 140737488351232 (.l 217 wd) x) (hk : szT (.l 217 wd) x + 5 < k) (h0 : 0 ≤ left) (h1 : left ≤ 1048576) : zl3 k x left = some (szR (szT (.l 217 wd) x) left) := by
 obtain ⟨k, rfl⟩ : ∃ q, k = q + 1 := ⟨k - 1, by omega⟩
 obtain ⟨hl, hr⟩ : x.length ≤ 140737488351232 ∧ ∀ y ∈ x, j8 140737488351232 wd y := z6 hr
 have hk' : x.length + sumL (szT wd) x + 5 < k + 1 := hk
 have hw : 0 ≤ left - (x.length : Int) → IntKind.i64.wrap (left - (x.length : Int)) = left - x.length := fun _ => v6 (by omega) (by omega)
 refine (elszPieceS k x left).trans (sz_rows (α := I2 × (List I2) × List (Int × (List Int) × List Int)) (s := szT wd) hl h0 h1 fun hp => ?_)
 rw [hw hp]
 have := j23 (L := wb2 k _ _ x) (f := fun y p => wb4 k y p) (fun _ _ => rfl) (neg := some (-1)) (fin := fun p => some p) (fun _ _ _ => rfl) (fun _ => rfl) (s := szT wd) (a := x) (fun y hy p q0 q1 => zlszPiece k y p (hr y hy) (by have := z8 (f := szT wd) hy; omega) q0 q1) hl x.length k 0 (left - x.length) (by omega) (by omega) (by omega) (by omega)
 exact this
theorem zlszProgram (k : Nat) (x : Int × Int × Int × List (I2 × (List I2) × List (Int × (List Int) × List Int))) (left : Int) (hr : j8 140737488351232 jn x) (hk : szT jn x + 6 < k) (h0 : 0 ≤ left) (h1 : left ≤ 1048576) : v14 k x left = some (szR (szT jn x) left) := by
 obtain ⟨k, rfl⟩ : ∃ q, k = q + 1 := ⟨k - 1, by omega⟩
 have hk' : (szT (.i .i64) x.1 + (szT (.i .i64) x.2.1 + (szT (.i .i64) x.2.2.1 + szT (.l 217 wd) x.2.2.2))) + 6 < k + 1 := hk
 obtain ⟨r0, r1, r2, r3⟩ : j8 140737488351232 (.i .i64) x.1 ∧ j8 140737488351232 (.i .i64) x.2.1 ∧ j8 140737488351232 (.i .i64) x.2.2.1 ∧ j8 140737488351232 (.l 217 wd) x.2.2.2 := hr
 have f0 : szT (.i .i64) x.1 = 0 := xc _ _ rfl
 have f1 : szT (.i .i64) x.2.1 = 0 := xc _ _ rfl
 have f2 : szT (.i .i64) x.2.2.1 = 0 := xc _ _ rfl
 have ht : szT jn x = szT (.l 217 wd) x.2.2.2 + 0 := by
   show (szT (.i .i64) x.1 + (szT (.i .i64) x.2.1 + (szT (.i .i64) x.2.2.1 + szT (.l 217 wd) x.2.2.2))) = _
   omega
 rw [elszProgram, ht]
 exact zr (zlszPieceS k _ _ r3 (by omega) h0 h1) h0 h1 fun p1 q1 w1 => w92 q1
theorem zlszQueue (k : Nat) (x : List I6) (left : Int) (hr : j8 140737488351232 we x) (hk : szT we x + 2 < k) (h0 : 0 ≤ left) (h1 : left ≤ 1048576) : j34 k x left = some (szR (szT we x) left) := by
 obtain ⟨k, rfl⟩ : ∃ q, k = q + 1 := ⟨k - 1, by omega⟩
 have hk' : szT (.l 178 sI6) x + 2 < k + 1 := hk
 have r0 : j8 140737488351232 (.l 178 sI6) x := hr
 have ht : szT we x = szT (.l 178 sI6) x + 0 := by
   show szT (.l 178 sI6) x = _
   omega
 rw [elszQueue, ht]
 exact zr (zlszPacketS k _ _ r0 (by omega) h0 h1) h0 h1 fun p1 q1 w1 => w92 q1
theorem zlszQueueS (k : Nat) (x : List (List I6)) (left : Int) (hr : j8 140737488351232 (.l 141 we) x) (hk : szT (.l 141 we) x + 3 < k) (h0 : 0 ≤ left) (h1 : left ≤ 1048576) : yn3 k x left = some (szR (szT (.l 141 we) x) left) := by
 obtain ⟨k, rfl⟩ : ∃ q, k = q + 1 := ⟨k - 1, by omega⟩
 obtain ⟨hl, hr⟩ : x.length ≤ 140737488351232 ∧ ∀ y ∈ x, j8 140737488351232 we y := z6 hr
 have hk' : x.length + sumL (szT we) x + 3 < k + 1 := hk
 have hw : 0 ≤ left - (x.length : Int) → IntKind.i64.wrap (left - (x.length : Int)) = left - x.length := fun _ => v6 (by omega) (by omega)
 refine (elszQueueS k x left).trans (sz_rows (α := List I6) (s := szT we) hl h0 h1 fun hp => ?_)
 rw [hw hp]
 have := j23 (L := jc2 k _ _ x) (f := fun y p => j34 k y p) (fun _ _ => rfl) (neg := some (-1)) (fin := fun p => some p) (fun _ _ _ => rfl) (fun _ => rfl) (s := szT we) (a := x) (fun y hy p q0 q1 => zlszQueue k y p (hr y hy) (by have := z8 (f := szT we) hy; omega) q0 q1) hl x.length k 0 (left - x.length) (by omega) (by omega) (by omega) (by omega)
 exact this
theorem zlszSentS (k : Nat) (x : List I4) (left : Int) (hr : j8 140737488351232 (.l 66 sI4) x) (hk : szT (.l 66 sI4) x + 1 < k) (h0 : 0 ≤ left) (h1 : left ≤ 1048576) : FlszSentS k x left = some (szR (szT (.l 66 sI4) x) left) := by
 obtain ⟨k, rfl⟩ : ∃ q, k = q + 1 := ⟨k - 1, by omega⟩
 have hl : x.length ≤ 140737488351232 := (z6 hr).1
 have hz : szT (.l 66 sI4) x = x.length := yd1 (e := 66) (sh := sI4) rfl x
 exact (elszSentS k x left).trans ((wg2 hl h0 h1).trans (congrArg (fun n => some (szR n left)) hz.symm))
theorem zlszSatS (k : Nat) (x : List I4) (left : Int) (hr : j8 140737488351232 (.l 226 sI4) x) (hk : szT (.l 226 sI4) x + 1 < k) (h0 : 0 ≤ left) (h1 : left ≤ 1048576) : FlszSatS k x left = some (szR (szT (.l 226 sI4) x) left) := by
 obtain ⟨k, rfl⟩ : ∃ q, k = q + 1 := ⟨k - 1, by omega⟩
 have hl : x.length ≤ 140737488351232 := (z6 hr).1
 have hz : szT (.l 226 sI4) x = x.length := yd1 (e := 226) (sh := sI4) rfl x
 exact (elszSatS k x left).trans ((wg2 hl h0 h1).trans (congrArg (fun n => some (szR n left)) hz.symm))
theorem zlszSiteS (k : Nat) (x : List I3) (left : Int) (hr : j8 140737488351232 (.l 230 sI3) x) (hk : szT (.l 230 sI3) x + 1 < k) (h0 : 0 ≤ left) (h1 : left ≤ 1048576) : FlszSiteS k x left = some (szR (szT (.l 230 sI3) x) left) := by
 obtain ⟨k, rfl⟩ : ∃ q, k = q + 1 := ⟨k - 1, by omega⟩
 have hl : x.length ≤ 140737488351232 := (z6 hr).1
 have hz : szT (.l 230 sI3) x = x.length := yd1 (e := 230) (sh := sI3) rfl x
 exact (elszSiteS k x left).trans ((wg2 hl h0 h1).trans (congrArg (fun n => some (szR n left)) hz.symm))
theorem zlszZoneS (k : Nat) (x : List I3) (left : Int) (hr : j8 140737488351232 (.l 238 sZone) x) (hk : szT (.l 238 sZone) x + 1 < k) (h0 : 0 ≤ left) (h1 : left ≤ 1048576) : FlszZoneS k x left = some (szR (szT (.l 238 sZone) x) left) := by
 obtain ⟨k, rfl⟩ : ∃ q, k = q + 1 := ⟨k - 1, by omega⟩
 have hl : x.length ≤ 140737488351232 := (z6 hr).1
 have hz : szT (.l 238 sZone) x = x.length := yd1 (e := 238) (sh := sZone) rfl x
 exact (elszZoneS k x left).trans ((wg2 hl h0 h1).trans (congrArg (fun n => some (szR n left)) hz.symm))
theorem zlszSky (k : Nat) (x : Int × (List I4) × (List I3) × Int × Int × Int × Int × Int × (List I3) × Int) (left : Int) (hr : j8 140737488351232 sLSky x) (hk : szT sLSky x + 2 < k) (h0 : 0 ≤ left) (h1 : left ≤ 1048576) : FlszSky k x left = some (szR (szT sLSky x) left) := by
 obtain ⟨k, rfl⟩ : ∃ q, k = q + 1 := ⟨k - 1, by omega⟩
 have hk' : (szT (.i .i64) x.1 + (szT (.l 226 sI4) x.2.1 + (szT (.l 230 sI3) x.2.2.1 + (szT (.i .i64) x.2.2.2.1 + (szT (.i .i64) x.2.2.2.2.1 + (szT (.i .i64) x.2.2.2.2.2.1 + (szT (.i .i64) x.2.2.2.2.2.2.1 + (szT (.i .i64) x.2.2.2.2.2.2.2.1 + (szT (.l 238 sZone) x.2.2.2.2.2.2.2.2.1 + szT (.i .i64) x.2.2.2.2.2.2.2.2.2))))))))) + 2 < k + 1 := hk
 obtain ⟨r0, r1, r2, r3, r4, r5, r6, r7, r8, r9⟩ : j8 140737488351232 (.i .i64) x.1 ∧ j8 140737488351232 (.l 226 sI4) x.2.1 ∧ j8 140737488351232 (.l 230 sI3) x.2.2.1 ∧ j8 140737488351232 (.i .i64) x.2.2.2.1 ∧ j8 140737488351232 (.i .i64) x.2.2.2.2.1 ∧ j8 140737488351232 (.i .i64) x.2.2.2.2.2.1 ∧ j8 140737488351232 (.i .i64) x.2.2.2.2.2.2.1 ∧ j8 140737488351232 (.i .i64) x.2.2.2.2.2.2.2.1 ∧ j8 140737488351232 (.l 238 sZone) x.2.2.2.2.2.2.2.2.1 ∧ j8 140737488351232 (.i .i64) x.2.2.2.2.2.2.2.2.2 := hr
 have f0 : szT (.i .i64) x.1 = 0 := xc _ _ rfl
 have f3 : szT (.i .i64) x.2.2.2.1 = 0 := xc _ _ rfl
 have f4 : szT (.i .i64) x.2.2.2.2.1 = 0 := xc _ _ rfl
 have f5 : szT (.i .i64) x.2.2.2.2.2.1 = 0 := xc _ _ rfl
 have f6 : szT (.i .i64) x.2.2.2.2.2.2.1 = 0 := xc _ _ rfl
 have f7 : szT (.i .i64) x.2.2.2.2.2.2.2.1 = 0 := xc _ _ rfl
 have f9 : szT (.i .i64) x.2.2.2.2.2.2.2.2.2 = 0 := xc _ _ rfl
 have ht : szT sLSky x = szT (.l 226 sI4) x.2.1 + (szT (.l 230 sI3) x.2.2.1 + (szT (.l 238 sZone) x.2.2.2.2.2.2.2.2.1 + 0)) := by
   show (szT (.i .i64) x.1 + (szT (.l 226 sI4) x.2.1 + (szT (.l 230 sI3) x.2.2.1 + (szT (.i .i64) x.2.2.2.1 + (szT (.i .i64) x.2.2.2.2.1 + (szT (.i .i64) x.2.2.2.2.2.1 + (szT (.i .i64) x.2.2.2.2.2.2.1 + (szT (.i .i64) x.2.2.2.2.2.2.2.1 + (szT (.l 238 sZone) x.2.2.2.2.2.2.2.2.1 + szT (.i .i64) x.2.2.2.2.2.2.2.2.2))))))))) = _
   omega
 rw [elszSky, ht]
 exact zr (zlszSatS k _ _ r1 (by omega) h0 h1) h0 h1 fun p1 q1 w1 => zr (zlszSiteS k _ _ r2 (by omega) q1 w1) q1 w1 fun p2 q2 w2 => zr (zlszZoneS k _ _ r8 (by omega) q2 w2) q2 w2 fun p3 q3 w3 => w92 q3
theorem zlszStream (k : Nat) (x : Int × Int × List Int) (left : Int) (hr : j8 140737488351232 z1 x) (hk : szT z1 x + 2 < k) (h0 : 0 ≤ left) (h1 : left ≤ 1048576) : wk3 k x left = some (szR (szT z1 x) left) := by
 obtain ⟨k, rfl⟩ : ∃ q, k = q + 1 := ⟨k - 1, by omega⟩
 have hk' : (szT (.i .i64) x.1 + (szT (.i .i64) x.2.1 + szT (.l 3 (.i .i64)) x.2.2)) + 2 < k + 1 := hk
 obtain ⟨r0, r1, r2⟩ : j8 140737488351232 (.i .i64) x.1 ∧ j8 140737488351232 (.i .i64) x.2.1 ∧ j8 140737488351232 (.l 3 (.i .i64)) x.2.2 := hr
 have f0 : szT (.i .i64) x.1 = 0 := xc _ _ rfl
 have f1 : szT (.i .i64) x.2.1 = 0 := xc _ _ rfl
 have ht : szT z1 x = szT (.l 3 (.i .i64)) x.2.2 + 0 := by
   show (szT (.i .i64) x.1 + (szT (.i .i64) x.2.1 + szT (.l 3 (.i .i64)) x.2.2)) = _
   omega
 rw [elszStream, ht]
 exact zr (vm3 k _ _ r2 (by omega) h0 h1) h0 h1 fun p1 q1 w1 => w92 q1
theorem zlszStreamS (k : Nat) (x : List (Int × Int × List Int)) (left : Int) (hr : j8 140737488351232 (.l 143 z1) x) (hk : szT (.l 143 z1) x + 3 < k) (h0 : 0 ≤ left) (h1 : left ≤ 1048576) : xn2 k x left = some (szR (szT (.l 143 z1) x) left) := by
 obtain ⟨k, rfl⟩ : ∃ q, k = q + 1 := ⟨k - 1, by omega⟩
 obtain ⟨hl, hr⟩ : x.length ≤ 140737488351232 ∧ ∀ y ∈ x, j8 140737488351232 z1 y := z6 hr
 have hk' : x.length + sumL (szT z1) x + 3 < k + 1 := hk
 have hw : 0 ≤ left - (x.length : Int) → IntKind.i64.wrap (left - (x.length : Int)) = left - x.length := fun _ => v6 (by omega) (by omega)
 refine (elszStreamS k x left).trans (sz_rows (α := Int × Int × List Int) (s := szT z1) hl h0 h1 fun hp => ?_)
 rw [hw hp]
 have := j23 (L := jz1 k _ _ x) (f := fun y p => wk3 k y p) (fun _ _ => rfl) (neg := some (-1)) (fin := fun p => some p) (fun _ _ _ => rfl) (fun _ => rfl) (s := szT z1) (a := x) (fun y hy p q0 q1 => zlszStream k y p (hr y hy) (by have := z8 (f := szT z1) hy; omega) q0 q1) hl x.length k 0 (left - x.length) (by omega) (by omega) (by omega) (by omega)
 exact this
theorem zlszWorld (k : Nat) (x : (Int × (List I4) × (List I3) × Int × Int × Int × Int × Int × (List I3) × Int) × (Int × Int × Int × List (I2 × (List I2) × List (Int × (List Int) × List Int))) × (List Int) × (List Int) × (List I6) × (List (List I6)) × (List I4) × (List Int) × (List (Int × Int × List Int)) × (List I4) × Int × Int × (List I6) × List I4) (left : Int) (hr : j8 140737488351232 yk x) (hk : szT yk x + 7 < k) (h0 : 0 ≤ left) (h1 : left ≤ 1048576) : FlszWorld k x left = some (szR (szT yk x) left) := by
 obtain ⟨k, rfl⟩ : ∃ q, k = q + 1 := ⟨k - 1, by omega⟩
 have hk' : (szT sLSky x.1 + (szT jn x.2.1 + (szT sLaw x.2.2.1 + (szT (.l 3 (.i .i64)) x.2.2.2.1 + (szT (.l 166 sI6) x.2.2.2.2.1 + (szT (.l 141 we) x.2.2.2.2.2.1 + (szT (.l 171 sI4) x.2.2.2.2.2.2.1 + (szT (.l 3 (.i .i64)) x.2.2.2.2.2.2.2.1 + (szT (.l 143 z1) x.2.2.2.2.2.2.2.2.1 + (szT (.l 176 sI4) x.2.2.2.2.2.2.2.2.2.1 + (szT (.i .i64) x.2.2.2.2.2.2.2.2.2.2.1 + (szT (.i .i64) x.2.2.2.2.2.2.2.2.2.2.2.1 + (szT (.l 178 sI6) x.2.2.2.2.2.2.2.2.2.2.2.2.1 + szT (.l 66 sI4) x.2.2.2.2.2.2.2.2.2.2.2.2.2))))))))))))) + 7 < k + 1 := hk
 obtain ⟨r0, r1, r2, r3, r4, r5, r6, r7, r8, r9, r10, r11, r12, r13⟩ : j8 140737488351232 sLSky x.1 ∧ j8 140737488351232 jn x.2.1 ∧ j8 140737488351232 sLaw x.2.2.1 ∧ j8 140737488351232 (.l 3 (.i .i64)) x.2.2.2.1 ∧ j8 140737488351232 (.l 166 sI6) x.2.2.2.2.1 ∧ j8 140737488351232 (.l 141 we) x.2.2.2.2.2.1 ∧ j8 140737488351232 (.l 171 sI4) x.2.2.2.2.2.2.1 ∧ j8 140737488351232 (.l 3 (.i .i64)) x.2.2.2.2.2.2.2.1 ∧ j8 140737488351232 (.l 143 z1) x.2.2.2.2.2.2.2.2.1 ∧ j8 140737488351232 (.l 176 sI4) x.2.2.2.2.2.2.2.2.2.1 ∧ j8 140737488351232 (.i .i64) x.2.2.2.2.2.2.2.2.2.2.1 ∧ j8 140737488351232 (.i .i64) x.2.2.2.2.2.2.2.2.2.2.2.1 ∧ j8 140737488351232 (.l 178 sI6) x.2.2.2.2.2.2.2.2.2.2.2.2.1 ∧ j8 140737488351232 (.l 66 sI4) x.2.2.2.2.2.2.2.2.2.2.2.2.2 := hr
 have f10 : szT (.i .i64) x.2.2.2.2.2.2.2.2.2.2.1 = 0 := xc _ _ rfl
 have f11 : szT (.i .i64) x.2.2.2.2.2.2.2.2.2.2.2.1 = 0 := xc _ _ rfl
 have ht : szT yk x = szT sLSky x.1 + (szT jn x.2.1 + (szT sLaw x.2.2.1 + (szT (.l 3 (.i .i64)) x.2.2.2.1 + (szT (.l 166 sI6) x.2.2.2.2.1 + (szT (.l 141 we) x.2.2.2.2.2.1 + (szT (.l 171 sI4) x.2.2.2.2.2.2.1 + (szT (.l 3 (.i .i64)) x.2.2.2.2.2.2.2.1 + (szT (.l 143 z1) x.2.2.2.2.2.2.2.2.1 + (szT (.l 176 sI4) x.2.2.2.2.2.2.2.2.2.1 + (szT (.l 178 sI6) x.2.2.2.2.2.2.2.2.2.2.2.2.1 + (szT (.l 66 sI4) x.2.2.2.2.2.2.2.2.2.2.2.2.2 + 0))))))))))) := by
   show (szT sLSky x.1 + (szT jn x.2.1 + (szT sLaw x.2.2.1 + (szT (.l 3 (.i .i64)) x.2.2.2.1 + (szT (.l 166 sI6) x.2.2.2.2.1 + (szT (.l 141 we) x.2.2.2.2.2.1 + (szT (.l 171 sI4) x.2.2.2.2.2.2.1 + (szT (.l 3 (.i .i64)) x.2.2.2.2.2.2.2.1 + (szT (.l 143 z1) x.2.2.2.2.2.2.2.2.1 + (szT (.l 176 sI4) x.2.2.2.2.2.2.2.2.2.1 + (szT (.i .i64) x.2.2.2.2.2.2.2.2.2.2.1 + (szT (.i .i64) x.2.2.2.2.2.2.2.2.2.2.2.1 + (szT (.l 178 sI6) x.2.2.2.2.2.2.2.2.2.2.2.2.1 + szT (.l 66 sI4) x.2.2.2.2.2.2.2.2.2.2.2.2.2))))))))))))) = _
   omega
 rw [elszWorld, ht]
 exact zr (zlszSky k _ _ r0 (by omega) h0 h1) h0 h1 fun p1 q1 w1 => zr (zlszProgram k _ _ r1 (by omega) q1 w1) q1 w1 fun p2 q2 w2 => zr (zlszLaw k _ _ r2 (by omega) q2 w2) q2 w2 fun p3 q3 w3 => zr (vm3 k _ _ r3 (by omega) q3 w3) q3 w3 fun p4 q4 w4 => zr (zlszBatteryS k _ _ r4 (by omega) q4 w4) q4 w4 fun p5 q5 w5 => zr (zlszQueueS k _ _ r5 (by omega) q5 w5) q5 w5 fun p6 q6 w6 => zr (zlszFlowS k _ _ r6 (by omega) q6 w6) q6 w6 fun p7 q7 w7 => zr (vm3 k _ _ r7 (by omega) q7 w7) q7 w7 fun p8 q8 w8 => zr (zlszStreamS k _ _ r8 (by omega) q8 w8) q8 w8 fun p9 q9 w9 => zr (zlszFaultS k _ _ r9 (by omega) q9 w9) q9 w9 fun p10 q10 w10 => zr (zlszPacketS k _ _ r12 (by omega) q10 w10) q10 w10 fun p11 q11 w11 => zr (zlszSentS k _ _ r13 (by omega) q11 w11) q11 w11 fun p12 q12 w12 => w92 q12
theorem tltoSent (k : Nat) (x : I4) (hz : szT sI4 x ≤ 1048576) (hk : szT sI4 x + 1 < k) : vn2 k x = some x := by
 obtain ⟨k, rfl⟩ : ∃ q, k = q + 1 := ⟨k - 1, by omega⟩
 have hk' : (szT (.i .i64) x.1 + (szT (.i .i64) x.2.1 + (szT (.i .i64) x.2.2.1 + szT (.i .i64) x.2.2.2))) + 1 < k + 1 := hk
 have hz' : (szT (.i .i64) x.1 + (szT (.i .i64) x.2.1 + (szT (.i .i64) x.2.2.1 + szT (.i .i64) x.2.2.2))) ≤ 1048576 := hz
 exact eltoSent k x
theorem tltoBattery (k : Nat) (x : I6) (hz : szT sI6 x ≤ 1048576) (hk : szT sI6 x + 1 < k) : yv2 k x = some x := by
 obtain ⟨k, rfl⟩ : ∃ q, k = q + 1 := ⟨k - 1, by omega⟩
 have hk' : (szT (.i .i64) x.1 + (szT (.i .i64) x.2.1 + (szT (.i .i64) x.2.2.1 + (szT (.i .i64) x.2.2.2.1 + (szT (.i .i64) x.2.2.2.2.1 + szT (.i .i64) x.2.2.2.2.2))))) + 1 < k + 1 := hk
 have hz' : (szT (.i .i64) x.1 + (szT (.i .i64) x.2.1 + (szT (.i .i64) x.2.2.1 + (szT (.i .i64) x.2.2.2.1 + (szT (.i .i64) x.2.2.2.2.1 + szT (.i .i64) x.2.2.2.2.2))))) ≤ 1048576 := hz
 exact eltoBattery k x
theorem tltoBatteryS (k : Nat) (x : List I6) (hz : szT (.l 166 sI6) x ≤ 1048576) (hk : szT (.l 166 sI6) x + 2 < k) : ju1 k x = some x := by
 obtain ⟨k, rfl⟩ : ∃ q, k = q + 1 := ⟨k - 1, by omega⟩
 have hk' : x.length + sumL (szT sI6) x + 2 < k + 1 := hk
 have hz' : x.length + sumL (szT sI6) x ≤ 1048576 := hz
 refine (eltoBatteryS k x).trans ?_
 rw [if_pos (beq_self_eq_true _), if_pos (by omega), if_pos (by simp; omega)]
 exact wt (α := Int × Int × Int × Int × Int × Int) (L := zs1 k _ x) (f := fun y => yv2 k y) (fun _ _ => rfl) (a := x) (fun y hy => tltoBattery k y (by have := z8 (f := szT sI6) hy; omega) (by have := z8 (f := szT sI6) hy; omega)) (by omega) x.length k 0 _ (by omega) (by omega) (by simp) (by simp)
theorem tltoFault (k : Nat) (x : I4) (hz : szT sI4 x ≤ 1048576) (hk : szT sI4 x + 1 < k) : w64 k x = some x := by
 obtain ⟨k, rfl⟩ : ∃ q, k = q + 1 := ⟨k - 1, by omega⟩
 have hk' : (szT (.i .i64) x.1 + (szT (.i .i64) x.2.1 + (szT (.i .i64) x.2.2.1 + szT (.i .i64) x.2.2.2))) + 1 < k + 1 := hk
 have hz' : (szT (.i .i64) x.1 + (szT (.i .i64) x.2.1 + (szT (.i .i64) x.2.2.1 + szT (.i .i64) x.2.2.2))) ≤ 1048576 := hz
 exact eltoFault k x
theorem tltoFaultS (k : Nat) (x : List I4) (hz : szT (.l 176 sI4) x ≤ 1048576) (hk : szT (.l 176 sI4) x + 2 < k) : ji2 k x = some x := by
 obtain ⟨k, rfl⟩ : ∃ q, k = q + 1 := ⟨k - 1, by omega⟩
 have hk' : x.length + sumL (szT sI4) x + 2 < k + 1 := hk
 have hz' : x.length + sumL (szT sI4) x ≤ 1048576 := hz
 refine (eltoFaultS k x).trans ?_
 rw [if_pos (beq_self_eq_true _), if_pos (by omega), if_pos (by simp; omega)]
 exact wt (α := Int × Int × Int × Int) (L := xc2 k _ x) (f := fun y => w64 k y) (fun _ _ => rfl) (a := x) (fun y hy => tltoFault k y (by have := z8 (f := szT sI4) hy; omega) (by have := z8 (f := szT sI4) hy; omega)) (by omega) x.length k 0 _ (by omega) (by omega) (by simp) (by simp)
theorem tltoFlow (k : Nat) (x : I4) (hz : szT sI4 x ≤ 1048576) (hk : szT sI4 x + 1 < k) : FltoFlow k x = some x := by
 obtain ⟨k, rfl⟩ : ∃ q, k = q + 1 := ⟨k - 1, by omega⟩
 have hk' : (szT (.i .i64) x.1 + (szT (.i .i64) x.2.1 + (szT (.i .i64) x.2.2.1 + szT (.i .i64) x.2.2.2))) + 1 < k + 1 := hk
 have hz' : (szT (.i .i64) x.1 + (szT (.i .i64) x.2.1 + (szT (.i .i64) x.2.2.1 + szT (.i .i64) x.2.2.2))) ≤ 1048576 := hz
 exact eltoFlow k x
theorem tltoFlowS (k : Nat) (x : List I4) (hz : szT (.l 171 sI4) x ≤ 1048576) (hk : szT (.l 171 sI4) x + 2 < k) : xf3 k x = some x := by
 obtain ⟨k, rfl⟩ : ∃ q, k = q + 1 := ⟨k - 1, by omega⟩
 have hk' : x.length + sumL (szT sI4) x + 2 < k + 1 := hk
 have hz' : x.length + sumL (szT sI4) x ≤ 1048576 := hz
 refine (eltoFlowS k x).trans ?_
 rw [if_pos (beq_self_eq_true _), if_pos (by omega), if_pos (by simp; omega)]
 exact wt (α := Int × Int × Int × Int) (L := yu2 k _ x) (f := fun y => FltoFlow k y) (fun _ _ => rfl) (a := x) (fun y hy => tltoFlow k y (by have := z8 (f := szT sI4) hy; omega) (by have := z8 (f := szT sI4) hy; omega)) (by omega) x.length k 0 _ (by omega) (by omega) (by simp) (by simp)
theorem jj3 (k : Nat) (x : List Int) (hz : szT (.l 3 (.i .i64)) x ≤ 1048576) (hk : szT (.l 3 (.i .i64)) x + 1 < k) : y21 k x = some x := by
 obtain ⟨k, rfl⟩ : ∃ q, k = q + 1 := ⟨k - 1, by omega⟩
 have hk' : x.length + sumL (szT (.i .i64)) x + 1 < k + 1 := hk
 have hz' : x.length + sumL (szT (.i .i64)) x ≤ 1048576 := hz
 refine (eltoIntS k x).trans ?_
 rw [if_pos (beq_self_eq_true _), if_pos (by omega), if_pos (by simp; omega)]
 exact wt (α := Int) (L := wl3 k _ x) (f := fun y => some y) (fun _ _ => rfl) (a := x) (fun _ _ => rfl) (by omega) x.length k 0 _ (by omega) (by omega) (by simp) (by simp)
theorem tltoLaw (k : Nat) (x : List Int) (hz : szT sLaw x ≤ 1048576) (hk : szT sLaw x + 2 < k) : FltoLaw k x = some x := by
 obtain ⟨k, rfl⟩ : ∃ q, k = q + 1 := ⟨k - 1, by omega⟩
 have hk' : szT (.l 3 (.i .i64)) x + 2 < k + 1 := hk
 have hz' : szT (.l 3 (.i .i64)) x ≤ 1048576 := hz
 have g0 : y21 k x = some x := jj3 k x (by omega) (by omega)
 refine (eltoLaw k x).trans ?_
 simp only [g0, Option.bind_some, bne_self_eq_false, beq_self_eq_true, Bool.not_true, Bool.false_eq_true, if_false]
theorem tltoPacket (k : Nat) (x : I6) (hz : szT sI6 x ≤ 1048576) (hk : szT sI6 x + 1 < k) : wn3 k x = some x := by
 obtain ⟨k, rfl⟩ : ∃ q, k = q + 1 := ⟨k - 1, by omega⟩
 have hk' : (szT (.i .i64) x.1 + (szT (.i .i64) x.2.1 + (szT (.i .i64) x.2.2.1 + (szT (.i .i64) x.2.2.2.1 + (szT (.i .i64) x.2.2.2.2.1 + szT (.i .i64) x.2.2.2.2.2))))) + 1 < k + 1 := hk
 have hz' : (szT (.i .i64) x.1 + (szT (.i .i64) x.2.1 + (szT (.i .i64) x.2.2.1 + (szT (.i .i64) x.2.2.2.1 + (szT (.i .i64) x.2.2.2.2.1 + szT (.i .i64) x.2.2.2.2.2))))) ≤ 1048576 := hz
 exact eltoPacket k x
theorem tltoPacketS (k : Nat) (x : List I6) (hz : szT (.l 178 sI6) x ≤ 1048576) (hk : szT (.l 178 sI6) x + 2 < k) : xg1 k x = some x := by
 obtain ⟨k, rfl⟩ : ∃ q, k = q + 1 := ⟨k - 1, by omega⟩
 have hk' : x.length + sumL (szT sI6) x + 2 < k + 1 := hk
 have hz' : x.length + sumL (szT sI6) x ≤ 1048576 := hz
 refine (eltoPacketS k x).trans ?_
 rw [if_pos (beq_self_eq_true _), if_pos (by omega), if_pos (by simp; omega)]
 exact wt (α := Int × Int × Int × Int × Int × Int) (L := y22 k _ x) (f := fun y => wn3 k y) (fun _ _ => rfl) (a := x) (fun y hy => tltoPacket k y (by have := z8 (f := szT sI6) hy; omega) (by have := z8 (f := szT sI6) hy; omega)) (by omega) x.length k 0 _ (by omega) (by omega) (by simp) (by simp)
theorem tltoLink (k : Nat) (x : I2) (hz : szT sI2 x ≤ 1048576) (hk : szT sI2 x + 1 < k) : FltoLink k x = some x := by
 obtain ⟨k, rfl⟩ : ∃ q, k = q + 1 := ⟨k - 1, by omega⟩
 have hk' : (szT (.i .i64) x.1 + szT (.i .i64) x.2) + 1 < k + 1 := hk
 have hz' : (szT (.i .i64) x.1 + szT (.i .i64) x.2) ≤ 1048576 := hz
 exact eltoLink k x
theorem tltoLinkS (k : Nat) (x : List I2) (hz : szT (.l 284 sI2) x ≤ 1048576) (hk : szT (.l 284 sI2) x + 2 < k) : j93 k x = some x := by
 obtain ⟨k, rfl⟩ : ∃ q, k = q + 1 := ⟨k - 1, by omega⟩
 have hk' : x.length + sumL (szT sI2) x + 2 < k + 1 := hk
 have hz' : x.length + sumL (szT sI2) x ≤ 1048576 := hz
 refine (eltoLinkS k x).trans ?_
 rw [if_pos (beq_self_eq_true _), if_pos (by omega), if_pos (by simp; omega)]
 exact wt (α := Int × Int) (L := js2 k _ x) (f := fun y => FltoLink k y) (fun _ _ => rfl) (a := x) (fun y hy => tltoLink k y (by have := z8 (f := szT sI2) hy; omega) (by have := z8 (f := szT sI2) hy; omega)) (by omega) x.length k 0 _ (by omega) (by omega) (by simp) (by simp)
theorem tltoSpan (k : Nat) (x : I2) (hz : szT sI2 x ≤ 1048576) (hk : szT sI2 x + 1 < k) : FltoSpan k x = some x := by
 obtain ⟨k, rfl⟩ : ∃ q, k = q + 1 := ⟨k - 1, by omega⟩
 have hk' : (szT (.i .i64) x.1 + szT (.i .i64) x.2) + 1 < k + 1 := hk
 have hz' : (szT (.i .i64) x.1 + szT (.i .i64) x.2) ≤ 1048576 := hz
 exact eltoSpan k x
theorem tltoTable (k : Nat) (x : Int × (List Int) × List Int) (hz : szT j2 x ≤ 1048576) (hk : szT j2 x + 2 < k) : w94 k x = some x := by
 obtain ⟨k, rfl⟩ : ∃ q, k = q + 1 := ⟨k - 1, by omega⟩
 have hk' : (szT (.i .i64) x.1 + (szT (.l 3 (.i .i64)) x.2.1 + szT (.l 3 (.i .i64)) x.2.2)) + 2 < k + 1 := hk
 have hz' : (szT (.i .i64) x.1 + (szT (.l 3 (.i .i64)) x.2.1 + szT (.l 3 (.i .i64)) x.2.2)) ≤ 1048576 := hz
 have g0 : y21 k x.2.1 = some x.2.1 := jj3 k x.2.1 (by omega) (by omega)
 have g1 : y21 k x.2.2 = some x.2.2 := jj3 k x.2.2 (by omega) (by omega)
 refine (eltoTable k x).trans ?_
 simp only [g0, g1, Option.bind_some, bne_self_eq_false, beq_self_eq_true, Bool.not_true, Bool.false_eq_true, if_false]
theorem tltoTableS (k : Nat) (x : List (Int × (List Int) × List Int)) (hz : szT (.l 280 j2) x ≤ 1048576) (hk : szT (.l 280 j2) x + 3 < k) : wl2 k x = some x := by
 obtain ⟨k, rfl⟩ : ∃ q, k = q + 1 := ⟨k - 1, by omega⟩
 have hk' : x.length + sumL (szT j2) x + 3 < k + 1 := hk
 have hz' : x.length + sumL (szT j2) x ≤ 1048576 := hz
 refine (eltoTableS k x).trans ?_
 rw [if_pos (beq_self_eq_true _), if_pos (by omega), if_pos (by simp; omega)]
 exact wt (α := Int × (List Int) × List Int) (L := ve2 k _ x) (f := fun y => w94 k y) (fun _ _ => rfl) (a := x) (fun y hy => tltoTable k y (by have := z8 (f := szT j2) hy; omega) (by have := z8 (f := szT j2) hy; omega)) (by omega) x.length k 0 _ (by omega) (by omega) (by simp) (by simp)
theorem tltoPiece (k : Nat) (x : I2 × (List I2) × List (Int × (List Int) × List Int)) (hz : szT wd x ≤ 1048576) (hk : szT wd x + 4 < k) : FltoPiece k x = some x := by
 obtain ⟨k, rfl⟩ : ∃ q, k = q + 1 := ⟨k - 1, by omega⟩
 have hk' : (szT sI2 x.1 + (szT (.l 284 sI2) x.2.1 + szT (.l 280 j2) x.2.2)) + 4 < k + 1 := hk
 have hz' : (szT sI2 x.1 + (szT (.l 284 sI2) x.2.1 + szT (.l 280 j2) x.2.2)) ≤ 1048576 := hz
 have g0 : FltoSpan k x.1 = some x.1 := tltoSpan k x.1 (by omega) (by omega)
 have g1 : j93 k x.2.1 = some x.2.1 := tltoLinkS k x.2.1 (by omega) (by omega)
 have g2 : wl2 k x.2.2 = some x.2.2 := tltoTableS k x.2.2 (by omega) (by omega)
 refine (eltoPiece k x).trans ?_
 simp only [g0, g1, g2, Option.bind_some, bne_self_eq_false, beq_self_eq_true, Bool.not_true, Bool.false_eq_true, if_false]
theorem tltoPieceS (k : Nat) (x : List (I2 × (List I2) × List (Int × (List Int) × List Int))) (hz : szT (.l 217 wd) x ≤ 1048576) (hk : szT (.l 217 wd) x + 5 < k) : xm2 k x = some x := by
 obtain ⟨k, rfl⟩ : ∃ q, k = q + 1 := ⟨k - 1, by omega⟩
 have hk' : x.length + sumL (szT wd) x + 5 < k + 1 := hk
 have hz' : x.length + sumL (szT wd) x ≤ 1048576 := hz
 refine (eltoPieceS k x).trans ?_
 rw [if_pos (beq_self_eq_true _), if_pos (by omega), if_pos (by simp; omega)]
 exact wt (α := I2 × (List I2) × List (Int × (List Int) × List Int)) (L := xb2 k _ x) (f := fun y => FltoPiece k y) (fun _ _ => rfl) (a := x) (fun y hy => tltoPiece k y (by have := z8 (f := szT wd) hy; omega) (by have := z8 (f := szT wd) hy; omega)) (by omega) x.length k 0 _ (by omega) (by omega) (by simp) (by simp)
theorem tltoProgram (k : Nat) (x : Int × Int × Int × List (I2 × (List I2) × List (Int × (List Int) × List Int))) (hz : szT jn x ≤ 1048576) (hk : szT jn x + 6 < k) : xt2 k x = some x := by
 obtain ⟨k, rfl⟩ : ∃ q, k = q + 1 := ⟨k - 1, by omega⟩
 have hk' : (szT (.i .i64) x.1 + (szT (.i .i64) x.2.1 + (szT (.i .i64) x.2.2.1 + szT (.l 217 wd) x.2.2.2))) + 6 < k + 1 := hk
 have hz' : (szT (.i .i64) x.1 + (szT (.i .i64) x.2.1 + (szT (.i .i64) x.2.2.1 + szT (.l 217 wd) x.2.2.2))) ≤ 1048576 := hz
 have g0 : xm2 k x.2.2.2 = some x.2.2.2 := tltoPieceS k x.2.2.2 (by omega) (by omega)
 refine (eltoProgram k x).trans ?_
 simp only [g0, Option.bind_some, bne_self_eq_false, beq_self_eq_true, Bool.not_true, Bool.false_eq_true, if_false]
theorem tltoQueue (k : Nat) (x : List I6) (hz : szT we x ≤ 1048576) (hk : szT we x + 3 < k) : z74 k x = some x := by
 obtain ⟨k, rfl⟩ : ∃ q, k = q + 1 := ⟨k - 1, by omega⟩
 have hk' : szT (.l 178 sI6) x + 3 < k + 1 := hk
 have hz' : szT (.l 178 sI6) x ≤ 1048576 := hz
 have g0 : xg1 k x = some x := tltoPacketS k x (by omega) (by omega)
 refine (eltoQueue k x).trans ?_
 simp only [g0, Option.bind_some, bne_self_eq_false, beq_self_eq_true, Bool.not_true, Bool.false_eq_true, if_false]
theorem tltoQueueS (k : Nat) (x : List (List I6)) (hz : szT (.l 141 we) x ≤ 1048576) (hk : szT (.l 141 we) x + 4 < k) : zn2 k x = some x := by
 obtain ⟨k, rfl⟩ : ∃ q, k = q + 1 := ⟨k - 1, by omega⟩
 have hk' : x.length + sumL (szT we) x + 4 < k + 1 := hk
 have hz' : x.length + sumL (szT we) x ≤ 1048576 := hz
 refine (eltoQueueS k x).trans ?_
 rw [if_pos (beq_self_eq_true _), if_pos (by omega), if_pos (by simp; omega)]
 exact wt (α := List I6) (L := vf2 k _ x) (f := fun y => z74 k y) (fun _ _ => rfl) (a := x) (fun y hy => tltoQueue k y (by have := z8 (f := szT we) hy; omega) (by have := z8 (f := szT we) hy; omega)) (by omega) x.length k 0 _ (by omega) (by omega) (by simp) (by simp)
theorem tltoSentS (k : Nat) (x : List I4) (hz : szT (.l 66 sI4) x ≤ 1048576) (hk : szT (.l 66 sI4) x + 2 < k) : v73 k x = some x := by
 obtain ⟨k, rfl⟩ : ∃ q, k = q + 1 := ⟨k - 1, by omega⟩
 have hk' : x.length + sumL (szT sI4) x + 2 < k + 1 := hk
 have hz' : x.length + sumL (szT sI4) x ≤ 1048576 := hz
 refine (eltoSentS k x).trans ?_
 rw [if_pos (beq_self_eq_true _), if_pos (by omega), if_pos (by simp; omega)]
 exact wt (α := Int × Int × Int × Int) (L := xs2 k _ x) (f := fun y => vn2 k y) (fun _ _ => rfl) (a := x) (fun y hy => tltoSent k y (by have := z8 (f := szT sI4) hy; omega) (by have := z8 (f := szT sI4) hy; omega)) (by omega) x.length k 0 _ (by omega) (by omega) (by simp) (by simp)
theorem tltoSat (k : Nat) (x : I4) (hz : szT sI4 x ≤ 1048576) (hk : szT sI4 x + 1 < k) : FltoSat k x = some x := by
 obtain ⟨k, rfl⟩ : ∃ q, k = q + 1 := ⟨k - 1, by omega⟩
 have hk' : (szT (.i .i64) x.1 + (szT (.i .i64) x.2.1 + (szT (.i .i64) x.2.2.1 + szT (.i .i64) x.2.2.2))) + 1 < k + 1 := hk
 have hz' : (szT (.i .i64) x.1 + (szT (.i .i64) x.2.1 + (szT (.i .i64) x.2.2.1 + szT (.i .i64) x.2.2.2))) ≤ 1048576 := hz
 exact eltoSat k x
theorem tltoSatS (k : Nat) (x : List I4) (hz : szT (.l 226 sI4) x ≤ 1048576) (hk : szT (.l 226 sI4) x + 2 < k) : y44 k x = some x := by
 obtain ⟨k, rfl⟩ : ∃ q, k = q + 1 := ⟨k - 1, by omega⟩
 have hk' : x.length + sumL (szT sI4) x + 2 < k + 1 := hk
 have hz' : x.length + sumL (szT sI4) x ≤ 1048576 := hz
 refine (eltoSatS k x).trans ?_
 rw [if_pos (beq_self_eq_true _), if_pos (by omega), if_pos (by simp; omega)]
 exact wt (α := Int × Int × Int × Int) (L := xl3 k _ x) (f := fun y => FltoSat k y) (fun _ _ => rfl) (a := x) (fun y hy => tltoSat k y (by have := z8 (f := szT sI4) hy; omega) (by have := z8 (f := szT sI4) hy; omega)) (by omega) x.length k 0 _ (by omega) (by omega) (by simp) (by simp)
theorem tltoSite (k : Nat) (x : I3) (hz : szT sI3 x ≤ 1048576) (hk : szT sI3 x + 1 < k) : FltoSite k x = some x := by
 obtain ⟨k, rfl⟩ : ∃ q, k = q + 1 := ⟨k - 1, by omega⟩
 have hk' : (szT (.i .i64) x.1 + (szT (.i .i64) x.2.1 + szT (.i .i64) x.2.2)) + 1 < k + 1 := hk
 have hz' : (szT (.i .i64) x.1 + (szT (.i .i64) x.2.1 + szT (.i .i64) x.2.2)) ≤ 1048576 := hz
 exact eltoSite k x
theorem tltoSiteS (k : Nat) (x : List I3) (hz : szT (.l 230 sI3) x ≤ 1048576) (hk : szT (.l 230 sI3) x + 2 < k) : jc3 k x = some x := by
 obtain ⟨k, rfl⟩ : ∃ q, k = q + 1 := ⟨k - 1, by omega⟩
 have hk' : x.length + sumL (szT sI3) x + 2 < k + 1 := hk
 have hz' : x.length + sumL (szT sI3) x ≤ 1048576 := hz
 refine (eltoSiteS k x).trans ?_
 rw [if_pos (beq_self_eq_true _), if_pos (by omega), if_pos (by simp; omega)]
 exact wt (α := Int × Int × Int) (L := vu2 k _ x) (f := fun y => FltoSite k y) (fun _ _ => rfl) (a := x) (fun y hy => tltoSite k y (by have := z8 (f := szT sI3) hy; omega) (by have := z8 (f := szT sI3) hy; omega)) (by omega) x.length k 0 _ (by omega) (by omega) (by simp) (by simp)
theorem tltoArc (k : Nat) (x : I2) (hz : szT sI2 x ≤ 1048576) (hk : szT sI2 x + 1 < k) : FltoArc k x = some x := by
 obtain ⟨k, rfl⟩ : ∃ q, k = q + 1 := ⟨k - 1, by omega⟩
 have hk' : (szT (.i .i64) x.1 + szT (.i .i64) x.2) + 1 < k + 1 := hk
 have hz' : (szT (.i .i64) x.1 + szT (.i .i64) x.2) ≤ 1048576 := hz
 exact eltoArc k x
theorem tltoZone (k : Nat) (x : I3) (hz : szT sZone x ≤ 1048576) (hk : szT sZone x + 2 < k) : FltoZone k x = some x := by
 obtain ⟨k, rfl⟩ : ∃ q, k = q + 1 := ⟨k - 1, by omega⟩
 have hk' : (szT (.i .i64) x.1 + szT sI2 x.2) + 2 < k + 1 := hk
 have hz' : (szT (.i .i64) x.1 + szT sI2 x.2) ≤ 1048576 := hz
 have g0 : FltoArc k x.2 = some x.2 := tltoArc k x.2 (by omega) (by omega)
 refine (eltoZone k x).trans ?_
 simp only [g0, Option.bind_some, bne_self_eq_false, beq_self_eq_true, Bool.not_true, Bool.false_eq_true, if_false]
theorem tltoZoneS (k : Nat) (x : List I3) (hz : szT (.l 238 sZone) x ≤ 1048576) (hk : szT (.l 238 sZone) x + 3 < k) : y23 k x = some x := by
 obtain ⟨k, rfl⟩ : ∃ q, k = q + 1 := ⟨k - 1, by omega⟩
 have hk' : x.length + sumL (szT sZone) x + 3 < k + 1 := hk
 have hz' : x.length + sumL (szT sZone) x ≤ 1048576 := hz
 refine (eltoZoneS k x).trans ?_
 rw [if_pos (beq_self_eq_true _), if_pos (by omega), if_pos (by simp; omega)]
 exact wt (α := Int × Int × Int) (L := jp2 k _ x) (f := fun y => FltoZone k y) (fun _ _ => rfl) (a := x) (fun y hy => tltoZone k y (by have := z8 (f := szT sZone) hy; omega) (by have := z8 (f := szT sZone) hy; omega)) (by omega) x.length k 0 _ (by omega) (by omega) (by simp) (by simp)
theorem tltoSky (k : Nat) (x : Int × (List I4) × (List I3) × Int × Int × Int × Int × Int × (List I3) × Int) (hz : szT sLSky x ≤ 1048576) (hk : szT sLSky x + 4 < k) : FltoSky k x = some x := by
 obtain ⟨k, rfl⟩ : ∃ q, k = q + 1 := ⟨k - 1, by omega⟩
 have hk' : (szT (.i .i64) x.1 + (szT (.l 226 sI4) x.2.1 + (szT (.l 230 sI3) x.2.2.1 + (szT (.i .i64) x.2.2.2.1 + (szT (.i .i64) x.2.2.2.2.1 + (szT (.i .i64) x.2.2.2.2.2.1 + (szT (.i .i64) x.2.2.2.2.2.2.1 + (szT (.i .i64) x.2.2.2.2.2.2.2.1 + (szT (.l 238 sZone) x.2.2.2.2.2.2.2.2.1 + szT (.i .i64) x.2.2.2.2.2.2.2.2.2))))))))) + 4 < k + 1 := hk
 have hz' : (szT (.i .i64) x.1 + (szT (.l 226 sI4) x.2.1 + (szT (.l 230 sI3) x.2.2.1 + (szT (.i .i64) x.2.2.2.1 + (szT (.i .i64) x.2.2.2.2.1 + (szT (.i .i64) x.2.2.2.2.2.1 + (szT (.i .i64) x.2.2.2.2.2.2.1 + (szT (.i .i64) x.2.2.2.2.2.2.2.1 + (szT (.l 238 sZone) x.2.2.2.2.2.2.2.2.1 + szT (.i .i64) x.2.2.2.2.2.2.2.2.2))))))))) ≤ 1048576 := hz
 have g0 : y44 k x.2.1 = some x.2.1 := tltoSatS k x.2.1 (by omega) (by omega)
 have g1 : jc3 k x.2.2.1 = some x.2.2.1 := tltoSiteS k x.2.2.1 (by omega) (by omega)
 have g2 : y23 k x.2.2.2.2.2.2.2.2.1 = some x.2.2.2.2.2.2.2.2.1 := tltoZoneS k x.2.2.2.2.2.2.2.2.1 (by omega) (by omega)
 refine (eltoSky k x).trans ?_
 simp only [g0, g1, g2, Option.bind_some, bne_self_eq_false, beq_self_eq_true, Bool.not_true, Bool.false_eq_true, if_false]
theorem tltoStream (k : Nat) (x : Int × Int × List Int) (hz : szT z1 x ≤ 1048576) (hk : szT z1 x + 2 < k) : xk3 k x = some x := by
 obtain ⟨k, rfl⟩ : ∃ q, k = q + 1 := ⟨k - 1, by omega⟩
 have hk' : (szT (.i .i64) x.1 + (szT (.i .i64) x.2.1 + szT (.l 3 (.i .i64)) x.2.2)) + 2 < k + 1 := hk
 have hz' : (szT (.i .i64) x.1 + (szT (.i .i64) x.2.1 + szT (.l 3 (.i .i64)) x.2.2)) ≤ 1048576 := hz
 have g0 : y21 k x.2.2 = some x.2.2 := jj3 k x.2.2 (by omega) (by omega)
 refine (eltoStream k x).trans ?_
 simp only [g0, Option.bind_some, bne_self_eq_false, beq_self_eq_true, Bool.not_true, Bool.false_eq_true, if_false]
theorem tltoStreamS (k : Nat) (x : List (Int × Int × List Int)) (hz : szT (.l 143 z1) x ≤ 1048576) (hk : szT (.l 143 z1) x + 3 < k) : z82 k x = some x := by
 obtain ⟨k, rfl⟩ : ∃ q, k = q + 1 := ⟨k - 1, by omega⟩
 have hk' : x.length + sumL (szT z1) x + 3 < k + 1 := hk
 have hz' : x.length + sumL (szT z1) x ≤ 1048576 := hz
 refine (eltoStreamS k x).trans ?_
 rw [if_pos (beq_self_eq_true _), if_pos (by omega), if_pos (by simp; omega)]
 exact wt (α := Int × Int × List Int) (L := w02 k _ x) (f := fun y => xk3 k y) (fun _ _ => rfl) (a := x) (fun y hy => tltoStream k y (by have := z8 (f := szT z1) hy; omega) (by have := z8 (f := szT z1) hy; omega)) (by omega) x.length k 0 _ (by omega) (by omega) (by simp) (by simp)
theorem tltoWorld (k : Nat) (x : (Int × (List I4) × (List I3) × Int × Int × Int × Int × Int × (List I3) × Int) × (Int × Int × Int × List (I2 × (List I2) × List (Int × (List Int) × List Int))) × (List Int) × (List Int) × (List I6) × (List (List I6)) × (List I4) × (List Int) × (List (Int × Int × List Int)) × (List I4) × Int × Int × (List I6) × List I4) (hz : szT yk x ≤ 1048576) (hk : szT yk x + 7 < k) : yl2 k x = some x := by
 obtain ⟨k, rfl⟩ : ∃ q, k = q + 1 := ⟨k - 1, by omega⟩
 have hk' : (szT sLSky x.1 + (szT jn x.2.1 + (szT sLaw x.2.2.1 + (szT (.l 3 (.i .i64)) x.2.2.2.1 + (szT (.l 166 sI6) x.2.2.2.2.1 + (szT (.l 141 we) x.2.2.2.2.2.1 + (szT (.l 171 sI4) x.2.2.2.2.2.2.1 + (szT (.l 3 (.i .i64)) x.2.2.2.2.2.2.2.1 + (szT (.l 143 z1) x.2.2.2.2.2.2.2.2.1 + (szT (.l 176 sI4) x.2.2.2.2.2.2.2.2.2.1 + (szT (.i .i64) x.2.2.2.2.2.2.2.2.2.2.1 + (szT (.i .i64) x.2.2.2.2.2.2.2.2.2.2.2.1 + (szT (.l 178 sI6) x.2.2.2.2.2.2.2.2.2.2.2.2.1 + szT (.l 66 sI4) x.2.2.2.2.2.2.2.2.2.2.2.2.2))))))))))))) + 7 < k + 1 := hk
 have hz' : (szT sLSky x.1 + (szT jn x.2.1 + (szT sLaw x.2.2.1 + (szT (.l 3 (.i .i64)) x.2.2.2.1 + (szT (.l 166 sI6) x.2.2.2.2.1 + (szT (.l 141 we) x.2.2.2.2.2.1 + (szT (.l 171 sI4) x.2.2.2.2.2.2.1 + (szT (.l 3 (.i .i64)) x.2.2.2.2.2.2.2.1 + (szT (.l 143 z1) x.2.2.2.2.2.2.2.2.1 + (szT (.l 176 sI4) x.2.2.2.2.2.2.2.2.2.1 + (szT (.i .i64) x.2.2.2.2.2.2.2.2.2.2.1 + (szT (.i .i64) x.2.2.2.2.2.2.2.2.2.2.2.1 + (szT (.l 178 sI6) x.2.2.2.2.2.2.2.2.2.2.2.2.1 + szT (.l 66 sI4) x.2.2.2.2.2.2.2.2.2.2.2.2.2))))))))))))) ≤ 1048576 := hz
 have g0 : FltoSky k x.1 = some x.1 := tltoSky k x.1 (by omega) (by omega)
 have g1 : xt2 k x.2.1 = some x.2.1 := tltoProgram k x.2.1 (by omega) (by omega)
 have g2 : FltoLaw k x.2.2.1 = some x.2.2.1 := tltoLaw k x.2.2.1 (by omega) (by omega)
 have g3 : y21 k x.2.2.2.1 = some x.2.2.2.1 := jj3 k x.2.2.2.1 (by omega) (by omega)
 have g4 : ju1 k x.2.2.2.2.1 = some x.2.2.2.2.1 := tltoBatteryS k x.2.2.2.2.1 (by omega) (by omega)
 have g5 : zn2 k x.2.2.2.2.2.1 = some x.2.2.2.2.2.1 := tltoQueueS k x.2.2.2.2.2.1 (by omega) (by omega)
 have g6 : xf3 k x.2.2.2.2.2.2.1 = some x.2.2.2.2.2.2.1 := tltoFlowS k x.2.2.2.2.2.2.1 (by omega) (by omega)
 have g7 : y21 k x.2.2.2.2.2.2.2.1 = some x.2.2.2.2.2.2.2.1 := jj3 k x.2.2.2.2.2.2.2.1 (by omega) (by omega)
 have g8 : z82 k x.2.2.2.2.2.2.2.2.1 = some x.2.2.2.2.2.2.2.2.1 := tltoStreamS k x.2.2.2.2.2.2.2.2.1 (by omega) (by omega)
 have g9 : ji2 k x.2.2.2.2.2.2.2.2.2.1 = some x.2.2.2.2.2.2.2.2.2.1 := tltoFaultS k x.2.2.2.2.2.2.2.2.2.1 (by omega) (by omega)
 have g10 : xg1 k x.2.2.2.2.2.2.2.2.2.2.2.2.1 = some x.2.2.2.2.2.2.2.2.2.2.2.2.1 := tltoPacketS k x.2.2.2.2.2.2.2.2.2.2.2.2.1 (by omega) (by omega)
 have g11 : v73 k x.2.2.2.2.2.2.2.2.2.2.2.2.2 = some x.2.2.2.2.2.2.2.2.2.2.2.2.2 := tltoSentS k x.2.2.2.2.2.2.2.2.2.2.2.2.2 (by omega) (by omega)
 refine (eltoWorld k x).trans ?_
 simp only [g0, g1, g2, g3, g4, g5, g6, g7, g8, g9, g10, g11, Option.bind_some, bne_self_eq_false, beq_self_eq_true, Bool.not_true, Bool.false_eq_true, if_false]
end Go.Proofs.YthnogjmaiffagaaGreat.World
