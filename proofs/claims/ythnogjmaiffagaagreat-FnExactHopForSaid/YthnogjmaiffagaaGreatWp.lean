/- Plain lemmas: sizes, copies and comparisons of the law's data. No condition. -/
import Derived.Test.YthnogjmaiffagaaGreatWb
namespace Go.Proofs.YthnogjmaiffagaaGreat.World
open Go Go.V Go.Proofs
set_option linter.unusedVariables false
set_option linter.unusedSimpArgs false
set_option maxRecDepth 100000
theorem qleqBattery (k : Nat) (x : I6) (hz : szT sI6 x ≤ 140737488351232) (hk : szT sI6 x + 1 < k) : zu2 k x x = some true := by
 obtain ⟨k, rfl⟩ : ∃ q, k = q + 1 := ⟨k - 1, by omega⟩
 have hk' : (szT (.i .i64) x.1 + (szT (.i .i64) x.2.1 + (szT (.i .i64) x.2.2.1 + (szT (.i .i64) x.2.2.2.1 + (szT (.i .i64) x.2.2.2.2.1 + szT (.i .i64) x.2.2.2.2.2))))) + 1 < k + 1 := hk
 have hz' : (szT (.i .i64) x.1 + (szT (.i .i64) x.2.1 + (szT (.i .i64) x.2.2.1 + (szT (.i .i64) x.2.2.2.1 + (szT (.i .i64) x.2.2.2.2.1 + szT (.i .i64) x.2.2.2.2.2))))) ≤ 140737488351232 := hz
 refine (eleqBattery k x x).trans ?_
 simp only [Option.bind_some, bne_self_eq_false, beq_self_eq_true, Bool.not_true, Bool.false_eq_true, if_false]
theorem qleqBatteryS (k : Nat) (x : List I6) (hz : szT (.l 164 sI6) x ≤ 140737488351232) (hk : szT (.l 164 sI6) x + 2 < k) : j02 k x x = some true := by
 obtain ⟨k, rfl⟩ : ∃ q, k = q + 1 := ⟨k - 1, by omega⟩
 have hk' : x.length + sumL (szT sI6) x + 2 < k + 1 := hk
 have hz' : x.length + sumL (szT sI6) x ≤ 140737488351232 := hz
 refine (eleqBatteryS k x x).trans ?_
 rw [if_neg (by simp)]
 exact w51 (α := Int × Int × Int × Int × Int × Int) (L := xz1 k _ _ (x, x)) (f := fun y z => zu2 k y z) (fun _ _ => rfl) (a := x) (fun y hy => qleqBattery k y (by have := wd (f := szT sI6) hy; omega) (by have := wd (f := szT sI6) hy; omega)) (by omega) x.length k 0 (by omega) (by omega)
theorem qleqFault (k : Nat) (x : I4) (hz : szT sI4 x ≤ 140737488351232) (hk : szT sI4 x + 1 < k) : yw3 k x x = some true := by
 obtain ⟨k, rfl⟩ : ∃ q, k = q + 1 := ⟨k - 1, by omega⟩
 have hk' : (szT (.i .i64) x.1 + (szT (.i .i64) x.2.1 + (szT (.i .i64) x.2.2.1 + szT (.i .i64) x.2.2.2))) + 1 < k + 1 := hk
 have hz' : (szT (.i .i64) x.1 + (szT (.i .i64) x.2.1 + (szT (.i .i64) x.2.2.1 + szT (.i .i64) x.2.2.2))) ≤ 140737488351232 := hz
 refine (eleqFault k x x).trans ?_
 simp only [Option.bind_some, bne_self_eq_false, beq_self_eq_true, Bool.not_true, Bool.false_eq_true, if_false]
theorem qleqFaultS (k : Nat) (x : List I4) (hz : szT (.l 174 sI4) x ≤ 140737488351232) (hk : szT (.l 174 sI4) x + 2 < k) : zo2 k x x = some true := by
 obtain ⟨k, rfl⟩ : ∃ q, k = q + 1 := ⟨k - 1, by omega⟩
 have hk' : x.length + sumL (szT sI4) x + 2 < k + 1 := hk
 have hz' : x.length + sumL (szT sI4) x ≤ 140737488351232 := hz
 refine (eleqFaultS k x x).trans ?_
 rw [if_neg (by simp)]
 exact w51 (α := Int × Int × Int × Int) (L := xi2 k _ _ (x, x)) (f := fun y z => yw3 k y z) (fun _ _ => rfl) (a := x) (fun y hy => qleqFault k y (by have := wd (f := szT sI4) hy; omega) (by have := wd (f := szT sI4) hy; omega)) (by omega) x.length k 0 (by omega) (by omega)
theorem qleqFlow (k : Nat) (x : I4) (hz : szT sI4 x ≤ 140737488351232) (hk : szT sI4 x + 1 < k) : FleqFlow k x x = some true := by
 obtain ⟨k, rfl⟩ : ∃ q, k = q + 1 := ⟨k - 1, by omega⟩
 have hk' : (szT (.i .i64) x.1 + (szT (.i .i64) x.2.1 + (szT (.i .i64) x.2.2.1 + szT (.i .i64) x.2.2.2))) + 1 < k + 1 := hk
 have hz' : (szT (.i .i64) x.1 + (szT (.i .i64) x.2.1 + (szT (.i .i64) x.2.2.1 + szT (.i .i64) x.2.2.2))) ≤ 140737488351232 := hz
 refine (eleqFlow k x x).trans ?_
 simp only [Option.bind_some, bne_self_eq_false, beq_self_eq_true, Bool.not_true, Bool.false_eq_true, if_false]
theorem qleqFlowS (k : Nat) (x : List I4) (hz : szT (.l 169 sI4) x ≤ 140737488351232) (hk : szT (.l 169 sI4) x + 2 < k) : y23 k x x = some true := by
 obtain ⟨k, rfl⟩ : ∃ q, k = q + 1 := ⟨k - 1, by omega⟩
 have hk' : x.length + sumL (szT sI4) x + 2 < k + 1 := hk
 have hz' : x.length + sumL (szT sI4) x ≤ 140737488351232 := hz
 refine (eleqFlowS k x x).trans ?_
 rw [if_neg (by simp)]
 exact w51 (α := Int × Int × Int × Int) (L := vp2 k _ _ (x, x)) (f := fun y z => FleqFlow k y z) (fun _ _ => rfl) (a := x) (fun y hy => qleqFlow k y (by have := wd (f := szT sI4) hy; omega) (by have := wd (f := szT sI4) hy; omega)) (by omega) x.length k 0 (by omega) (by omega)
theorem jb3 (k : Nat) (x : List Int) (hz : szT (.l 3 (.i .i64)) x ≤ 140737488351232) (hk : szT (.l 3 (.i .i64)) x + 1 < k) : vc1 k x x = some true := by
 obtain ⟨k, rfl⟩ : ∃ q, k = q + 1 := ⟨k - 1, by omega⟩
 have hk' : x.length + sumL (szT (.i .i64)) x + 1 < k + 1 := hk
 have hz' : x.length + sumL (szT (.i .i64)) x ≤ 140737488351232 := hz
 refine (eleqIntS k x x).trans ?_
 rw [if_neg (by simp)]
 exact eqI_loop2 (α := Int) (L := v93 k _ _ (x, x)) (fun _ _ => rfl) (a := x) (by omega) x.length k 0 (by omega) (by omega)
theorem qleqLaw (k : Nat) (x : List Int) (hz : szT sLaw x ≤ 140737488351232) (hk : szT sLaw x + 2 < k) : FleqLaw k x x = some true := by
 obtain ⟨k, rfl⟩ : ∃ q, k = q + 1 := ⟨k - 1, by omega⟩
 have hk' : szT (.l 3 (.i .i64)) x + 2 < k + 1 := hk
 have hz' : szT (.l 3 (.i .i64)) x ≤ 140737488351232 := hz
 have g0 : vc1 k x x = some true := jb3 k x (by omega) (by omega)
 refine (eleqLaw k x x).trans ?_
 simp only [g0, Option.bind_some, bne_self_eq_false, beq_self_eq_true, Bool.not_true, Bool.false_eq_true, if_false]
theorem qleqPacket (k : Nat) (x : I6) (hz : szT sI6 x ≤ 140737488351232) (hk : szT sI6 x + 1 < k) : j83 k x x = some true := by
 obtain ⟨k, rfl⟩ : ∃ q, k = q + 1 := ⟨k - 1, by omega⟩
 have hk' : (szT (.i .i64) x.1 + (szT (.i .i64) x.2.1 + (szT (.i .i64) x.2.2.1 + (szT (.i .i64) x.2.2.2.1 + (szT (.i .i64) x.2.2.2.2.1 + szT (.i .i64) x.2.2.2.2.2))))) + 1 < k + 1 := hk
 have hz' : (szT (.i .i64) x.1 + (szT (.i .i64) x.2.1 + (szT (.i .i64) x.2.2.1 + (szT (.i .i64) x.2.2.2.1 + (szT (.i .i64) x.2.2.2.2.1 + szT (.i .i64) x.2.2.2.2.2))))) ≤ 140737488351232 := hz
 refine (eleqPacket k x x).trans ?_
 simp only [Option.bind_some, bne_self_eq_false, beq_self_eq_true, Bool.not_true, Bool.false_eq_true, if_false]
theorem qleqPacketS (k : Nat) (x : List I6) (hz : szT (.l 115 sI6) x ≤ 140737488351232) (hk : szT (.l 115 sI6) x + 2 < k) : wm1 k x x = some true := by
 obtain ⟨k, rfl⟩ : ∃ q, k = q + 1 := ⟨k - 1, by omega⟩
 have hk' : x.length + sumL (szT sI6) x + 2 < k + 1 := hk
 have hz' : x.length + sumL (szT sI6) x ≤ 140737488351232 := hz
 refine (eleqPacketS k x x).trans ?_
 rw [if_neg (by simp)]
 exact w51 (α := Int × Int × Int × Int × Int × Int) (L := v62 k _ _ (x, x)) (f := fun y z => j83 k y z) (fun _ _ => rfl) (a := x) (fun y hy => qleqPacket k y (by have := wd (f := szT sI6) hy; omega) (by have := wd (f := szT sI6) hy; omega)) (by omega) x.length k 0 (by omega) (by omega)
theorem qleqLink (k : Nat) (x : I2) (hz : szT sI2 x ≤ 140737488351232) (hk : szT sI2 x + 1 < k) : FleqLink k x x = some true := by
 obtain ⟨k, rfl⟩ : ∃ q, k = q + 1 := ⟨k - 1, by omega⟩
 have hk' : (szT (.i .i64) x.1 + szT (.i .i64) x.2) + 1 < k + 1 := hk
 have hz' : (szT (.i .i64) x.1 + szT (.i .i64) x.2) ≤ 140737488351232 := hz
 refine (eleqLink k x x).trans ?_
 simp only [Option.bind_some, bne_self_eq_false, beq_self_eq_true, Bool.not_true, Bool.false_eq_true, if_false]
theorem qleqLinkS (k : Nat) (x : List I2) (hz : szT (.l 264 sI2) x ≤ 140737488351232) (hk : szT (.l 264 sI2) x + 2 < k) : w13 k x x = some true := by
 obtain ⟨k, rfl⟩ : ∃ q, k = q + 1 := ⟨k - 1, by omega⟩
 have hk' : x.length + sumL (szT sI2) x + 2 < k + 1 := hk
 have hz' : x.length + sumL (szT sI2) x ≤ 140737488351232 := hz
 refine (eleqLinkS k x x).trans ?_
 rw [if_neg (by simp)]
 exact w51 (α := Int × Int) (L := xr2 k _ _ (x, x)) (f := fun y z => FleqLink k y z) (fun _ _ => rfl) (a := x) (fun y hy => qleqLink k y (by have := wd (f := szT sI2) hy; omega) (by have := wd (f := szT sI2) hy; omega)) (by omega) x.length k 0 (by omega) (by omega)
theorem qleqSpan (k : Nat) (x : I2) (hz : szT sI2 x ≤ 140737488351232) (hk : szT sI2 x + 1 < k) : FleqSpan k x x = some true := by
 obtain ⟨k, rfl⟩ : ∃ q, k = q + 1 := ⟨k - 1, by omega⟩
 have hk' : (szT (.i .i64) x.1 + szT (.i .i64) x.2) + 1 < k + 1 := hk
 have hz' : (szT (.i .i64) x.1 + szT (.i .i64) x.2) ≤ 140737488351232 := hz
 refine (eleqSpan k x x).trans ?_
 simp only [Option.bind_some, bne_self_eq_false, beq_self_eq_true, Bool.not_true, Bool.false_eq_true, if_false]
theorem qleqTable (k : Nat) (x : Int × (List Int) × List Int) (hz : szT j8 x ≤ 140737488351232) (hk : szT j8 x + 2 < k) : wt3 k x x = some true := by
 obtain ⟨k, rfl⟩ : ∃ q, k = q + 1 := ⟨k - 1, by omega⟩
 have hk' : (szT (.i .i64) x.1 + (szT (.l 3 (.i .i64)) x.2.1 + szT (.l 3 (.i .i64)) x.2.2)) + 2 < k + 1 := hk
 have hz' : (szT (.i .i64) x.1 + (szT (.l 3 (.i .i64)) x.2.1 + szT (.l 3 (.i .i64)) x.2.2)) ≤ 140737488351232 := hz
 have g0 : vc1 k x.2.1 x.2.1 = some true := jb3 k x.2.1 (by omega) (by omega)
 have g1 : vc1 k x.2.2 x.2.2 = some true := jb3 k x.2.2 (by omega) (by omega)
 refine (eleqTable k x x).trans ?_
 simp only [g0, g1, Option.bind_some, bne_self_eq_false, beq_self_eq_true, Bool.not_true, Bool.false_eq_true, if_false]
theorem qleqTableS (k : Nat) (x : List (Int × (List Int) × List Int)) (hz : szT (.l 147 j8) x ≤ 140737488351232) (hk : szT (.l 147 j8) x + 3 < k) : yn2 k x x = some true := by
 obtain ⟨k, rfl⟩ : ∃ q, k = q + 1 := ⟨k - 1, by omega⟩
 have hk' : x.length + sumL (szT j8) x + 3 < k + 1 := hk
 have hz' : x.length + sumL (szT j8) x ≤ 140737488351232 := hz
 refine (eleqTableS k x x).trans ?_
 rw [if_neg (by simp)]
 exact w51 (α := Int × (List Int) × List Int) (L := zf2 k _ _ (x, x)) (f := fun y z => wt3 k y z) (fun _ _ => rfl) (a := x) (fun y hy => qleqTable k y (by have := wd (f := szT j8) hy; omega) (by have := wd (f := szT j8) hy; omega)) (by omega) x.length k 0 (by omega) (by omega)
theorem qleqPiece (k : Nat) (x : I2 × (List I2) × List (Int × (List Int) × List Int)) (hz : szT xk x ≤ 140737488351232) (hk : szT xk x + 4 < k) : jz3 k x x = some true := by
 obtain ⟨k, rfl⟩ : ∃ q, k = q + 1 := ⟨k - 1, by omega⟩
 have hk' : (szT sI2 x.1 + (szT (.l 264 sI2) x.2.1 + szT (.l 147 j8) x.2.2)) + 4 < k + 1 := hk
 have hz' : (szT sI2 x.1 + (szT (.l 264 sI2) x.2.1 + szT (.l 147 j8) x.2.2)) ≤ 140737488351232 := hz
 have g0 : FleqSpan k x.1 x.1 = some true := qleqSpan k x.1 (by omega) (by omega)
 have g1 : w13 k x.2.1 x.2.1 = some true := qleqLinkS k x.2.1 (by omega) (by omega)
 have g2 : yn2 k x.2.2 x.2.2 = some true := qleqTableS k x.2.2 (by omega) (by omega)
 refine (eleqPiece k x x).trans ?_
 simp only [g0, g1, g2, Option.bind_some, bne_self_eq_false, beq_self_eq_true, Bool.not_true, Bool.false_eq_true, if_false]
theorem qleqPieceS (k : Nat) (x : List (I2 × (List I2) × List (Int × (List Int) × List Int))) (hz : szT (.l 157 xk) x ≤ 140737488351232) (hk : szT (.l 157 xk) x + 5 < k) : zk2 k x x = some true := by
 obtain ⟨k, rfl⟩ : ∃ q, k = q + 1 := ⟨k - 1, by omega⟩
 have hk' : x.length + sumL (szT xk) x + 5 < k + 1 := hk
 have hz' : x.length + sumL (szT xk) x ≤ 140737488351232 := hz
 refine (eleqPieceS k x x).trans ?_
 rw [if_neg (by simp)]
 exact w51 (α := I2 × (List I2) × List (Int × (List Int) × List Int)) (L := jg2 k _ _ (x, x)) (f := fun y z => jz3 k y z) (fun _ _ => rfl) (a := x) (fun y hy => qleqPiece k y (by have := wd (f := szT xk) hy; omega) (by have := wd (f := szT xk) hy; omega)) (by omega) x.length k 0 (by omega) (by omega)
theorem qleqProgram (k : Nat) (x : Int × Int × Int × List (I2 × (List I2) × List (Int × (List Int) × List Int))) (hz : szT z7 x ≤ 140737488351232) (hk : szT z7 x + 6 < k) : yv2 k x x = some true := by
 obtain ⟨k, rfl⟩ : ∃ q, k = q + 1 := ⟨k - 1, by omega⟩
 have hk' : (szT (.i .i64) x.1 + (szT (.i .i64) x.2.1 + (szT (.i .i64) x.2.2.1 + szT (.l 157 xk) x.2.2.2))) + 6 < k + 1 := hk
 have hz' : (szT (.i .i64) x.1 + (szT (.i .i64) x.2.1 + (szT (.i .i64) x.2.2.1 + szT (.l 157 xk) x.2.2.2))) ≤ 140737488351232 := hz
 have g0 : zk2 k x.2.2.2 x.2.2.2 = some true := qleqPieceS k x.2.2.2 (by omega) (by omega)
 refine (eleqProgram k x x).trans ?_
 simp only [g0, Option.bind_some, bne_self_eq_false, beq_self_eq_true, Bool.not_true, Bool.false_eq_true, if_false]
theorem qleqQueue (k : Nat) (x : List I6) (hz : szT z51 x ≤ 140737488351232) (hk : szT z51 x + 3 < k) : zv3 k x x = some true := by
 obtain ⟨k, rfl⟩ : ∃ q, k = q + 1 := ⟨k - 1, by omega⟩
 have hk' : szT (.l 115 sI6) x + 3 < k + 1 := hk
 have hz' : szT (.l 115 sI6) x ≤ 140737488351232 := hz
 have g0 : wm1 k x x = some true := qleqPacketS k x (by omega) (by omega)
 refine (eleqQueue k x x).trans ?_
 simp only [g0, Option.bind_some, bne_self_eq_false, beq_self_eq_true, Bool.not_true, Bool.false_eq_true, if_false]
theorem qleqQueueS (k : Nat) (x : List (List I6)) (hz : szT (.l 113 z51) x ≤ 140737488351232) (hk : szT (.l 113 z51) x + 4 < k) : zm2 k x x = some true := by
 obtain ⟨k, rfl⟩ : ∃ q, k = q + 1 := ⟨k - 1, by omega⟩
 have hk' : x.length + sumL (szT z51) x + 4 < k + 1 := hk
 have hz' : x.length + sumL (szT z51) x ≤ 140737488351232 := hz
 refine (eleqQueueS k x x).trans ?_
 rw [if_neg (by simp)]
 exact w51 (α := List I6) (L := xh2 k _ _ (x, x)) (f := fun y z => zv3 k y z) (fun _ _ => rfl) (a := x) (fun y hy => qleqQueue k y (by have := wd (f := szT z51) hy; omega) (by have := wd (f := szT z51) hy; omega)) (by omega) x.length k 0 (by omega) (by omega)
theorem qleqSent (k : Nat) (x : I4) (hz : szT sI4 x ≤ 140737488351232) (hk : szT sI4 x + 1 < k) : FleqSent k x x = some true := by
 obtain ⟨k, rfl⟩ : ∃ q, k = q + 1 := ⟨k - 1, by omega⟩
 have hk' : (szT (.i .i64) x.1 + (szT (.i .i64) x.2.1 + (szT (.i .i64) x.2.2.1 + szT (.i .i64) x.2.2.2))) + 1 < k + 1 := hk
 have hz' : (szT (.i .i64) x.1 + (szT (.i .i64) x.2.1 + (szT (.i .i64) x.2.2.1 + szT (.i .i64) x.2.2.2))) ≤ 140737488351232 := hz
 refine (eleqSent k x x).trans ?_
 simp only [Option.bind_some, bne_self_eq_false, beq_self_eq_true, Bool.not_true, Bool.false_eq_true, if_false]
theorem qleqSentS (k : Nat) (x : List I4) (hz : szT (.l 69 sI4) x ≤ 140737488351232) (hk : szT (.l 69 sI4) x + 2 < k) : w63 k x x = some true := by
 obtain ⟨k, rfl⟩ : ∃ q, k = q + 1 := ⟨k - 1, by omega⟩
 have hk' : x.length + sumL (szT sI4) x + 2 < k + 1 := hk
 have hz' : x.length + sumL (szT sI4) x ≤ 140737488351232 := hz
 refine (eleqSentS k x x).trans ?_
 rw [if_neg (by simp)]
 exact w51 (α := Int × Int × Int × Int) (L := ys2 k _ _ (x, x)) (f := fun y z => FleqSent k y z) (fun _ _ => rfl) (a := x) (fun y hy => qleqSent k y (by have := wd (f := szT sI4) hy; omega) (by have := wd (f := szT sI4) hy; omega)) (by omega) x.length k 0 (by omega) (by omega)
theorem qleqSat (k : Nat) (x : I4) (hz : szT sI4 x ≤ 140737488351232) (hk : szT sI4 x + 1 < k) : FleqSat k x x = some true := by
 obtain ⟨k, rfl⟩ : ∃ q, k = q + 1 := ⟨k - 1, by omega⟩
 have hk' : (szT (.i .i64) x.1 + (szT (.i .i64) x.2.1 + (szT (.i .i64) x.2.2.1 + szT (.i .i64) x.2.2.2))) + 1 < k + 1 := hk
 have hz' : (szT (.i .i64) x.1 + (szT (.i .i64) x.2.1 + (szT (.i .i64) x.2.2.1 + szT (.i .i64) x.2.2.2))) ≤ 140737488351232 := hz
 refine (eleqSat k x x).trans ?_
 simp only [Option.bind_some, bne_self_eq_false, beq_self_eq_true, Bool.not_true, Bool.false_eq_true, if_false]
theorem qleqSatS (k : Nat) (x : List I4) (hz : szT (.l 224 sI4) x ≤ 140737488351232) (hk : szT (.l 224 sI4) x + 2 < k) : ws3 k x x = some true := by
 obtain ⟨k, rfl⟩ : ∃ q, k = q + 1 := ⟨k - 1, by omega⟩
 have hk' : x.length + sumL (szT sI4) x + 2 < k + 1 := hk
 have hz' : x.length + sumL (szT sI4) x ≤ 140737488351232 := hz
 refine (eleqSatS k x x).trans ?_
 rw [if_neg (by simp)]
 exact w51 (α := Int × Int × Int × Int) (L := z83 k _ _ (x, x)) (f := fun y z => FleqSat k y z) (fun _ _ => rfl) (a := x) (fun y hy => qleqSat k y (by have := wd (f := szT sI4) hy; omega) (by have := wd (f := szT sI4) hy; omega)) (by omega) x.length k 0 (by omega) (by omega)
theorem qleqSite (k : Nat) (x : I3) (hz : szT sI3 x ≤ 140737488351232) (hk : szT sI3 x + 1 < k) : FleqSite k x x = some true := by
 obtain ⟨k, rfl⟩ : ∃ q, k = q + 1 := ⟨k - 1, by omega⟩
 have hk' : (szT (.i .i64) x.1 + (szT (.i .i64) x.2.1 + szT (.i .i64) x.2.2)) + 1 < k + 1 := hk
 have hz' : (szT (.i .i64) x.1 + (szT (.i .i64) x.2.1 + szT (.i .i64) x.2.2)) ≤ 140737488351232 := hz
 refine (eleqSite k x x).trans ?_
 simp only [Option.bind_some, bne_self_eq_false, beq_self_eq_true, Bool.not_true, Bool.false_eq_true, if_false]
theorem qleqSiteS (k : Nat) (x : List I3) (hz : szT (.l 228 sI3) x ≤ 140737488351232) (hk : szT (.l 228 sI3) x + 2 < k) : vy2 k x x = some true := by
 obtain ⟨k, rfl⟩ : ∃ q, k = q + 1 := ⟨k - 1, by omega⟩
 have hk' : x.length + sumL (szT sI3) x + 2 < k + 1 := hk
 have hz' : x.length + sumL (szT sI3) x ≤ 140737488351232 := hz
 refine (eleqSiteS k x x).trans ?_
 rw [if_neg (by simp)]
 exact w51 (α := Int × Int × Int) (L := zw2 k _ _ (x, x)) (f := fun y z => FleqSite k y z) (fun _ _ => rfl) (a := x) (fun y hy => qleqSite k y (by have := wd (f := szT sI3) hy; omega) (by have := wd (f := szT sI3) hy; omega)) (by omega) x.length k 0 (by omega) (by omega)
theorem qleqArc (k : Nat) (x : I2) (hz : szT sI2 x ≤ 140737488351232) (hk : szT sI2 x + 1 < k) : FleqArc k x x = some true := by
 obtain ⟨k, rfl⟩ : ∃ q, k = q + 1 := ⟨k - 1, by omega⟩
 have hk' : (szT (.i .i64) x.1 + szT (.i .i64) x.2) + 1 < k + 1 := hk
 have hz' : (szT (.i .i64) x.1 + szT (.i .i64) x.2) ≤ 140737488351232 := hz
 refine (eleqArc k x x).trans ?_
 simp only [Option.bind_some, bne_self_eq_false, beq_self_eq_true, Bool.not_true, Bool.false_eq_true, if_false]
theorem qleqZone (k : Nat) (x : I3) (hz : szT sZone x ≤ 140737488351232) (hk : szT sZone x + 2 < k) : FleqZone k x x = some true := by
 obtain ⟨k, rfl⟩ : ∃ q, k = q + 1 := ⟨k - 1, by omega⟩
 have hk' : (szT (.i .i64) x.1 + szT sI2 x.2) + 2 < k + 1 := hk
 have hz' : (szT (.i .i64) x.1 + szT sI2 x.2) ≤ 140737488351232 := hz
 have g0 : FleqArc k x.2 x.2 = some true := qleqArc k x.2 (by omega) (by omega)
 refine (eleqZone k x x).trans ?_
 simp only [g0, Option.bind_some, bne_self_eq_false, beq_self_eq_true, Bool.not_true, Bool.false_eq_true, if_false]
theorem qleqZoneS (k : Nat) (x : List I3) (hz : szT (.l 234 sZone) x ≤ 140737488351232) (hk : szT (.l 234 sZone) x + 3 < k) : jy2 k x x = some true := by
 obtain ⟨k, rfl⟩ : ∃ q, k = q + 1 := ⟨k - 1, by omega⟩
 have hk' : x.length + sumL (szT sZone) x + 3 < k + 1 := hk
 have hz' : x.length + sumL (szT sZone) x ≤ 140737488351232 := hz
 refine (eleqZoneS k x x).trans ?_
 rw [if_neg (by simp)]
 exact w51 (α := Int × Int × Int) (L := wr2 k _ _ (x, x)) (f := fun y z => FleqZone k y z) (fun _ _ => rfl) (a := x) (fun y hy => qleqZone k y (by have := wd (f := szT sZone) hy; omega) (by have := wd (f := szT sZone) hy; omega)) (by omega) x.length k 0 (by omega) (by omega)
theorem qleqSky (k : Nat) (x : Int × (List I4) × (List I3) × Int × Int × Int × Int × Int × (List I3) × Int) (hz : szT sSky x ≤ 140737488351232) (hk : szT sSky x + 4 < k) : FleqSky k x x = some true := by
 obtain ⟨k, rfl⟩ : ∃ q, k = q + 1 := ⟨k - 1, by omega⟩
 have hk' : (szT (.i .i64) x.1 + (szT (.l 224 sI4) x.2.1 + (szT (.l 228 sI3) x.2.2.1 + (szT (.i .i64) x.2.2.2.1 + (szT (.i .i64) x.2.2.2.2.1 + (szT (.i .i64) x.2.2.2.2.2.1 + (szT (.i .i64) x.2.2.2.2.2.2.1 + (szT (.i .i64) x.2.2.2.2.2.2.2.1 + (szT (.l 234 sZone) x.2.2.2.2.2.2.2.2.1 + szT (.i .i64) x.2.2.2.2.2.2.2.2.2))))))))) + 4 < k + 1 := hk
 have hz' : (szT (.i .i64) x.1 + (szT (.l 224 sI4) x.2.1 + (szT (.l 228 sI3) x.2.2.1 + (szT (.i .i64) x.2.2.2.1 + (szT (.i .i64) x.2.2.2.2.1 + (szT (.i .i64) x.2.2.2.2.2.1 + (szT (.i .i64) x.2.2.2.2.2.2.1 + (szT (.i .i64) x.2.2.2.2.2.2.2.1 + (szT (.l 234 sZone) x.2.2.2.2.2.2.2.2.1 + szT (.i .i64) x.2.2.2.2.2.2.2.2.2))))))))) ≤ 140737488351232 := hz
 have g0 : ws3 k x.2.1 x.2.1 = some true := qleqSatS k x.2.1 (by omega) (by omega)
 have g1 : vy2 k x.2.2.1 x.2.2.1 = some true := qleqSiteS k x.2.2.1 (by omega) (by omega)
 have g2 : jy2 k x.2.2.2.2.2.2.2.2.1 x.2.2.2.2.2.2.2.2.1 = some true := qleqZoneS k x.2.2.2.2.2.2.2.2.1 (by omega) (by omega)
 refine (eleqSky k x x).trans ?_
 simp only [g0, g1, g2, Option.bind_some, bne_self_eq_false, beq_self_eq_true, Bool.not_true, Bool.false_eq_true, if_false]
theorem qleqStream (k : Nat) (x : Int × Int × List Int) (hz : szT z8 x ≤ 140737488351232) (hk : szT z8 x + 2 < k) : v83 k x x = some true := by
 obtain ⟨k, rfl⟩ : ∃ q, k = q + 1 := ⟨k - 1, by omega⟩
 have hk' : (szT (.i .i64) x.1 + (szT (.i .i64) x.2.1 + szT (.l 3 (.i .i64)) x.2.2)) + 2 < k + 1 := hk
 have hz' : (szT (.i .i64) x.1 + (szT (.i .i64) x.2.1 + szT (.l 3 (.i .i64)) x.2.2)) ≤ 140737488351232 := hz
 have g0 : vc1 k x.2.2 x.2.2 = some true := jb3 k x.2.2 (by omega) (by omega)
 refine (eleqStream k x x).trans ?_
 simp only [g0, Option.bind_some, bne_self_eq_false, beq_self_eq_true, Bool.not_true, Bool.false_eq_true, if_false]
theorem qleqStreamS (k : Nat) (x : List (Int × Int × List Int)) (hz : szT (.l 120 z8) x ≤ 140737488351232) (hk : szT (.l 120 z8) x + 3 < k) : zd2 k x x = some true := by
 obtain ⟨k, rfl⟩ : ∃ q, k = q + 1 := ⟨k - 1, by omega⟩
 have hk' : x.length + sumL (szT z8) x + 3 < k + 1 := hk
 have hz' : x.length + sumL (szT z8) x ≤ 140737488351232 := hz
 refine (eleqStreamS k x x).trans ?_
 rw [if_neg (by simp)]
 exact w51 (α := Int × Int × List Int) (L := j72 k _ _ (x, x)) (f := fun y z => v83 k y z) (fun _ _ => rfl) (a := x) (fun y hy => qleqStream k y (by have := wd (f := szT z8) hy; omega) (by have := wd (f := szT z8) hy; omega)) (by omega) x.length k 0 (by omega) (by omega)
theorem qleqWorld (k : Nat) (x : (Int × (List I4) × (List I3) × Int × Int × Int × Int × Int × (List I3) × Int) × (Int × Int × Int × List (I2 × (List I2) × List (Int × (List Int) × List Int))) × (List Int) × (List Int) × (List I6) × (List (List I6)) × (List I4) × (List Int) × (List (Int × Int × List Int)) × (List I4) × Int × Int × (List I6) × List I4) (hz : szT zl2 x ≤ 140737488351232) (hk : szT zl2 x + 7 < k) : FleqWorld k x x = some true := by
 obtain ⟨k, rfl⟩ : ∃ q, k = q + 1 := ⟨k - 1, by omega⟩
 have hk' : (szT sSky x.1 + (szT z7 x.2.1 + (szT sLaw x.2.2.1 + (szT (.l 3 (.i .i64)) x.2.2.2.1 + (szT (.l 164 sI6) x.2.2.2.2.1 + (szT (.l 113 z51) x.2.2.2.2.2.1 + (szT (.l 169 sI4) x.2.2.2.2.2.2.1 + (szT (.l 3 (.i .i64)) x.2.2.2.2.2.2.2.1 + (szT (.l 120 z8) x.2.2.2.2.2.2.2.2.1 + (szT (.l 174 sI4) x.2.2.2.2.2.2.2.2.2.1 + (szT (.i .i64) x.2.2.2.2.2.2.2.2.2.2.1 + (szT (.i .i64) x.2.2.2.2.2.2.2.2.2.2.2.1 + (szT (.l 115 sI6) x.2.2.2.2.2.2.2.2.2.2.2.2.1 + szT (.l 69 sI4) x.2.2.2.2.2.2.2.2.2.2.2.2.2))))))))))))) + 7 < k + 1 := hk
 have hz' : (szT sSky x.1 + (szT z7 x.2.1 + (szT sLaw x.2.2.1 + (szT (.l 3 (.i .i64)) x.2.2.2.1 + (szT (.l 164 sI6) x.2.2.2.2.1 + (szT (.l 113 z51) x.2.2.2.2.2.1 + (szT (.l 169 sI4) x.2.2.2.2.2.2.1 + (szT (.l 3 (.i .i64)) x.2.2.2.2.2.2.2.1 + (szT (.l 120 z8) x.2.2.2.2.2.2.2.2.1 + (szT (.l 174 sI4) x.2.2.2.2.2.2.2.2.2.1 + (szT (.i .i64) x.2.2.2.2.2.2.2.2.2.2.1 + (szT (.i .i64) x.2.2.2.2.2.2.2.2.2.2.2.1 + (szT (.l 115 sI6) x.2.2.2.2.2.2.2.2.2.2.2.2.1 + szT (.l 69 sI4) x.2.2.2.2.2.2.2.2.2.2.2.2.2))))))))))))) ≤ 140737488351232 := hz
 have g0 : FleqSky k x.1 x.1 = some true := qleqSky k x.1 (by omega) (by omega)
 have g1 : yv2 k x.2.1 x.2.1 = some true := qleqProgram k x.2.1 (by omega) (by omega)
 have g2 : FleqLaw k x.2.2.1 x.2.2.1 = some true := qleqLaw k x.2.2.1 (by omega) (by omega)
 have g3 : vc1 k x.2.2.2.1 x.2.2.2.1 = some true := jb3 k x.2.2.2.1 (by omega) (by omega)
 have g4 : j02 k x.2.2.2.2.1 x.2.2.2.2.1 = some true := qleqBatteryS k x.2.2.2.2.1 (by omega) (by omega)
 have g5 : zm2 k x.2.2.2.2.2.1 x.2.2.2.2.2.1 = some true := qleqQueueS k x.2.2.2.2.2.1 (by omega) (by omega)
 have g6 : y23 k x.2.2.2.2.2.2.1 x.2.2.2.2.2.2.1 = some true := qleqFlowS k x.2.2.2.2.2.2.1 (by omega) (by omega)
 have g7 : vc1 k x.2.2.2.2.2.2.2.1 x.2.2.2.2.2.2.2.1 = some true := jb3 k x.2.2.2.2.2.2.2.1 (by omega) (by omega)
 have g8 : zd2 k x.2.2.2.2.2.2.2.2.1 x.2.2.2.2.2.2.2.2.1 = some true := qleqStreamS k x.2.2.2.2.2.2.2.2.1 (by omega) (by omega)
 have g9 : zo2 k x.2.2.2.2.2.2.2.2.2.1 x.2.2.2.2.2.2.2.2.2.1 = some true := qleqFaultS k x.2.2.2.2.2.2.2.2.2.1 (by omega) (by omega)
 have g10 : wm1 k x.2.2.2.2.2.2.2.2.2.2.2.2.1 x.2.2.2.2.2.2.2.2.2.2.2.2.1 = some true := qleqPacketS k x.2.2.2.2.2.2.2.2.2.2.2.2.1 (by omega) (by omega)
 have g11 : w63 k x.2.2.2.2.2.2.2.2.2.2.2.2.2 x.2.2.2.2.2.2.2.2.2.2.2.2.2 = some true := qleqSentS k x.2.2.2.2.2.2.2.2.2.2.2.2.2 (by omega) (by omega)
 refine (eleqWorld k x x).trans ?_
 simp only [g0, g1, g2, g3, g4, g5, g6, g7, g8, g9, g10, g11, Option.bind_some, bne_self_eq_false, beq_self_eq_true, Bool.not_true, Bool.false_eq_true, if_false]
theorem zlszBatteryS (k : Nat) (x : List I6) (left : Int) (hr : zb 140737488351232 (.l 166 sI6) x) (hk : szT (.l 166 sI6) x + 1 < k) (h0 : 0 ≤ left) (h1 : left ≤ 1048576) : w03 k x left = some (szR (szT (.l 166 sI6) x) left) := by
 obtain ⟨k, rfl⟩ : ∃ q, k = q + 1 := ⟨k - 1, by omega⟩
 have hl : x.length ≤ 140737488351232 := (zd hr).1
 have hz : szT (.l 166 sI6) x = x.length := ji2 (e := 166) (sh := sI6) rfl x
 exact (elszBatteryS k x left).trans ((yj2 hl h0 h1).trans (congrArg (fun n => some (szR n left)) hz.symm))
theorem zlszFaultS (k : Nat) (x : List I4) (left : Int) (hr : zb 140737488351232 (.l 176 sI4) x) (hk : szT (.l 176 sI4) x + 1 < k) (h0 : 0 ≤ left) (h1 : left ≤ 1048576) : FlszFaultS k x left = some (szR (szT (.l 176 sI4) x) left) := by
 obtain ⟨k, rfl⟩ : ∃ q, k = q + 1 := ⟨k - 1, by omega⟩
 have hl : x.length ≤ 140737488351232 := (zd hr).1
 have hz : szT (.l 176 sI4) x = x.length := ji2 (e := 176) (sh := sI4) rfl x
 exact (elszFaultS k x left).trans ((yj2 hl h0 h1).trans (congrArg (fun n => some (szR n left)) hz.symm))
theorem zlszFlowS (k : Nat) (x : List I4) (left : Int) (hr : zb 140737488351232 (.l 171 sI4) x) (hk : szT (.l 171 sI4) x + 1 < k) (h0 : 0 ≤ left) (h1 : left ≤ 1048576) : FlszFlowS k x left = some (szR (szT (.l 171 sI4) x) left) := by
 obtain ⟨k, rfl⟩ : ∃ q, k = q + 1 := ⟨k - 1, by omega⟩
 have hl : x.length ≤ 140737488351232 := (zd hr).1
 have hz : szT (.l 171 sI4) x = x.length := ji2 (e := 171) (sh := sI4) rfl x
 exact (elszFlowS k x left).trans ((yj2 hl h0 h1).trans (congrArg (fun n => some (szR n left)) hz.symm))
theorem ya3 (k : Nat) (x : List Int) (left : Int) (hr : zb 140737488351232 (.l 3 (.i .i64)) x) (hk : szT (.l 3 (.i .i64)) x + 1 < k) (h0 : 0 ≤ left) (h1 : left ≤ 1048576) : zi2 k x left = some (szR (szT (.l 3 (.i .i64)) x) left) := by
 obtain ⟨k, rfl⟩ : ∃ q, k = q + 1 := ⟨k - 1, by omega⟩
 have hl : x.length ≤ 140737488351232 := (zd hr).1
 have hz : szT (.l 3 (.i .i64)) x = x.length := ji2 (e := 3) (sh := (.i .i64)) rfl x
 exact (elszIntS k x left).trans ((yj2 hl h0 h1).trans (congrArg (fun n => some (szR n left)) hz.symm))
theorem zlszLaw (k : Nat) (x : List Int) (left : Int) (hr : zb 140737488351232 sLaw x) (hk : szT sLaw x + 2 < k) (h0 : 0 ≤ left) (h1 : left ≤ 1048576) : FlszLaw k x left = some (szR (szT sLaw x) left) := by
 obtain ⟨k, rfl⟩ : ∃ q, k = q + 1 := ⟨k - 1, by omega⟩
 have hk' : szT (.l 3 (.i .i64)) x + 2 < k + 1 := hk
 have r0 : zb 140737488351232 (.l 3 (.i .i64)) x := hr
 have ht : szT sLaw x = szT (.l 3 (.i .i64)) x + 0 := by
   show szT (.l 3 (.i .i64)) x = _
   omega
 rw [elszLaw, ht]
 exact v11 (ya3 k _ _ r0 (by omega) h0 h1) h0 h1 fun p1 q1 w1 => zh2 q1
theorem zlszPacketS (k : Nat) (x : List I6) (left : Int) (hr : zb 140737488351232 (.l 178 sI6) x) (hk : szT (.l 178 sI6) x + 1 < k) (h0 : 0 ≤ left) (h1 : left ≤ 1048576) : xs2 k x left = some (szR (szT (.l 178 sI6) x) left) := by
 obtain ⟨k, rfl⟩ : ∃ q, k = q + 1 := ⟨k - 1, by omega⟩
 have hl : x.length ≤ 140737488351232 := (zd hr).1
 have hz : szT (.l 178 sI6) x = x.length := ji2 (e := 178) (sh := sI6) rfl x
 exact (elszPacketS k x left).trans ((yj2 hl h0 h1).trans (congrArg (fun n => some (szR n left)) hz.symm))
theorem zlszLinkS (k : Nat) (x : List I2) (left : Int) (hr : zb 140737488351232 (.l 284 sI2) x) (hk : szT (.l 284 sI2) x + 1 < k) (h0 : 0 ≤ left) (h1 : left ≤ 1048576) : FlszLinkS k x left = some (szR (szT (.l 284 sI2) x) left) := by
 obtain ⟨k, rfl⟩ : ∃ q, k = q + 1 := ⟨k - 1, by omega⟩
 have hl : x.length ≤ 140737488351232 := (zd hr).1
 have hz : szT (.l 284 sI2) x = x.length := ji2 (e := 284) (sh := sI2) rfl x
 exact (elszLinkS k x left).trans ((yj2 hl h0 h1).trans (congrArg (fun n => some (szR n left)) hz.symm))
theorem zlszTable (k : Nat) (x : Int × (List Int) × List Int) (left : Int) (hr : zb 140737488351232 j8 x) (hk : szT j8 x + 2 < k) (h0 : 0 ≤ left) (h1 : left ≤ 1048576) : jr3 k x left = some (szR (szT j8 x) left) := by
 obtain ⟨k, rfl⟩ : ∃ q, k = q + 1 := ⟨k - 1, by omega⟩
 have hk' : (szT (.i .i64) x.1 + (szT (.l 3 (.i .i64)) x.2.1 + szT (.l 3 (.i .i64)) x.2.2)) + 2 < k + 1 := hk
 obtain ⟨r0, r1, r2⟩ : zb 140737488351232 (.i .i64) x.1 ∧ zb 140737488351232 (.l 3 (.i .i64)) x.2.1 ∧ zb 140737488351232 (.l 3 (.i .i64)) x.2.2 := hr
 have f0 : szT (.i .i64) x.1 = 0 := jw _ _ rfl
 have ht : szT j8 x = szT (.l 3 (.i .i64)) x.2.1 + (szT (.l 3 (.i .i64)) x.2.2 + 0) := by
   show (szT (.i .i64) x.1 + (szT (.l 3 (.i .i64)) x.2.1 + szT (.l 3 (.i .i64)) x.2.2)) = _
   omega
 rw [elszTable, ht]
 exact v11 (ya3 k _ _ r1 (by omega) h0 h1) h0 h1 fun p1 q1 w1 => v11 (ya3 k _ _ r2 (by omega) q1 w1) q1 w1 fun p2 q2 w2 => zh2 q2
theorem zlszTableS (k : Nat) (x : List (Int × (List Int) × List Int)) (left : Int) (hr : zb 140737488351232 (.l 280 j8) x) (hk : szT (.l 280 j8) x + 3 < k) (h0 : 0 ≤ left) (h1 : left ≤ 1048576) : z93 k x left = some (szR (szT (.l 280 j8) x) left) := by
 obtain ⟨k, rfl⟩ : ∃ q, k = q + 1 := ⟨k - 1, by omega⟩
 obtain ⟨hl, hr⟩ : x.length ≤ 140737488351232 ∧ ∀ y ∈ x, zb 140737488351232 j8 y := zd hr
 have hk' : x.length + sumL (szT j8) x + 3 < k + 1 := hk
 have hw : 0 ≤ left - (x.length : Int) → IntKind.i64.wrap (left - (x.length : Int)) = left - x.length := fun _ => w81 (by omega) (by omega)
 refine (elszTableS k x left).trans (sz_rows (α := Int × (List Int) × List Int) (s := szT j8) hl h0 h1 fun hp => ?_)
 rw [hw hp]
 have := z73 (L := vg2 k _ _ x) (f := fun y p => jr3 k y p) (fun _ _ => rfl) (neg := some (-1)) (fin := fun p => some p) (fun _ _ _ => rfl) (fun _ => rfl) (s := szT j8) (a := x) (fun y hy p q0 q1 => zlszTable k y p (hr y hy) (by have := wd (f := szT j8) hy; omega) q0 q1) hl x.length k 0 (left - x.length) (by omega) (by omega) (by omega) (by omega)
 exact this
theorem zlszPiece (k : Nat) (x : I2 × (List I2) × List (Int × (List Int) × List Int)) (left : Int) (hr : zb 140737488351232 yi x) (hk : szT yi x + 4 < k) (h0 : 0 ≤ left) (h1 : left ≤ 1048576) : v24 k x left = some (szR (szT yi x) left) := by
 obtain ⟨k, rfl⟩ : ∃ q, k = q + 1 := ⟨k - 1, by omega⟩
 have hk' : (szT sI2 x.1 + (szT (.l 284 sI2) x.2.1 + szT (.l 280 j8) x.2.2)) + 4 < k + 1 := hk
 obtain ⟨r0, r1, r2⟩ : zb 140737488351232 sI2 x.1 ∧ zb 140737488351232 (.l 284 sI2) x.2.1 ∧ zb 140737488351232 (.l 280 j8) x.2.2 := hr
 have f0 : szT sI2 x.1 = 0 := jw _ _ rfl
 have ht : szT yi x = szT (.l 284 sI2) x.2.1 + (szT (.l 280 j8) x.2.2 + 0) := by
   show (szT sI2 x.1 + (szT (.l 284 sI2) x.2.1 + szT (.l 280 j8) x.2.2)) = _
   omega
 rw [elszPiece, ht]
 exact v11 (zlszLinkS k _ _ r1 (by omega) h0 h1) h0 h1 fun p1 q1 w1 => v11 (zlszTableS k _ _ r2 (by omega) q1 w1) q1 w1 fun p2 q2 w2 => zh2 q2
theorem zlszPieceS (k : Nat) (x : List (I2 × (List I2) × List (Int × (List Int) × List Int))) (left : Int) (hr : zb 140737488351232 (.l 217 yi) x) (hk : szT (.l 217 yi) x + 5 < k) (h0 : 0 ≤ left) (h1 : left ≤ 1048576) : x83 k x left = some (szR (szT (.l 217 yi) x) left) := by
 obtain ⟨k, rfl⟩ : ∃ q, k = q + 1 := ⟨k - 1, by omega⟩
 obtain ⟨hl, hr⟩ : x.length ≤ 140737488351232 ∧ ∀ y ∈ x, zb 140737488351232 yi y := zd hr
 have hk' : x.length + sumL (szT yi) x + 5 < k + 1 := hk
 have hw : 0 ≤ left - (x.length : Int) → IntKind.i64.wrap (left - (x.length : Int)) = left - x.length := fun _ => w81 (by omega) (by omega)
 refine (elszPieceS k x left).trans (sz_rows (α := I2 × (List I2) × List (Int × (List Int) × List Int)) (s := szT yi) hl h0 h1 fun hp => ?_)
 rw [hw hp]
 have := z73 (L := jf2 k _ _ x) (f := fun y p => v24 k y p) (fun _ _ => rfl) (neg := some (-1)) (fin := fun p => some p) (fun _ _ _ => rfl) (fun _ => rfl) (s := szT yi) (a := x) (fun y hy p q0 q1 => zlszPiece k y p (hr y hy) (by have := wd (f := szT yi) hy; omega) q0 q1) hl x.length k 0 (left - x.length) (by omega) (by omega) (by omega) (by omega)
 exact this
theorem zlszProgram (k : Nat) (x : Int × Int × Int × List (I2 × (List I2) × List (Int × (List Int) × List Int))) (left : Int) (hr : zb 140737488351232 xw x) (hk : szT xw x + 6 < k) (h0 : 0 ≤ left) (h1 : left ≤ 1048576) : xn3 k x left = some (szR (szT xw x) left) := by
 obtain ⟨k, rfl⟩ : ∃ q, k = q + 1 := ⟨k - 1, by omega⟩
 have hk' : (szT (.i .i64) x.1 + (szT (.i .i64) x.2.1 + (szT (.i .i64) x.2.2.1 + szT (.l 217 yi) x.2.2.2))) + 6 < k + 1 := hk
 obtain ⟨r0, r1, r2, r3⟩ : zb 140737488351232 (.i .i64) x.1 ∧ zb 140737488351232 (.i .i64) x.2.1 ∧ zb 140737488351232 (.i .i64) x.2.2.1 ∧ zb 140737488351232 (.l 217 yi) x.2.2.2 := hr
 have f0 : szT (.i .i64) x.1 = 0 := jw _ _ rfl
 have f1 : szT (.i .i64) x.2.1 = 0 := jw _ _ rfl
 have f2 : szT (.i .i64) x.2.2.1 = 0 := jw _ _ rfl
 have ht : szT xw x = szT (.l 217 yi) x.2.2.2 + 0 := by
   show (szT (.i .i64) x.1 + (szT (.i .i64) x.2.1 + (szT (.i .i64) x.2.2.1 + szT (.l 217 yi) x.2.2.2))) = _
   omega
 rw [elszProgram, ht]
 exact v11 (zlszPieceS k _ _ r3 (by omega) h0 h1) h0 h1 fun p1 q1 w1 => zh2 q1
theorem zlszQueue (k : Nat) (x : List I6) (left : Int) (hr : zb 140737488351232 vj x) (hk : szT vj x + 2 < k) (h0 : 0 ≤ left) (h1 : left ≤ 1048576) : zs3 k x left = some (szR (szT vj x) left) := by
 obtain ⟨k, rfl⟩ : ∃ q, k = q + 1 := ⟨k - 1, by omega⟩
 have hk' : szT (.l 178 sI6) x + 2 < k + 1 := hk
 have r0 : zb 140737488351232 (.l 178 sI6) x := hr
 have ht : szT vj x = szT (.l 178 sI6) x + 0 := by
   show szT (.l 178 sI6) x = _
   omega
 rw [elszQueue, ht]
 exact v11 (zlszPacketS k _ _ r0 (by omega) h0 h1) h0 h1 fun p1 q1 w1 => zh2 q1
theorem zlszQueueS (k : Nat) (x : List (List I6)) (left : Int) (hr : zb 140737488351232 (.l 141 vj) x) (hk : szT (.l 141 vj) x + 3 < k) (h0 : 0 ≤ left) (h1 : left ≤ 1048576) : ja3 k x left = some (szR (szT (.l 141 vj) x) left) := by
 obtain ⟨k, rfl⟩ : ∃ q, k = q + 1 := ⟨k - 1, by omega⟩
 obtain ⟨hl, hr⟩ : x.length ≤ 140737488351232 ∧ ∀ y ∈ x, zb 140737488351232 vj y := zd hr
 have hk' : x.length + sumL (szT vj) x + 3 < k + 1 := hk
 have hw : 0 ≤ left - (x.length : Int) → IntKind.i64.wrap (left - (x.length : Int)) = left - x.length := fun _ => w81 (by omega) (by omega)
 refine (elszQueueS k x left).trans (sz_rows (α := List I6) (s := szT vj) hl h0 h1 fun hp => ?_)
 rw [hw hp]
 have := z73 (L := jh2 k _ _ x) (f := fun y p => zs3 k y p) (fun _ _ => rfl) (neg := some (-1)) (fin := fun p => some p) (fun _ _ _ => rfl) (fun _ => rfl) (s := szT vj) (a := x) (fun y hy p q0 q1 => zlszQueue k y p (hr y hy) (by have := wd (f := szT vj) hy; omega) q0 q1) hl x.length k 0 (left - x.length) (by omega) (by omega) (by omega) (by omega)
 exact this
theorem zlszSentS (k : Nat) (x : List I4) (left : Int) (hr : zb 140737488351232 (.l 66 sI4) x) (hk : szT (.l 66 sI4) x + 1 < k) (h0 : 0 ≤ left) (h1 : left ≤ 1048576) : FlszSentS k x left = some (szR (szT (.l 66 sI4) x) left) := by
 obtain ⟨k, rfl⟩ : ∃ q, k = q + 1 := ⟨k - 1, by omega⟩
 have hl : x.length ≤ 140737488351232 := (zd hr).1
 have hz : szT (.l 66 sI4) x = x.length := ji2 (e := 66) (sh := sI4) rfl x
 exact (elszSentS k x left).trans ((yj2 hl h0 h1).trans (congrArg (fun n => some (szR n left)) hz.symm))
theorem zlszSatS (k : Nat) (x : List I4) (left : Int) (hr : zb 140737488351232 (.l 226 sI4) x) (hk : szT (.l 226 sI4) x + 1 < k) (h0 : 0 ≤ left) (h1 : left ≤ 1048576) : FlszSatS k x left = some (szR (szT (.l 226 sI4) x) left) := by
 obtain ⟨k, rfl⟩ : ∃ q, k = q + 1 := ⟨k - 1, by omega⟩
 have hl : x.length ≤ 140737488351232 := (zd hr).1
 have hz : szT (.l 226 sI4) x = x.length := ji2 (e := 226) (sh := sI4) rfl x
 exact (elszSatS k x left).trans ((yj2 hl h0 h1).trans (congrArg (fun n => some (szR n left)) hz.symm))
theorem zlszSiteS (k : Nat) (x : List I3) (left : Int) (hr : zb 140737488351232 (.l 230 sI3) x) (hk : szT (.l 230 sI3) x + 1 < k) (h0 : 0 ≤ left) (h1 : left ≤ 1048576) : FlszSiteS k x left = some (szR (szT (.l 230 sI3) x) left) := by
 obtain ⟨k, rfl⟩ : ∃ q, k = q + 1 := ⟨k - 1, by omega⟩
 have hl : x.length ≤ 140737488351232 := (zd hr).1
 have hz : szT (.l 230 sI3) x = x.length := ji2 (e := 230) (sh := sI3) rfl x
 exact (elszSiteS k x left).trans ((yj2 hl h0 h1).trans (congrArg (fun n => some (szR n left)) hz.symm))
theorem zlszZoneS (k : Nat) (x : List I3) (left : Int) (hr : zb 140737488351232 (.l 238 sZone) x) (hk : szT (.l 238 sZone) x + 1 < k) (h0 : 0 ≤ left) (h1 : left ≤ 1048576) : FlszZoneS k x left = some (szR (szT (.l 238 sZone) x) left) := by
 obtain ⟨k, rfl⟩ : ∃ q, k = q + 1 := ⟨k - 1, by omega⟩
 have hl : x.length ≤ 140737488351232 := (zd hr).1
 have hz : szT (.l 238 sZone) x = x.length := ji2 (e := 238) (sh := sZone) rfl x
 exact (elszZoneS k x left).trans ((yj2 hl h0 h1).trans (congrArg (fun n => some (szR n left)) hz.symm))
theorem zlszSky (k : Nat) (x : Int × (List I4) × (List I3) × Int × Int × Int × Int × Int × (List I3) × Int) (left : Int) (hr : zb 140737488351232 sLSky x) (hk : szT sLSky x + 2 < k) (h0 : 0 ≤ left) (h1 : left ≤ 1048576) : FlszSky k x left = some (szR (szT sLSky x) left) := by
 obtain ⟨k, rfl⟩ : ∃ q, k = q + 1 := ⟨k - 1, by omega⟩
 have hk' : (szT (.i .i64) x.1 + (szT (.l 226 sI4) x.2.1 + (szT (.l 230 sI3) x.2.2.1 + (szT (.i .i64) x.2.2.2.1 + (szT (.i .i64) x.2.2.2.2.1 + (szT (.i .i64) x.2.2.2.2.2.1 + (szT (.i .i64) x.2.2.2.2.2.2.1 + (szT (.i .i64) x.2.2.2.2.2.2.2.1 + (szT (.l 238 sZone) x.2.2.2.2.2.2.2.2.1 + szT (.i .i64) x.2.2.2.2.2.2.2.2.2))))))))) + 2 < k + 1 := hk
 obtain ⟨r0, r1, r2, r3, r4, r5, r6, r7, r8, r9⟩ : zb 140737488351232 (.i .i64) x.1 ∧ zb 140737488351232 (.l 226 sI4) x.2.1 ∧ zb 140737488351232 (.l 230 sI3) x.2.2.1 ∧ zb 140737488351232 (.i .i64) x.2.2.2.1 ∧ zb 140737488351232 (.i .i64) x.2.2.2.2.1 ∧ zb 140737488351232 (.i .i64) x.2.2.2.2.2.1 ∧ zb 140737488351232 (.i .i64) x.2.2.2.2.2.2.1 ∧ zb 140737488351232 (.i .i64) x.2.2.2.2.2.2.2.1 ∧ zb 140737488351232 (.l 238 sZone) x.2.2.2.2.2.2.2.2.1 ∧ zb 140737488351232 (.i .i64) x.2.2.2.2.2.2.2.2.2 := hr
 have f0 : szT (.i .i64) x.1 = 0 := jw _ _ rfl
 have f3 : szT (.i .i64) x.2.2.2.1 = 0 := jw _ _ rfl
 have f4 : szT (.i .i64) x.2.2.2.2.1 = 0 := jw _ _ rfl
 have f5 : szT (.i .i64) x.2.2.2.2.2.1 = 0 := jw _ _ rfl
 have f6 : szT (.i .i64) x.2.2.2.2.2.2.1 = 0 := jw _ _ rfl
 have f7 : szT (.i .i64) x.2.2.2.2.2.2.2.1 = 0 := jw _ _ rfl
 have f9 : szT (.i .i64) x.2.2.2.2.2.2.2.2.2 = 0 := jw _ _ rfl
 have ht : szT sLSky x = szT (.l 226 sI4) x.2.1 + (szT (.l 230 sI3) x.2.2.1 + (szT (.l 238 sZone) x.2.2.2.2.2.2.2.2.1 + 0)) := by
   show (szT (.i .i64) x.1 + (szT (.l 226 sI4) x.2.1 + (szT (.l 230 sI3) x.2.2.1 + (szT (.i .i64) x.2.2.2.1 + (szT (.i .i64) x.2.2.2.2.1 + (szT (.i .i64) x.2.2.2.2.2.1 + (szT (.i .i64) x.2.2.2.2.2.2.1 + (szT (.i .i64) x.2.2.2.2.2.2.2.1 + (szT (.l 238 sZone) x.2.2.2.2.2.2.2.2.1 + szT (.i .i64) x.2.2.2.2.2.2.2.2.2))))))))) = _
   omega
 rw [elszSky, ht]
 exact v11 (zlszSatS k _ _ r1 (by omega) h0 h1) h0 h1 fun p1 q1 w1 => v11 (zlszSiteS k _ _ r2 (by omega) q1 w1) q1 w1 fun p2 q2 w2 => v11 (zlszZoneS k _ _ r8 (by omega) q2 w2) q2 w2 fun p3 q3 w3 => zh2 q3
theorem zlszStream (k : Nat) (x : Int × Int × List Int) (left : Int) (hr : zb 140737488351232 z8 x) (hk : szT z8 x + 2 < k) (h0 : 0 ≤ left) (h1 : left ≤ 1048576) : zb3 k x left = some (szR (szT z8 x) left) := by
 obtain ⟨k, rfl⟩ : ∃ q, k = q + 1 := ⟨k - 1, by omega⟩
 have hk' : (szT (.i .i64) x.1 + (szT (.i .i64) x.2.1 + szT (.l 3 (.i .i64)) x.2.2)) + 2 < k + 1 := hk
 obtain ⟨r0, r1, r2⟩ : zb 140737488351232 (.i .i64) x.1 ∧ zb 140737488351232 (.i .i64) x.2.1 ∧ zb 140737488351232 (.l 3 (.i .i64)) x.2.2 := hr
 have f0 : szT (.i .i64) x.1 = 0 := jw _ _ rfl
 have f1 : szT (.i .i64) x.2.1 = 0 := jw _ _ rfl
 have ht : szT z8 x = szT (.l 3 (.i .i64)) x.2.2 + 0 := by
   show (szT (.i .i64) x.1 + (szT (.i .i64) x.2.1 + szT (.l 3 (.i .i64)) x.2.2)) = _
   omega
 rw [elszStream, ht]
 exact v11 (ya3 k _ _ r2 (by omega) h0 h1) h0 h1 fun p1 q1 w1 => zh2 q1
theorem zlszStreamS (k : Nat) (x : List (Int × Int × List Int)) (left : Int) (hr : zb 140737488351232 (.l 143 z8) x) (hk : szT (.l 143 z8) x + 3 < k) (h0 : 0 ≤ left) (h1 : left ≤ 1048576) : jr2 k x left = some (szR (szT (.l 143 z8) x) left) := by
 obtain ⟨k, rfl⟩ : ∃ q, k = q + 1 := ⟨k - 1, by omega⟩
 obtain ⟨hl, hr⟩ : x.length ≤ 140737488351232 ∧ ∀ y ∈ x, zb 140737488351232 z8 y := zd hr
 have hk' : x.length + sumL (szT z8) x + 3 < k + 1 := hk
 have hw : 0 ≤ left - (x.length : Int) → IntKind.i64.wrap (left - (x.length : Int)) = left - x.length := fun _ => w81 (by omega) (by omega)
 refine (elszStreamS k x left).trans (sz_rows (α := Int × Int × List Int) (s := szT z8) hl h0 h1 fun hp => ?_)
 rw [hw hp]
 have := z73 (L := w82 k _ _ x) (f := fun y p => zb3 k y p) (fun _ _ => rfl) (neg := some (-1)) (fin := fun p => some p) (fun _ _ _ => rfl) (fun _ => rfl) (s := szT z8) (a := x) (fun y hy p q0 q1 => zlszStream k y p (hr y hy) (by have := wd (f := szT z8) hy; omega) q0 q1) hl x.length k 0 (left - x.length) (by omega) (by omega) (by omega) (by omega)
 exact this
theorem zlszWorld (k : Nat) (x : (Int × (List I4) × (List I3) × Int × Int × Int × Int × Int × (List I3) × Int) × (Int × Int × Int × List (I2 × (List I2) × List (Int × (List Int) × List Int))) × (List Int) × (List Int) × (List I6) × (List (List I6)) × (List I4) × (List Int) × (List (Int × Int × List Int)) × (List I4) × Int × Int × (List I6) × List I4) (left : Int) (hr : zb 140737488351232 xz x) (hk : szT xz x + 7 < k) (h0 : 0 ≤ left) (h1 : left ≤ 1048576) : FlszWorld k x left = some (szR (szT xz x) left) := by
 obtain ⟨k, rfl⟩ : ∃ q, k = q + 1 := ⟨k - 1, by omega⟩
 have hk' : (szT sLSky x.1 + (szT xw x.2.1 + (szT sLaw x.2.2.1 + (szT (.l 3 (.i .i64)) x.2.2.2.1 + (szT (.l 166 sI6) x.2.2.2.2.1 + (szT (.l 141 vj) x.2.2.2.2.2.1 + (szT (.l 171 sI4) x.2.2.2.2.2.2.1 + (szT (.l 3 (.i .i64)) x.2.2.2.2.2.2.2.1 + (szT (.l 143 z8) x.2.2.2.2.2.2.2.2.1 + (szT (.l 176 sI4) x.2.2.2.2.2.2.2.2.2.1 + (szT (.i .i64) x.2.2.2.2.2.2.2.2.2.2.1 + (szT (.i .i64) x.2.2.2.2.2.2.2.2.2.2.2.1 + (szT (.l 178 sI6) x.2.2.2.2.2.2.2.2.2.2.2.2.1 + szT (.l 66 sI4) x.2.2.2.2.2.2.2.2.2.2.2.2.2))))))))))))) + 7 < k + 1 := hk
 obtain ⟨r0, r1, r2, r3, r4, r5, r6, r7, r8, r9, r10, r11, r12, r13⟩ : zb 140737488351232 sLSky x.1 ∧ zb 140737488351232 xw x.2.1 ∧ zb 140737488351232 sLaw x.2.2.1 ∧ zb 140737488351232 (.l 3 (.i .i64)) x.2.2.2.1 ∧ zb 140737488351232 (.l 166 sI6) x.2.2.2.2.1 ∧ zb 140737488351232 (.l 141 vj) x.2.2.2.2.2.1 ∧ zb 140737488351232 (.l 171 sI4) x.2.2.2.2.2.2.1 ∧ zb 140737488351232 (.l 3 (.i .i64)) x.2.2.2.2.2.2.2.1 ∧ zb 140737488351232 (.l 143 z8) x.2.2.2.2.2.2.2.2.1 ∧ zb 140737488351232 (.l 176 sI4) x.2.2.2.2.2.2.2.2.2.1 ∧ zb 140737488351232 (.i .i64) x.2.2.2.2.2.2.2.2.2.2.1 ∧ zb 140737488351232 (.i .i64) x.2.2.2.2.2.2.2.2.2.2.2.1 ∧ zb 140737488351232 (.l 178 sI6) x.2.2.2.2.2.2.2.2.2.2.2.2.1 ∧ zb 140737488351232 (.l 66 sI4) x.2.2.2.2.2.2.2.2.2.2.2.2.2 := hr
 have f10 : szT (.i .i64) x.2.2.2.2.2.2.2.2.2.2.1 = 0 := jw _ _ rfl
 have f11 : szT (.i .i64) x.2.2.2.2.2.2.2.2.2.2.2.1 = 0 := jw _ _ rfl
 have ht : szT xz x = szT sLSky x.1 + (szT xw x.2.1 + (szT sLaw x.2.2.1 + (szT (.l 3 (.i .i64)) x.2.2.2.1 + (szT (.l 166 sI6) x.2.2.2.2.1 + (szT (.l 141 vj) x.2.2.2.2.2.1 + (szT (.l 171 sI4) x.2.2.2.2.2.2.1 + (szT (.l 3 (.i .i64)) x.2.2.2.2.2.2.2.1 + (szT (.l 143 z8) x.2.2.2.2.2.2.2.2.1 + (szT (.l 176 sI4) x.2.2.2.2.2.2.2.2.2.1 + (szT (.l 178 sI6) x.2.2.2.2.2.2.2.2.2.2.2.2.1 + (szT (.l 66 sI4) x.2.2.2.2.2.2.2.2.2.2.2.2.2 + 0))))))))))) := by
   show (szT sLSky x.1 + (szT xw x.2.1 + (szT sLaw x.2.2.1 + (szT (.l 3 (.i .i64)) x.2.2.2.1 + (szT (.l 166 sI6) x.2.2.2.2.1 + (szT (.l 141 vj) x.2.2.2.2.2.1 + (szT (.l 171 sI4) x.2.2.2.2.2.2.1 + (szT (.l 3 (.i .i64)) x.2.2.2.2.2.2.2.1 + (szT (.l 143 z8) x.2.2.2.2.2.2.2.2.1 + (szT (.l 176 sI4) x.2.2.2.2.2.2.2.2.2.1 + (szT (.i .i64) x.2.2.2.2.2.2.2.2.2.2.1 + (szT (.i .i64) x.2.2.2.2.2.2.2.2.2.2.2.1 + (szT (.l 178 sI6) x.2.2.2.2.2.2.2.2.2.2.2.2.1 + szT (.l 66 sI4) x.2.2.2.2.2.2.2.2.2.2.2.2.2))))))))))))) = _
   omega
 rw [elszWorld, ht]
 exact v11 (zlszSky k _ _ r0 (by omega) h0 h1) h0 h1 fun p1 q1 w1 => v11 (zlszProgram k _ _ r1 (by omega) q1 w1) q1 w1 fun p2 q2 w2 => v11 (zlszLaw k _ _ r2 (by omega) q2 w2) q2 w2 fun p3 q3 w3 => v11 (ya3 k _ _ r3 (by omega) q3 w3) q3 w3 fun p4 q4 w4 => v11 (zlszBatteryS k _ _ r4 (by omega) q4 w4) q4 w4 fun p5 q5 w5 => v11 (zlszQueueS k _ _ r5 (by omega) q5 w5) q5 w5 fun p6 q6 w6 => v11 (zlszFlowS k _ _ r6 (by omega) q6 w6) q6 w6 fun p7 q7 w7 => v11 (ya3 k _ _ r7 (by omega) q7 w7) q7 w7 fun p8 q8 w8 => v11 (zlszStreamS k _ _ r8 (by omega) q8 w8) q8 w8 fun p9 q9 w9 => v11 (zlszFaultS k _ _ r9 (by omega) q9 w9) q9 w9 fun p10 q10 w10 => v11 (zlszPacketS k _ _ r12 (by omega) q10 w10) q10 w10 fun p11 q11 w11 => v11 (zlszSentS k _ _ r13 (by omega) q11 w11) q11 w11 fun p12 q12 w12 => zh2 q12
theorem tltoBattery (k : Nat) (x : I6) (hz : szT sI6 x ≤ 1048576) (hk : szT sI6 x + 1 < k) : ju2 k x = some x := by
 obtain ⟨k, rfl⟩ : ∃ q, k = q + 1 := ⟨k - 1, by omega⟩
 have hk' : (szT (.i .i64) x.1 + (szT (.i .i64) x.2.1 + (szT (.i .i64) x.2.2.1 + (szT (.i .i64) x.2.2.2.1 + (szT (.i .i64) x.2.2.2.2.1 + szT (.i .i64) x.2.2.2.2.2))))) + 1 < k + 1 := hk
 have hz' : (szT (.i .i64) x.1 + (szT (.i .i64) x.2.1 + (szT (.i .i64) x.2.2.1 + (szT (.i .i64) x.2.2.2.1 + (szT (.i .i64) x.2.2.2.2.1 + szT (.i .i64) x.2.2.2.2.2))))) ≤ 1048576 := hz
 exact eltoBattery k x
theorem tltoBatteryS (k : Nat) (x : List I6) (hz : szT (.l 166 sI6) x ≤ 1048576) (hk : szT (.l 166 sI6) x + 2 < k) : z12 k x = some x := by
 obtain ⟨k, rfl⟩ : ∃ q, k = q + 1 := ⟨k - 1, by omega⟩
 have hk' : x.length + sumL (szT sI6) x + 2 < k + 1 := hk
 have hz' : x.length + sumL (szT sI6) x ≤ 1048576 := hz
 refine (eltoBatteryS k x).trans ?_
 rw [if_pos (beq_self_eq_true _), if_pos (by omega), if_pos (by simp; omega)]
 exact vz (α := Int × Int × Int × Int × Int × Int) (L := yz1 k _ x) (f := fun y => ju2 k y) (fun _ _ => rfl) (a := x) (fun y hy => tltoBattery k y (by have := wd (f := szT sI6) hy; omega) (by have := wd (f := szT sI6) hy; omega)) (by omega) x.length k 0 _ (by omega) (by omega) (by simp) (by simp)
theorem tltoFault (k : Nat) (x : I4) (hz : szT sI4 x ≤ 1048576) (hk : szT sI4 x + 1 < k) : zr3 k x = some x := by
 obtain ⟨k, rfl⟩ : ∃ q, k = q + 1 := ⟨k - 1, by omega⟩
 have hk' : (szT (.i .i64) x.1 + (szT (.i .i64) x.2.1 + (szT (.i .i64) x.2.2.1 + szT (.i .i64) x.2.2.2))) + 1 < k + 1 := hk
 have hz' : (szT (.i .i64) x.1 + (szT (.i .i64) x.2.1 + (szT (.i .i64) x.2.2.1 + szT (.i .i64) x.2.2.2))) ≤ 1048576 := hz
 exact eltoFault k x
theorem tltoFaultS (k : Nat) (x : List I4) (hz : szT (.l 176 sI4) x ≤ 1048576) (hk : szT (.l 176 sI4) x + 2 < k) : vl2 k x = some x := by
 obtain ⟨k, rfl⟩ : ∃ q, k = q + 1 := ⟨k - 1, by omega⟩
 have hk' : x.length + sumL (szT sI4) x + 2 < k + 1 := hk
 have hz' : x.length + sumL (szT sI4) x ≤ 1048576 := hz
 refine (eltoFaultS k x).trans ?_
 rw [if_pos (beq_self_eq_true _), if_pos (by omega), if_pos (by simp; omega)]
 exact vz (α := Int × Int × Int × Int) (L := xf2 k _ x) (f := fun y => zr3 k y) (fun _ _ => rfl) (a := x) (fun y hy => tltoFault k y (by have := wd (f := szT sI4) hy; omega) (by have := wd (f := szT sI4) hy; omega)) (by omega) x.length k 0 _ (by omega) (by omega) (by simp) (by simp)
theorem tltoFlow (k : Nat) (x : I4) (hz : szT sI4 x ≤ 1048576) (hk : szT sI4 x + 1 < k) : FltoFlow k x = some x := by
 obtain ⟨k, rfl⟩ : ∃ q, k = q + 1 := ⟨k - 1, by omega⟩
 have hk' : (szT (.i .i64) x.1 + (szT (.i .i64) x.2.1 + (szT (.i .i64) x.2.2.1 + szT (.i .i64) x.2.2.2))) + 1 < k + 1 := hk
 have hz' : (szT (.i .i64) x.1 + (szT (.i .i64) x.2.1 + (szT (.i .i64) x.2.2.1 + szT (.i .i64) x.2.2.2))) ≤ 1048576 := hz
 exact eltoFlow k x
theorem tltoFlowS (k : Nat) (x : List I4) (hz : szT (.l 171 sI4) x ≤ 1048576) (hk : szT (.l 171 sI4) x + 2 < k) : y13 k x = some x := by
 obtain ⟨k, rfl⟩ : ∃ q, k = q + 1 := ⟨k - 1, by omega⟩
 have hk' : x.length + sumL (szT sI4) x + 2 < k + 1 := hk
 have hz' : x.length + sumL (szT sI4) x ≤ 1048576 := hz
 refine (eltoFlowS k x).trans ?_
 rw [if_pos (beq_self_eq_true _), if_pos (by omega), if_pos (by simp; omega)]
 exact vz (α := Int × Int × Int × Int) (L := vt2 k _ x) (f := fun y => FltoFlow k y) (fun _ _ => rfl) (a := x) (fun y hy => tltoFlow k y (by have := wd (f := szT sI4) hy; omega) (by have := wd (f := szT sI4) hy; omega)) (by omega) x.length k 0 _ (by omega) (by omega) (by simp) (by simp)
theorem j93 (k : Nat) (x : List Int) (hz : szT (.l 3 (.i .i64)) x ≤ 1048576) (hk : szT (.l 3 (.i .i64)) x + 1 < k) : jc1 k x = some x := by
 obtain ⟨k, rfl⟩ : ∃ q, k = q + 1 := ⟨k - 1, by omega⟩
 have hk' : x.length + sumL (szT (.i .i64)) x + 1 < k + 1 := hk
 have hz' : x.length + sumL (szT (.i .i64)) x ≤ 1048576 := hz
 refine (eltoIntS k x).trans ?_
 rw [if_pos (beq_self_eq_true _), if_pos (by omega), if_pos (by simp; omega)]
 exact vz (α := Int) (L := j73 k _ x) (f := fun y => some y) (fun _ _ => rfl) (a := x) (fun _ _ => rfl) (by omega) x.length k 0 _ (by omega) (by omega) (by simp) (by simp)
theorem tltoLaw (k : Nat) (x : List Int) (hz : szT sLaw x ≤ 1048576) (hk : szT sLaw x + 2 < k) : FltoLaw k x = some x := by
 obtain ⟨k, rfl⟩ : ∃ q, k = q + 1 := ⟨k - 1, by omega⟩
 have hk' : szT (.l 3 (.i .i64)) x + 2 < k + 1 := hk
 have hz' : szT (.l 3 (.i .i64)) x ≤ 1048576 := hz
 have g0 : jc1 k x = some x := j93 k x (by omega) (by omega)
 refine (eltoLaw k x).trans ?_
 simp only [g0, Option.bind_some, bne_self_eq_false, beq_self_eq_true, Bool.not_true, Bool.false_eq_true, if_false]
theorem tltoPacket (k : Nat) (x : I6) (hz : szT sI6 x ≤ 1048576) (hk : szT sI6 x + 1 < k) : w93 k x = some x := by
 obtain ⟨k, rfl⟩ : ∃ q, k = q + 1 := ⟨k - 1, by omega⟩
 have hk' : (szT (.i .i64) x.1 + (szT (.i .i64) x.2.1 + (szT (.i .i64) x.2.2.1 + (szT (.i .i64) x.2.2.2.1 + (szT (.i .i64) x.2.2.2.2.1 + szT (.i .i64) x.2.2.2.2.2))))) + 1 < k + 1 := hk
 have hz' : (szT (.i .i64) x.1 + (szT (.i .i64) x.2.1 + (szT (.i .i64) x.2.2.1 + (szT (.i .i64) x.2.2.2.1 + (szT (.i .i64) x.2.2.2.2.1 + szT (.i .i64) x.2.2.2.2.2))))) ≤ 1048576 := hz
 exact eltoPacket k x
theorem tltoPacketS (k : Nat) (x : List I6) (hz : szT (.l 178 sI6) x ≤ 1048576) (hk : szT (.l 178 sI6) x + 2 < k) : wl1 k x = some x := by
 obtain ⟨k, rfl⟩ : ∃ q, k = q + 1 := ⟨k - 1, by omega⟩
 have hk' : x.length + sumL (szT sI6) x + 2 < k + 1 := hk
 have hz' : x.length + sumL (szT sI6) x ≤ 1048576 := hz
 refine (eltoPacketS k x).trans ?_
 rw [if_pos (beq_self_eq_true _), if_pos (by omega), if_pos (by simp; omega)]
 exact vz (α := Int × Int × Int × Int × Int × Int) (L := z82 k _ x) (f := fun y => w93 k y) (fun _ _ => rfl) (a := x) (fun y hy => tltoPacket k y (by have := wd (f := szT sI6) hy; omega) (by have := wd (f := szT sI6) hy; omega)) (by omega) x.length k 0 _ (by omega) (by omega) (by simp) (by simp)
theorem tltoLink (k : Nat) (x : I2) (hz : szT sI2 x ≤ 1048576) (hk : szT sI2 x + 1 < k) : FltoLink k x = some x := by
 obtain ⟨k, rfl⟩ : ∃ q, k = q + 1 := ⟨k - 1, by omega⟩
 have hk' : (szT (.i .i64) x.1 + szT (.i .i64) x.2) + 1 < k + 1 := hk
 have hz' : (szT (.i .i64) x.1 + szT (.i .i64) x.2) ≤ 1048576 := hz
 exact eltoLink k x
theorem tltoLinkS (k : Nat) (x : List I2) (hz : szT (.l 284 sI2) x ≤ 1048576) (hk : szT (.l 284 sI2) x + 2 < k) : j33 k x = some x := by
 obtain ⟨k, rfl⟩ : ∃ q, k = q + 1 := ⟨k - 1, by omega⟩
 have hk' : x.length + sumL (szT sI2) x + 2 < k + 1 := hk
 have hz' : x.length + sumL (szT sI2) x ≤ 1048576 := hz
 refine (eltoLinkS k x).trans ?_
 rw [if_pos (beq_self_eq_true _), if_pos (by omega), if_pos (by simp; omega)]
 exact vz (α := Int × Int) (L := vr2 k _ x) (f := fun y => FltoLink k y) (fun _ _ => rfl) (a := x) (fun y hy => tltoLink k y (by have := wd (f := szT sI2) hy; omega) (by have := wd (f := szT sI2) hy; omega)) (by omega) x.length k 0 _ (by omega) (by omega) (by simp) (by simp)
theorem tltoSpan (k : Nat) (x : I2) (hz : szT sI2 x ≤ 1048576) (hk : szT sI2 x + 1 < k) : FltoSpan k x = some x := by
 obtain ⟨k, rfl⟩ : ∃ q, k = q + 1 := ⟨k - 1, by omega⟩
 have hk' : (szT (.i .i64) x.1 + szT (.i .i64) x.2) + 1 < k + 1 := hk
 have hz' : (szT (.i .i64) x.1 + szT (.i .i64) x.2) ≤ 1048576 := hz
 exact eltoSpan k x
theorem tltoTable (k : Nat) (x : Int × (List Int) × List Int) (hz : szT j8 x ≤ 1048576) (hk : szT j8 x + 2 < k) : wo3 k x = some x := by
 obtain ⟨k, rfl⟩ : ∃ q, k = q + 1 := ⟨k - 1, by omega⟩
 have hk' : (szT (.i .i64) x.1 + (szT (.l 3 (.i .i64)) x.2.1 + szT (.l 3 (.i .i64)) x.2.2)) + 2 < k + 1 := hk
 have hz' : (szT (.i .i64) x.1 + (szT (.l 3 (.i .i64)) x.2.1 + szT (.l 3 (.i .i64)) x.2.2)) ≤ 1048576 := hz
 have g0 : jc1 k x.2.1 = some x.2.1 := j93 k x.2.1 (by omega) (by omega)
 have g1 : jc1 k x.2.2 = some x.2.2 := j93 k x.2.2 (by omega) (by omega)
 refine (eltoTable k x).trans ?_
 simp only [g0, g1, Option.bind_some, bne_self_eq_false, beq_self_eq_true, Bool.not_true, Bool.false_eq_true, if_false]
theorem tltoTableS (k : Nat) (x : List (Int × (List Int) × List Int)) (hz : szT (.l 280 j8) x ≤ 1048576) (hk : szT (.l 280 j8) x + 3 < k) : jn2 k x = some x := by
 obtain ⟨k, rfl⟩ : ∃ q, k = q + 1 := ⟨k - 1, by omega⟩
 have hk' : x.length + sumL (szT j8) x + 3 < k + 1 := hk
 have hz' : x.length + sumL (szT j8) x ≤ 1048576 := hz
 refine (eltoTableS k x).trans ?_
 rw [if_pos (beq_self_eq_true _), if_pos (by omega), if_pos (by simp; omega)]
 exact vz (α := Int × (List Int) × List Int) (L := xg2 k _ x) (f := fun y => wo3 k y) (fun _ _ => rfl) (a := x) (fun y hy => tltoTable k y (by have := wd (f := szT j8) hy; omega) (by have := wd (f := szT j8) hy; omega)) (by omega) x.length k 0 _ (by omega) (by omega) (by simp) (by simp)
theorem tltoPiece (k : Nat) (x : I2 × (List I2) × List (Int × (List Int) × List Int)) (hz : szT yi x ≤ 1048576) (hk : szT yi x + 4 < k) : z24 k x = some x := by
 obtain ⟨k, rfl⟩ : ∃ q, k = q + 1 := ⟨k - 1, by omega⟩
 have hk' : (szT sI2 x.1 + (szT (.l 284 sI2) x.2.1 + szT (.l 280 j8) x.2.2)) + 4 < k + 1 := hk
 have hz' : (szT sI2 x.1 + (szT (.l 284 sI2) x.2.1 + szT (.l 280 j8) x.2.2)) ≤ 1048576 := hz
 have g0 : FltoSpan k x.1 = some x.1 := tltoSpan k x.1 (by omega) (by omega)
 have g1 : j33 k x.2.1 = some x.2.1 := tltoLinkS k x.2.1 (by omega) (by omega)
 have g2 : jn2 k x.2.2 = some x.2.2 := tltoTableS k x.2.2 (by omega) (by omega)
 refine (eltoPiece k x).trans ?_
 simp only [g0, g1, g2, Option.bind_some, bne_self_eq_false, beq_self_eq_true, Bool.not_true, Bool.false_eq_true, if_false]
theorem tltoPieceS (k : Nat) (x : List (I2 × (List I2) × List (Int × (List Int) × List Int))) (hz : szT (.l 217 yi) x ≤ 1048576) (hk : szT (.l 217 yi) x + 5 < k) : jj2 k x = some x := by
 obtain ⟨k, rfl⟩ : ∃ q, k = q + 1 := ⟨k - 1, by omega⟩
 have hk' : x.length + sumL (szT yi) x + 5 < k + 1 := hk
 have hz' : x.length + sumL (szT yi) x ≤ 1048576 := hz
 refine (eltoPieceS k x).trans ?_
 rw [if_pos (beq_self_eq_true _), if_pos (by omega), if_pos (by simp; omega)]
 exact vz (α := I2 × (List I2) × List (Int × (List Int) × List Int)) (L := vi2 k _ x) (f := fun y => z24 k y) (fun _ _ => rfl) (a := x) (fun y hy => tltoPiece k y (by have := wd (f := szT yi) hy; omega) (by have := wd (f := szT yi) hy; omega)) (by omega) x.length k 0 _ (by omega) (by omega) (by simp) (by simp)
theorem tltoProgram (k : Nat) (x : Int × Int × Int × List (I2 × (List I2) × List (Int × (List Int) × List Int))) (hz : szT xw x ≤ 1048576) (hk : szT xw x + 6 < k) : xu2 k x = some x := by
 obtain ⟨k, rfl⟩ : ∃ q, k = q + 1 := ⟨k - 1, by omega⟩
 have hk' : (szT (.i .i64) x.1 + (szT (.i .i64) x.2.1 + (szT (.i .i64) x.2.2.1 + szT (.l 217 yi) x.2.2.2))) + 6 < k + 1 := hk
 have hz' : (szT (.i .i64) x.1 + (szT (.i .i64) x.2.1 + (szT (.i .i64) x.2.2.1 + szT (.l 217 yi) x.2.2.2))) ≤ 1048576 := hz
 have g0 : jj2 k x.2.2.2 = some x.2.2.2 := tltoPieceS k x.2.2.2 (by omega) (by omega)
 refine (eltoProgram k x).trans ?_
 simp only [g0, Option.bind_some, bne_self_eq_false, beq_self_eq_true, Bool.not_true, Bool.false_eq_true, if_false]
theorem tltoQueue (k : Nat) (x : List I6) (hz : szT vj x ≤ 1048576) (hk : szT vj x + 3 < k) : jx3 k x = some x := by
 obtain ⟨k, rfl⟩ : ∃ q, k = q + 1 := ⟨k - 1, by omega⟩
 have hk' : szT (.l 178 sI6) x + 3 < k + 1 := hk
 have hz' : szT (.l 178 sI6) x ≤ 1048576 := hz
 have g0 : wl1 k x = some x := tltoPacketS k x (by omega) (by omega)
 refine (eltoQueue k x).trans ?_
 simp only [g0, Option.bind_some, bne_self_eq_false, beq_self_eq_true, Bool.not_true, Bool.false_eq_true, if_false]
theorem tltoQueueS (k : Nat) (x : List (List I6)) (hz : szT (.l 141 vj) x ≤ 1048576) (hk : szT (.l 141 vj) x + 4 < k) : jm2 k x = some x := by
 obtain ⟨k, rfl⟩ : ∃ q, k = q + 1 := ⟨k - 1, by omega⟩
 have hk' : x.length + sumL (szT vj) x + 4 < k + 1 := hk
 have hz' : x.length + sumL (szT vj) x ≤ 1048576 := hz
 refine (eltoQueueS k x).trans ?_
 rw [if_pos (beq_self_eq_true _), if_pos (by omega), if_pos (by simp; omega)]
 exact vz (α := List I6) (L := wg2 k _ x) (f := fun y => jx3 k y) (fun _ _ => rfl) (a := x) (fun y hy => tltoQueue k y (by have := wd (f := szT vj) hy; omega) (by have := wd (f := szT vj) hy; omega)) (by omega) x.length k 0 _ (by omega) (by omega) (by simp) (by simp)
theorem tltoSent (k : Nat) (x : I4) (hz : szT sI4 x ≤ 1048576) (hk : szT sI4 x + 1 < k) : FltoSent k x = some x := by
 obtain ⟨k, rfl⟩ : ∃ q, k = q + 1 := ⟨k - 1, by omega⟩
 have hk' : (szT (.i .i64) x.1 + (szT (.i .i64) x.2.1 + (szT (.i .i64) x.2.2.1 + szT (.i .i64) x.2.2.2))) + 1 < k + 1 := hk
 have hz' : (szT (.i .i64) x.1 + (szT (.i .i64) x.2.1 + (szT (.i .i64) x.2.2.1 + szT (.i .i64) x.2.2.2))) ≤ 1048576 := hz
 exact eltoSent k x
theorem tltoSentS (k : Nat) (x : List I4) (hz : szT (.l 66 sI4) x ≤ 1048576) (hk : szT (.l 66 sI4) x + 2 < k) : j43 k x = some x := by
 obtain ⟨k, rfl⟩ : ∃ q, k = q + 1 := ⟨k - 1, by omega⟩
 have hk' : x.length + sumL (szT sI4) x + 2 < k + 1 := hk
 have hz' : x.length + sumL (szT sI4) x ≤ 1048576 := hz
 refine (eltoSentS k x).trans ?_
 rw [if_pos (beq_self_eq_true _), if_pos (by omega), if_pos (by simp; omega)]
 exact vz (α := Int × Int × Int × Int) (L := jv2 k _ x) (f := fun y => FltoSent k y) (fun _ _ => rfl) (a := x) (fun y hy => tltoSent k y (by have := wd (f := szT sI4) hy; omega) (by have := wd (f := szT sI4) hy; omega)) (by omega) x.length k 0 _ (by omega) (by omega) (by simp) (by simp)
theorem tltoSat (k : Nat) (x : I4) (hz : szT sI4 x ≤ 1048576) (hk : szT sI4 x + 1 < k) : FltoSat k x = some x := by
 obtain ⟨k, rfl⟩ : ∃ q, k = q + 1 := ⟨k - 1, by omega⟩
 have hk' : (szT (.i .i64) x.1 + (szT (.i .i64) x.2.1 + (szT (.i .i64) x.2.2.1 + szT (.i .i64) x.2.2.2))) + 1 < k + 1 := hk
 have hz' : (szT (.i .i64) x.1 + (szT (.i .i64) x.2.1 + (szT (.i .i64) x.2.2.1 + szT (.i .i64) x.2.2.2))) ≤ 1048576 := hz
 exact eltoSat k x
theorem tltoSatS (k : Nat) (x : List I4) (hz : szT (.l 226 sI4) x ≤ 1048576) (hk : szT (.l 226 sI4) x + 2 < k) : v04 k x = some x := by
 obtain ⟨k, rfl⟩ : ∃ q, k = q + 1 := ⟨k - 1, by omega⟩
 have hk' : x.length + sumL (szT sI4) x + 2 < k + 1 := hk
 have hz' : x.length + sumL (szT sI4) x ≤ 1048576 := hz
 refine (eltoSatS k x).trans ?_
 rw [if_pos (beq_self_eq_true _), if_pos (by omega), if_pos (by simp; omega)]
 exact vz (α := Int × Int × Int × Int) (L := za3 k _ x) (f := fun y => FltoSat k y) (fun _ _ => rfl) (a := x) (fun y hy => tltoSat k y (by have := wd (f := szT sI4) hy; omega) (by have := wd (f := szT sI4) hy; omega)) (by omega) x.length k 0 _ (by omega) (by omega) (by simp) (by simp)
theorem tltoSite (k : Nat) (x : I3) (hz : szT sI3 x ≤ 1048576) (hk : szT sI3 x + 1 < k) : FltoSite k x = some x := by
 obtain ⟨k, rfl⟩ : ∃ q, k = q + 1 := ⟨k - 1, by omega⟩
 have hk' : (szT (.i .i64) x.1 + (szT (.i .i64) x.2.1 + szT (.i .i64) x.2.2)) + 1 < k + 1 := hk
 have hz' : (szT (.i .i64) x.1 + (szT (.i .i64) x.2.1 + szT (.i .i64) x.2.2)) ≤ 1048576 := hz
 exact eltoSite k x
theorem tltoSiteS (k : Nat) (x : List I3) (hz : szT (.l 230 sI3) x ≤ 1048576) (hk : szT (.l 230 sI3) x + 2 < k) : vz2 k x = some x := by
 obtain ⟨k, rfl⟩ : ∃ q, k = q + 1 := ⟨k - 1, by omega⟩
 have hk' : x.length + sumL (szT sI3) x + 2 < k + 1 := hk
 have hz' : x.length + sumL (szT sI3) x ≤ 1048576 := hz
 refine (eltoSiteS k x).trans ?_
 rw [if_pos (beq_self_eq_true _), if_pos (by omega), if_pos (by simp; omega)]
 exact vz (α := Int × Int × Int) (L := zs2 k _ x) (f := fun y => FltoSite k y) (fun _ _ => rfl) (a := x) (fun y hy => tltoSite k y (by have := wd (f := szT sI3) hy; omega) (by have := wd (f := szT sI3) hy; omega)) (by omega) x.length k 0 _ (by omega) (by omega) (by simp) (by simp)
theorem tltoArc (k : Nat) (x : I2) (hz : szT sI2 x ≤ 1048576) (hk : szT sI2 x + 1 < k) : FltoArc k x = some x := by
 obtain ⟨k, rfl⟩ : ∃ q, k = q + 1 := ⟨k - 1, by omega⟩
 have hk' : (szT (.i .i64) x.1 + szT (.i .i64) x.2) + 1 < k + 1 := hk
 have hz' : (szT (.i .i64) x.1 + szT (.i .i64) x.2) ≤ 1048576 := hz
 exact eltoArc k x
theorem tltoZone (k : Nat) (x : I3) (hz : szT sZone x ≤ 1048576) (hk : szT sZone x + 2 < k) : FltoZone k x = some x := by
 obtain ⟨k, rfl⟩ : ∃ q, k = q + 1 := ⟨k - 1, by omega⟩
 have hk' : (szT (.i .i64) x.1 + szT sI2 x.2) + 2 < k + 1 := hk
 have hz' : (szT (.i .i64) x.1 + szT sI2 x.2) ≤ 1048576 := hz
 have g0 : FltoArc k x.2 = some x.2 := tltoArc k x.2 (by omega) (by omega)
 refine (eltoZone k x).trans ?_
 simp only [g0, Option.bind_some, bne_self_eq_false, beq_self_eq_true, Bool.not_true, Bool.false_eq_true, if_false]
theorem tltoZoneS (k : Nat) (x : List I3) (hz : szT (.l 238 sZone) x ≤ 1048576) (hk : szT (.l 238 sZone) x + 3 < k) : xz2 k x = some x := by
 obtain ⟨k, rfl⟩ : ∃ q, k = q + 1 := ⟨k - 1, by omega⟩
 have hk' : x.length + sumL (szT sZone) x + 3 < k + 1 := hk
 have hz' : x.length + sumL (szT sZone) x ≤ 1048576 := hz
 refine (eltoZoneS k x).trans ?_
 rw [if_pos (beq_self_eq_true _), if_pos (by omega), if_pos (by simp; omega)]
 exact vz (α := Int × Int × Int) (L := zr2 k _ x) (f := fun y => FltoZone k y) (fun _ _ => rfl) (a := x) (fun y hy => tltoZone k y (by have := wd (f := szT sZone) hy; omega) (by have := wd (f := szT sZone) hy; omega)) (by omega) x.length k 0 _ (by omega) (by omega) (by simp) (by simp)
theorem tltoSky (k : Nat) (x : Int × (List I4) × (List I3) × Int × Int × Int × Int × Int × (List I3) × Int) (hz : szT sLSky x ≤ 1048576) (hk : szT sLSky x + 4 < k) : FltoSky k x = some x := by
 obtain ⟨k, rfl⟩ : ∃ q, k = q + 1 := ⟨k - 1, by omega⟩
 have hk' : (szT (.i .i64) x.1 + (szT (.l 226 sI4) x.2.1 + (szT (.l 230 sI3) x.2.2.1 + (szT (.i .i64) x.2.2.2.1 + (szT (.i .i64) x.2.2.2.2.1 + (szT (.i .i64) x.2.2.2.2.2.1 + (szT (.i .i64) x.2.2.2.2.2.2.1 + (szT (.i .i64) x.2.2.2.2.2.2.2.1 + (szT (.l 238 sZone) x.2.2.2.2.2.2.2.2.1 + szT (.i .i64) x.2.2.2.2.2.2.2.2.2))))))))) + 4 < k + 1 := hk
 have hz' : (szT (.i .i64) x.1 + (szT (.l 226 sI4) x.2.1 + (szT (.l 230 sI3) x.2.2.1 + (szT (.i .i64) x.2.2.2.1 + (szT (.i .i64) x.2.2.2.2.1 + (szT (.i .i64) x.2.2.2.2.2.1 + (szT (.i .i64) x.2.2.2.2.2.2.1 + (szT (.i .i64) x.2.2.2.2.2.2.2.1 + (szT (.l 238 sZone) x.2.2.2.2.2.2.2.2.1 + szT (.i .i64) x.2.2.2.2.2.2.2.2.2))))))))) ≤ 1048576 := hz
 have g0 : v04 k x.2.1 = some x.2.1 := tltoSatS k x.2.1 (by omega) (by omega)
 have g1 : vz2 k x.2.2.1 = some x.2.2.1 := tltoSiteS k x.2.2.1 (by omega) (by omega)
 have g2 : xz2 k x.2.2.2.2.2.2.2.2.1 = some x.2.2.2.2.2.2.2.2.1 := tltoZoneS k x.2.2.2.2.2.2.2.2.1 (by omega) (by omega)
 refine (eltoSky k x).trans ?_
 simp only [g0, g1, g2, Option.bind_some, bne_self_eq_false, beq_self_eq_true, Bool.not_true, Bool.false_eq_true, if_false]
theorem tltoStream (k : Nat) (x : Int × Int × List Int) (hz : szT z8 x ≤ 1048576) (hk : szT z8 x + 2 < k) : xc3 k x = some x := by
 obtain ⟨k, rfl⟩ : ∃ q, k = q + 1 := ⟨k - 1, by omega⟩
 have hk' : (szT (.i .i64) x.1 + (szT (.i .i64) x.2.1 + szT (.l 3 (.i .i64)) x.2.2)) + 2 < k + 1 := hk
 have hz' : (szT (.i .i64) x.1 + (szT (.i .i64) x.2.1 + szT (.l 3 (.i .i64)) x.2.2)) ≤ 1048576 := hz
 have g0 : jc1 k x.2.2 = some x.2.2 := j93 k x.2.2 (by omega) (by omega)
 refine (eltoStream k x).trans ?_
 simp only [g0, Option.bind_some, bne_self_eq_false, beq_self_eq_true, Bool.not_true, Bool.false_eq_true, if_false]
theorem tltoStreamS (k : Nat) (x : List (Int × Int × List Int)) (hz : szT (.l 143 z8) x ≤ 1048576) (hk : szT (.l 143 z8) x + 3 < k) : je2 k x = some x := by
 obtain ⟨k, rfl⟩ : ∃ q, k = q + 1 := ⟨k - 1, by omega⟩
 have hk' : x.length + sumL (szT z8) x + 3 < k + 1 := hk
 have hz' : x.length + sumL (szT z8) x ≤ 1048576 := hz
 refine (eltoStreamS k x).trans ?_
 rw [if_pos (beq_self_eq_true _), if_pos (by omega), if_pos (by simp; omega)]
 exact vz (α := Int × Int × List Int) (L := w72 k _ x) (f := fun y => xc3 k y) (fun _ _ => rfl) (a := x) (fun y hy => tltoStream k y (by have := wd (f := szT z8) hy; omega) (by have := wd (f := szT z8) hy; omega)) (by omega) x.length k 0 _ (by omega) (by omega) (by simp) (by simp)
theorem tltoWorld (k : Nat) (x : (Int × (List I4) × (List I3) × Int × Int × Int × Int × Int × (List I3) × Int) × (Int × Int × Int × List (I2 × (List I2) × List (Int × (List Int) × List Int))) × (List Int) × (List Int) × (List I6) × (List (List I6)) × (List I4) × (List Int) × (List (Int × Int × List Int)) × (List I4) × Int × Int × (List I6) × List I4) (hz : szT xz x ≤ 1048576) (hk : szT xz x + 7 < k) : y53 k x = some x := by
 obtain ⟨k, rfl⟩ : ∃ q, k = q + 1 := ⟨k - 1, by omega⟩
 have hk' : (szT sLSky x.1 + (szT xw x.2.1 + (szT sLaw x.2.2.1 + (szT (.l 3 (.i .i64)) x.2.2.2.1 + (szT (.l 166 sI6) x.2.2.2.2.1 + (szT (.l 141 vj) x.2.2.2.2.2.1 + (szT (.l 171 sI4) x.2.2.2.2.2.2.1 + (szT (.l 3 (.i .i64)) x.2.2.2.2.2.2.2.1 + (szT (.l 143 z8) x.2.2.2.2.2.2.2.2.1 + (szT (.l 176 sI4) x.2.2.2.2.2.2.2.2.2.1 + (szT (.i .i64) x.2.2.2.2.2.2.2.2.2.2.1 + (szT (.i .i64) x.2.2.2.2.2.2.2.2.2.2.2.1 + (szT (.l 178 sI6) x.2.2.2.2.2.2.2.2.2.2.2.2.1 + szT (.l 66 sI4) x.2.2.2.2.2.2.2.2.2.2.2.2.2))))))))))))) + 7 < k + 1 := hk
 have hz' : (szT sLSky x.1 + (szT xw x.2.1 + (szT sLaw x.2.2.1 + (szT (.l 3 (.i .i64)) x.2.2.2.1 + (szT (.l 166 sI6) x.2.2.2.2.1 + (szT (.l 141 vj) x.2.2.2.2.2.1 + (szT (.l 171 sI4) x.2.2.2.2.2.2.1 + (szT (.l 3 (.i .i64)) x.2.2.2.2.2.2.2.1 + (szT (.l 143 z8) x.2.2.2.2.2.2.2.2.1 + (szT (.l 176 sI4) x.2.2.2.2.2.2.2.2.2.1 + (szT (.i .i64) x.2.2.2.2.2.2.2.2.2.2.1 + (szT (.i .i64) x.2.2.2.2.2.2.2.2.2.2.2.1 + (szT (.l 178 sI6) x.2.2.2.2.2.2.2.2.2.2.2.2.1 + szT (.l 66 sI4) x.2.2.2.2.2.2.2.2.2.2.2.2.2))))))))))))) ≤ 1048576 := hz
 have g0 : FltoSky k x.1 = some x.1 := tltoSky k x.1 (by omega) (by omega)
 have g1 : xu2 k x.2.1 = some x.2.1 := tltoProgram k x.2.1 (by omega) (by omega)
 have g2 : FltoLaw k x.2.2.1 = some x.2.2.1 := tltoLaw k x.2.2.1 (by omega) (by omega)
 have g3 : jc1 k x.2.2.2.1 = some x.2.2.2.1 := j93 k x.2.2.2.1 (by omega) (by omega)
 have g4 : z12 k x.2.2.2.2.1 = some x.2.2.2.2.1 := tltoBatteryS k x.2.2.2.2.1 (by omega) (by omega)
 have g5 : jm2 k x.2.2.2.2.2.1 = some x.2.2.2.2.2.1 := tltoQueueS k x.2.2.2.2.2.1 (by omega) (by omega)
 have g6 : y13 k x.2.2.2.2.2.2.1 = some x.2.2.2.2.2.2.1 := tltoFlowS k x.2.2.2.2.2.2.1 (by omega) (by omega)
 have g7 : jc1 k x.2.2.2.2.2.2.2.1 = some x.2.2.2.2.2.2.2.1 := j93 k x.2.2.2.2.2.2.2.1 (by omega) (by omega)
 have g8 : je2 k x.2.2.2.2.2.2.2.2.1 = some x.2.2.2.2.2.2.2.2.1 := tltoStreamS k x.2.2.2.2.2.2.2.2.1 (by omega) (by omega)
 have g9 : vl2 k x.2.2.2.2.2.2.2.2.2.1 = some x.2.2.2.2.2.2.2.2.2.1 := tltoFaultS k x.2.2.2.2.2.2.2.2.2.1 (by omega) (by omega)
 have g10 : wl1 k x.2.2.2.2.2.2.2.2.2.2.2.2.1 = some x.2.2.2.2.2.2.2.2.2.2.2.2.1 := tltoPacketS k x.2.2.2.2.2.2.2.2.2.2.2.2.1 (by omega) (by omega)
 have g11 : j43 k x.2.2.2.2.2.2.2.2.2.2.2.2.2 = some x.2.2.2.2.2.2.2.2.2.2.2.2.2 := tltoSentS k x.2.2.2.2.2.2.2.2.2.2.2.2.2 (by omega) (by omega)
 refine (eltoWorld k x).trans ?_
 simp only [g0, g1, g2, g3, g4, g5, g6, g7, g8, g9, g10, g11, Option.bind_some, bne_self_eq_false, beq_self_eq_true, Bool.not_true, Bool.false_eq_true, if_false]
end Go.Proofs.YthnogjmaiffagaaGreat.World
