/- Plain lemmas: sizes, copies and comparisons of the law's data. No condition. -/
import Derived.Test.YtmkkoalilmgpcaaGreatWb
namespace Go.Proofs.YtmkkoalilmgpcaaGreat.World
open Go Go.V Go.Proofs
set_option linter.unusedVariables false
set_option linter.unusedSimpArgs false
set_option maxRecDepth 100000
theorem q141 (k : Nat) (x : Int × Int × Int × Int) (hz : szT s83 x ≤ 1048576) (hk : szT s83 x + 1 < k) : F141 k x x = some true := by
  obtain ⟨k, rfl⟩ : ∃ q, k = q + 1 := ⟨k - 1, by omega⟩
  have hk' : (szT (.i .i64) x.1 + (szT (.i .i64) x.2.1 + (szT (.i .i64) x.2.2.1 + szT (.i .i64) x.2.2.2))) + 1 < k + 1 := hk
  have hz' : (szT (.i .i64) x.1 + (szT (.i .i64) x.2.1 + (szT (.i .i64) x.2.2.1 + szT (.i .i64) x.2.2.2))) ≤ 1048576 := hz
  refine (e141 k x x).trans ?_
  simp only [Option.bind_some, bne_self_eq_false, beq_self_eq_true, Bool.not_true, Bool.false_eq_true, if_false]
theorem q108 (k : Nat) (x : List (Int × Int × Int × Int)) (hz : szT (.l 112 s83) x ≤ 1048576) (hk : szT (.l 112 s83) x + 2 < k) : F108 k x x = some true := by
  obtain ⟨k, rfl⟩ : ∃ q, k = q + 1 := ⟨k - 1, by omega⟩
  have hk' : x.length + sumL (szT s83) x + 2 < k + 1 := hk
  have hz' : x.length + sumL (szT s83) x ≤ 1048576 := hz
  refine (e108 k x x).trans ?_
  rw [if_neg (by simp)]
  exact eqS_loop2 (α := Int × Int × Int × Int) (L := L108_0 k _ _ (x, x)) (f := fun y z => F141 k y z) (fun _ _ => rfl) (a := x) (fun y hy => q141 k y (by have := sumL_le (f := szT s83) hy; omega) (by have := sumL_le (f := szT s83) hy; omega)) (by omega) x.length k 0 (by omega) (by omega)
theorem q142 (k : Nat) (x : Int × Int × Int) (hz : szT s114 x ≤ 1048576) (hk : szT s114 x + 1 < k) : F142 k x x = some true := by
  obtain ⟨k, rfl⟩ : ∃ q, k = q + 1 := ⟨k - 1, by omega⟩
  have hk' : (szT (.i .i64) x.1 + (szT (.i .i64) x.2.1 + szT (.i .i64) x.2.2)) + 1 < k + 1 := hk
  have hz' : (szT (.i .i64) x.1 + (szT (.i .i64) x.2.1 + szT (.i .i64) x.2.2)) ≤ 1048576 := hz
  refine (e142 k x x).trans ?_
  simp only [Option.bind_some, bne_self_eq_false, beq_self_eq_true, Bool.not_true, Bool.false_eq_true, if_false]
theorem q109 (k : Nat) (x : List (Int × Int × Int)) (hz : szT (.l 115 s114) x ≤ 1048576) (hk : szT (.l 115 s114) x + 2 < k) : F109 k x x = some true := by
  obtain ⟨k, rfl⟩ : ∃ q, k = q + 1 := ⟨k - 1, by omega⟩
  have hk' : x.length + sumL (szT s114) x + 2 < k + 1 := hk
  have hz' : x.length + sumL (szT s114) x ≤ 1048576 := hz
  refine (e109 k x x).trans ?_
  rw [if_neg (by simp)]
  exact eqS_loop2 (α := Int × Int × Int) (L := L109_0 k _ _ (x, x)) (f := fun y z => F142 k y z) (fun _ _ => rfl) (a := x) (fun y hy => q142 k y (by have := sumL_le (f := szT s114) hy; omega) (by have := sumL_le (f := szT s114) hy; omega)) (by omega) x.length k 0 (by omega) (by omega)
theorem q163 (k : Nat) (x : Int × Int) (hz : szT s117 x ≤ 1048576) (hk : szT s117 x + 1 < k) : F163 k x x = some true := by
  obtain ⟨k, rfl⟩ : ∃ q, k = q + 1 := ⟨k - 1, by omega⟩
  have hk' : (szT (.i .i64) x.1 + szT (.i .i64) x.2) + 1 < k + 1 := hk
  have hz' : (szT (.i .i64) x.1 + szT (.i .i64) x.2) ≤ 1048576 := hz
  refine (e163 k x x).trans ?_
  simp only [Option.bind_some, bne_self_eq_false, beq_self_eq_true, Bool.not_true, Bool.false_eq_true, if_false]
theorem q143 (k : Nat) (x : Int × Int × Int) (hz : szT s119 x ≤ 1048576) (hk : szT s119 x + 2 < k) : F143 k x x = some true := by
  obtain ⟨k, rfl⟩ : ∃ q, k = q + 1 := ⟨k - 1, by omega⟩
  have hk' : (szT (.i .i64) x.1 + szT s117 x.2) + 2 < k + 1 := hk
  have hz' : (szT (.i .i64) x.1 + szT s117 x.2) ≤ 1048576 := hz
  have g0 : F163 k x.2 x.2 = some true := q163 k x.2 (by omega) (by omega)
  refine (e143 k x x).trans ?_
  simp only [g0, Option.bind_some, bne_self_eq_false, beq_self_eq_true, Bool.not_true, Bool.false_eq_true, if_false]
theorem q110 (k : Nat) (x : List (Int × Int × Int)) (hz : szT (.l 120 s119) x ≤ 1048576) (hk : szT (.l 120 s119) x + 3 < k) : F110 k x x = some true := by
  obtain ⟨k, rfl⟩ : ∃ q, k = q + 1 := ⟨k - 1, by omega⟩
  have hk' : x.length + sumL (szT s119) x + 3 < k + 1 := hk
  have hz' : x.length + sumL (szT s119) x ≤ 1048576 := hz
  refine (e110 k x x).trans ?_
  rw [if_neg (by simp)]
  exact eqS_loop2 (α := Int × Int × Int) (L := L110_0 k _ _ (x, x)) (f := fun y z => F143 k y z) (fun _ _ => rfl) (a := x) (fun y hy => q143 k y (by have := sumL_le (f := szT s119) hy; omega) (by have := sumL_le (f := szT s119) hy; omega)) (by omega) x.length k 0 (by omega) (by omega)
theorem q44 (k : Nat) (x : Int × (List (Int × Int × Int × Int)) × (List (Int × Int × Int)) × Int × Int × Int × Int × Int × (List (Int × Int × Int)) × Int) (hz : szT s47 x ≤ 1048576) (hk : szT s47 x + 4 < k) : F44 k x x = some true := by
  obtain ⟨k, rfl⟩ : ∃ q, k = q + 1 := ⟨k - 1, by omega⟩
  have hk' : (szT (.i .i64) x.1 + (szT (.l 112 s83) x.2.1 + (szT (.l 115 s114) x.2.2.1 + (szT (.i .i64) x.2.2.2.1 + (szT (.i .i64) x.2.2.2.2.1 + (szT (.i .i64) x.2.2.2.2.2.1 + (szT (.i .i64) x.2.2.2.2.2.2.1 + (szT (.i .i64) x.2.2.2.2.2.2.2.1 + (szT (.l 120 s119) x.2.2.2.2.2.2.2.2.1 + szT (.i .i64) x.2.2.2.2.2.2.2.2.2))))))))) + 4 < k + 1 := hk
  have hz' : (szT (.i .i64) x.1 + (szT (.l 112 s83) x.2.1 + (szT (.l 115 s114) x.2.2.1 + (szT (.i .i64) x.2.2.2.1 + (szT (.i .i64) x.2.2.2.2.1 + (szT (.i .i64) x.2.2.2.2.2.1 + (szT (.i .i64) x.2.2.2.2.2.2.1 + (szT (.i .i64) x.2.2.2.2.2.2.2.1 + (szT (.l 120 s119) x.2.2.2.2.2.2.2.2.1 + szT (.i .i64) x.2.2.2.2.2.2.2.2.2))))))))) ≤ 1048576 := hz
  have g0 : F108 k x.2.1 x.2.1 = some true := q108 k x.2.1 (by omega) (by omega)
  have g1 : F109 k x.2.2.1 x.2.2.1 = some true := q109 k x.2.2.1 (by omega) (by omega)
  have g2 : F110 k x.2.2.2.2.2.2.2.2.1 x.2.2.2.2.2.2.2.2.1 = some true := q110 k x.2.2.2.2.2.2.2.2.1 (by omega) (by omega)
  refine (e44 k x x).trans ?_
  simp only [g0, g1, g2, Option.bind_some, bne_self_eq_false, beq_self_eq_true, Bool.not_true, Bool.false_eq_true, if_false]
theorem q164 (k : Nat) (x : Int × Int) (hz : szT s117 x ≤ 1048576) (hk : szT s117 x + 1 < k) : F164 k x x = some true := by
  obtain ⟨k, rfl⟩ : ∃ q, k = q + 1 := ⟨k - 1, by omega⟩
  have hk' : (szT (.i .i64) x.1 + szT (.i .i64) x.2) + 1 < k + 1 := hk
  have hz' : (szT (.i .i64) x.1 + szT (.i .i64) x.2) ≤ 1048576 := hz
  refine (e164 k x x).trans ?_
  simp only [Option.bind_some, bne_self_eq_false, beq_self_eq_true, Bool.not_true, Bool.false_eq_true, if_false]
theorem q178 (k : Nat) (x : Int × Int) (hz : szT s117 x ≤ 1048576) (hk : szT s117 x + 1 < k) : F178 k x x = some true := by
  obtain ⟨k, rfl⟩ : ∃ q, k = q + 1 := ⟨k - 1, by omega⟩
  have hk' : (szT (.i .i64) x.1 + szT (.i .i64) x.2) + 1 < k + 1 := hk
  have hz' : (szT (.i .i64) x.1 + szT (.i .i64) x.2) ≤ 1048576 := hz
  refine (e178 k x x).trans ?_
  simp only [Option.bind_some, bne_self_eq_false, beq_self_eq_true, Bool.not_true, Bool.false_eq_true, if_false]
theorem q165 (k : Nat) (x : List (Int × Int)) (hz : szT (.l 130 s117) x ≤ 1048576) (hk : szT (.l 130 s117) x + 2 < k) : F165 k x x = some true := by
  obtain ⟨k, rfl⟩ : ∃ q, k = q + 1 := ⟨k - 1, by omega⟩
  have hk' : x.length + sumL (szT s117) x + 2 < k + 1 := hk
  have hz' : x.length + sumL (szT s117) x ≤ 1048576 := hz
  refine (e165 k x x).trans ?_
  rw [if_neg (by simp)]
  exact eqS_loop2 (α := Int × Int) (L := L165_0 k _ _ (x, x)) (f := fun y z => F178 k y z) (fun _ _ => rfl) (a := x) (fun y hy => q178 k y (by have := sumL_le (f := szT s117) hy; omega) (by have := sumL_le (f := szT s117) hy; omega)) (by omega) x.length k 0 (by omega) (by omega)
theorem q47 (k : Nat) (x : List Int) (hz : szT (.l 3 (.i .i64)) x ≤ 1048576) (hk : szT (.l 3 (.i .i64)) x + 1 < k) : F47 k x x = some true := by
  obtain ⟨k, rfl⟩ : ∃ q, k = q + 1 := ⟨k - 1, by omega⟩
  have hk' : x.length + sumL (szT (.i .i64)) x + 1 < k + 1 := hk
  have hz' : x.length + sumL (szT (.i .i64)) x ≤ 1048576 := hz
  refine (e47 k x x).trans ?_
  rw [if_neg (by simp)]
  exact eqI_loop2 (α := Int) (L := L47_0 k _ _ (x, x)) (fun _ _ => rfl) (a := x) (by omega) x.length k 0 (by omega) (by omega)
theorem q179 (k : Nat) (x : Int × (List Int) × List Int) (hz : szT s132 x ≤ 1048576) (hk : szT s132 x + 2 < k) : F179 k x x = some true := by
  obtain ⟨k, rfl⟩ : ∃ q, k = q + 1 := ⟨k - 1, by omega⟩
  have hk' : (szT (.i .i64) x.1 + (szT (.l 3 (.i .i64)) x.2.1 + szT (.l 3 (.i .i64)) x.2.2)) + 2 < k + 1 := hk
  have hz' : (szT (.i .i64) x.1 + (szT (.l 3 (.i .i64)) x.2.1 + szT (.l 3 (.i .i64)) x.2.2)) ≤ 1048576 := hz
  have g0 : F47 k x.2.1 x.2.1 = some true := q47 k x.2.1 (by omega) (by omega)
  have g1 : F47 k x.2.2 x.2.2 = some true := q47 k x.2.2 (by omega) (by omega)
  refine (e179 k x x).trans ?_
  simp only [g0, g1, Option.bind_some, bne_self_eq_false, beq_self_eq_true, Bool.not_true, Bool.false_eq_true, if_false]
theorem q166 (k : Nat) (x : List (Int × (List Int) × List Int)) (hz : szT (.l 133 s132) x ≤ 1048576) (hk : szT (.l 133 s132) x + 3 < k) : F166 k x x = some true := by
  obtain ⟨k, rfl⟩ : ∃ q, k = q + 1 := ⟨k - 1, by omega⟩
  have hk' : x.length + sumL (szT s132) x + 3 < k + 1 := hk
  have hz' : x.length + sumL (szT s132) x ≤ 1048576 := hz
  refine (e166 k x x).trans ?_
  rw [if_neg (by simp)]
  exact eqS_loop2 (α := Int × (List Int) × List Int) (L := L166_0 k _ _ (x, x)) (f := fun y z => F179 k y z) (fun _ _ => rfl) (a := x) (fun y hy => q179 k y (by have := sumL_le (f := szT s132) hy; omega) (by have := sumL_le (f := szT s132) hy; omega)) (by omega) x.length k 0 (by omega) (by omega)
theorem q144 (k : Nat) (x : (Int × Int) × (List (Int × Int)) × List (Int × (List Int) × List Int)) (hz : szT s126 x ≤ 1048576) (hk : szT s126 x + 4 < k) : F144 k x x = some true := by
  obtain ⟨k, rfl⟩ : ∃ q, k = q + 1 := ⟨k - 1, by omega⟩
  have hk' : (szT s117 x.1 + (szT (.l 130 s117) x.2.1 + szT (.l 133 s132) x.2.2)) + 4 < k + 1 := hk
  have hz' : (szT s117 x.1 + (szT (.l 130 s117) x.2.1 + szT (.l 133 s132) x.2.2)) ≤ 1048576 := hz
  have g0 : F164 k x.1 x.1 = some true := q164 k x.1 (by omega) (by omega)
  have g1 : F165 k x.2.1 x.2.1 = some true := q165 k x.2.1 (by omega) (by omega)
  have g2 : F166 k x.2.2 x.2.2 = some true := q166 k x.2.2 (by omega) (by omega)
  refine (e144 k x x).trans ?_
  simp only [g0, g1, g2, Option.bind_some, bne_self_eq_false, beq_self_eq_true, Bool.not_true, Bool.false_eq_true, if_false]
theorem q111 (k : Nat) (x : List ((Int × Int) × (List (Int × Int)) × List (Int × (List Int) × List Int))) (hz : szT (.l 127 s126) x ≤ 1048576) (hk : szT (.l 127 s126) x + 5 < k) : F111 k x x = some true := by
  obtain ⟨k, rfl⟩ : ∃ q, k = q + 1 := ⟨k - 1, by omega⟩
  have hk' : x.length + sumL (szT s126) x + 5 < k + 1 := hk
  have hz' : x.length + sumL (szT s126) x ≤ 1048576 := hz
  refine (e111 k x x).trans ?_
  rw [if_neg (by simp)]
  exact eqS_loop2 (α := (Int × Int) × (List (Int × Int)) × List (Int × (List Int) × List Int)) (L := L111_0 k _ _ (x, x)) (f := fun y z => F144 k y z) (fun _ _ => rfl) (a := x) (fun y hy => q144 k y (by have := sumL_le (f := szT s126) hy; omega) (by have := sumL_le (f := szT s126) hy; omega)) (by omega) x.length k 0 (by omega) (by omega)
theorem q45 (k : Nat) (x : Int × Int × Int × List ((Int × Int) × (List (Int × Int)) × List (Int × (List Int) × List Int))) (hz : szT s50 x ≤ 1048576) (hk : szT s50 x + 6 < k) : F45 k x x = some true := by
  obtain ⟨k, rfl⟩ : ∃ q, k = q + 1 := ⟨k - 1, by omega⟩
  have hk' : (szT (.i .i64) x.1 + (szT (.i .i64) x.2.1 + (szT (.i .i64) x.2.2.1 + szT (.l 127 s126) x.2.2.2))) + 6 < k + 1 := hk
  have hz' : (szT (.i .i64) x.1 + (szT (.i .i64) x.2.1 + (szT (.i .i64) x.2.2.1 + szT (.l 127 s126) x.2.2.2))) ≤ 1048576 := hz
  have g0 : F111 k x.2.2.2 x.2.2.2 = some true := q111 k x.2.2.2 (by omega) (by omega)
  refine (e45 k x x).trans ?_
  simp only [g0, Option.bind_some, bne_self_eq_false, beq_self_eq_true, Bool.not_true, Bool.false_eq_true, if_false]
theorem q46 (k : Nat) (x : List Int) (hz : szT s31 x ≤ 1048576) (hk : szT s31 x + 2 < k) : F46 k x x = some true := by
  obtain ⟨k, rfl⟩ : ∃ q, k = q + 1 := ⟨k - 1, by omega⟩
  have hk' : szT (.l 3 (.i .i64)) x + 2 < k + 1 := hk
  have hz' : szT (.l 3 (.i .i64)) x ≤ 1048576 := hz
  have g0 : F47 k x x = some true := q47 k x (by omega) (by omega)
  refine (e46 k x x).trans ?_
  simp only [g0, Option.bind_some, bne_self_eq_false, beq_self_eq_true, Bool.not_true, Bool.false_eq_true, if_false]
theorem q112 (k : Nat) (x : Int × Int × Int × Int × Int × Int) (hz : szT s78 x ≤ 1048576) (hk : szT s78 x + 1 < k) : F112 k x x = some true := by
  obtain ⟨k, rfl⟩ : ∃ q, k = q + 1 := ⟨k - 1, by omega⟩
  have hk' : (szT (.i .i64) x.1 + (szT (.i .i64) x.2.1 + (szT (.i .i64) x.2.2.1 + (szT (.i .i64) x.2.2.2.1 + (szT (.i .i64) x.2.2.2.2.1 + szT (.i .i64) x.2.2.2.2.2))))) + 1 < k + 1 := hk
  have hz' : (szT (.i .i64) x.1 + (szT (.i .i64) x.2.1 + (szT (.i .i64) x.2.2.1 + (szT (.i .i64) x.2.2.2.1 + (szT (.i .i64) x.2.2.2.2.1 + szT (.i .i64) x.2.2.2.2.2))))) ≤ 1048576 := hz
  refine (e112 k x x).trans ?_
  simp only [Option.bind_some, bne_self_eq_false, beq_self_eq_true, Bool.not_true, Bool.false_eq_true, if_false]
theorem q48 (k : Nat) (x : List (Int × Int × Int × Int × Int × Int)) (hz : szT (.l 139 s78) x ≤ 1048576) (hk : szT (.l 139 s78) x + 2 < k) : F48 k x x = some true := by
  obtain ⟨k, rfl⟩ : ∃ q, k = q + 1 := ⟨k - 1, by omega⟩
  have hk' : x.length + sumL (szT s78) x + 2 < k + 1 := hk
  have hz' : x.length + sumL (szT s78) x ≤ 1048576 := hz
  refine (e48 k x x).trans ?_
  rw [if_neg (by simp)]
  exact eqS_loop2 (α := Int × Int × Int × Int × Int × Int) (L := L48_0 k _ _ (x, x)) (f := fun y z => F112 k y z) (fun _ _ => rfl) (a := x) (fun y hy => q112 k y (by have := sumL_le (f := szT s78) hy; omega) (by have := sumL_le (f := szT s78) hy; omega)) (by omega) x.length k 0 (by omega) (by omega)
theorem q117 (k : Nat) (x : Int × Int × Int × Int × Int × Int) (hz : szT s78 x ≤ 1048576) (hk : szT s78 x + 1 < k) : F117 k x x = some true := by
  obtain ⟨k, rfl⟩ : ∃ q, k = q + 1 := ⟨k - 1, by omega⟩
  have hk' : (szT (.i .i64) x.1 + (szT (.i .i64) x.2.1 + (szT (.i .i64) x.2.2.1 + (szT (.i .i64) x.2.2.2.1 + (szT (.i .i64) x.2.2.2.2.1 + szT (.i .i64) x.2.2.2.2.2))))) + 1 < k + 1 := hk
  have hz' : (szT (.i .i64) x.1 + (szT (.i .i64) x.2.1 + (szT (.i .i64) x.2.2.1 + (szT (.i .i64) x.2.2.2.1 + (szT (.i .i64) x.2.2.2.2.1 + szT (.i .i64) x.2.2.2.2.2))))) ≤ 1048576 := hz
  refine (e117 k x x).trans ?_
  simp only [Option.bind_some, bne_self_eq_false, beq_self_eq_true, Bool.not_true, Bool.false_eq_true, if_false]
theorem q53 (k : Nat) (x : List (Int × Int × Int × Int × Int × Int)) (hz : szT (.l 79 s78) x ≤ 1048576) (hk : szT (.l 79 s78) x + 2 < k) : F53 k x x = some true := by
  obtain ⟨k, rfl⟩ : ∃ q, k = q + 1 := ⟨k - 1, by omega⟩
  have hk' : x.length + sumL (szT s78) x + 2 < k + 1 := hk
  have hz' : x.length + sumL (szT s78) x ≤ 1048576 := hz
  refine (e53 k x x).trans ?_
  rw [if_neg (by simp)]
  exact eqS_loop2 (α := Int × Int × Int × Int × Int × Int) (L := L53_0 k _ _ (x, x)) (f := fun y z => F117 k y z) (fun _ _ => rfl) (a := x) (fun y hy => q117 k y (by have := sumL_le (f := szT s78) hy; omega) (by have := sumL_le (f := szT s78) hy; omega)) (by omega) x.length k 0 (by omega) (by omega)
theorem q113 (k : Nat) (x : List (Int × Int × Int × Int × Int × Int)) (hz : szT s80 x ≤ 1048576) (hk : szT s80 x + 3 < k) : F113 k x x = some true := by
  obtain ⟨k, rfl⟩ : ∃ q, k = q + 1 := ⟨k - 1, by omega⟩
  have hk' : szT (.l 79 s78) x + 3 < k + 1 := hk
  have hz' : szT (.l 79 s78) x ≤ 1048576 := hz
  have g0 : F53 k x x = some true := q53 k x (by omega) (by omega)
  refine (e113 k x x).trans ?_
  simp only [g0, Option.bind_some, bne_self_eq_false, beq_self_eq_true, Bool.not_true, Bool.false_eq_true, if_false]
theorem q49 (k : Nat) (x : List (List (Int × Int × Int × Int × Int × Int))) (hz : szT (.l 81 s80) x ≤ 1048576) (hk : szT (.l 81 s80) x + 4 < k) : F49 k x x = some true := by
  obtain ⟨k, rfl⟩ : ∃ q, k = q + 1 := ⟨k - 1, by omega⟩
  have hk' : x.length + sumL (szT s80) x + 4 < k + 1 := hk
  have hz' : x.length + sumL (szT s80) x ≤ 1048576 := hz
  refine (e49 k x x).trans ?_
  rw [if_neg (by simp)]
  exact eqS_loop2 (α := List (Int × Int × Int × Int × Int × Int)) (L := L49_0 k _ _ (x, x)) (f := fun y z => F113 k y z) (fun _ _ => rfl) (a := x) (fun y hy => q113 k y (by have := sumL_le (f := szT s80) hy; omega) (by have := sumL_le (f := szT s80) hy; omega)) (by omega) x.length k 0 (by omega) (by omega)
theorem q114 (k : Nat) (x : Int × Int × Int × Int) (hz : szT s83 x ≤ 1048576) (hk : szT s83 x + 1 < k) : F114 k x x = some true := by
  obtain ⟨k, rfl⟩ : ∃ q, k = q + 1 := ⟨k - 1, by omega⟩
  have hk' : (szT (.i .i64) x.1 + (szT (.i .i64) x.2.1 + (szT (.i .i64) x.2.2.1 + szT (.i .i64) x.2.2.2))) + 1 < k + 1 := hk
  have hz' : (szT (.i .i64) x.1 + (szT (.i .i64) x.2.1 + (szT (.i .i64) x.2.2.1 + szT (.i .i64) x.2.2.2))) ≤ 1048576 := hz
  refine (e114 k x x).trans ?_
  simp only [Option.bind_some, bne_self_eq_false, beq_self_eq_true, Bool.not_true, Bool.false_eq_true, if_false]
theorem q50 (k : Nat) (x : List (Int × Int × Int × Int)) (hz : szT (.l 141 s83) x ≤ 1048576) (hk : szT (.l 141 s83) x + 2 < k) : F50 k x x = some true := by
  obtain ⟨k, rfl⟩ : ∃ q, k = q + 1 := ⟨k - 1, by omega⟩
  have hk' : x.length + sumL (szT s83) x + 2 < k + 1 := hk
  have hz' : x.length + sumL (szT s83) x ≤ 1048576 := hz
  refine (e50 k x x).trans ?_
  rw [if_neg (by simp)]
  exact eqS_loop2 (α := Int × Int × Int × Int) (L := L50_0 k _ _ (x, x)) (f := fun y z => F114 k y z) (fun _ _ => rfl) (a := x) (fun y hy => q114 k y (by have := sumL_le (f := szT s83) hy; omega) (by have := sumL_le (f := szT s83) hy; omega)) (by omega) x.length k 0 (by omega) (by omega)
theorem q115 (k : Nat) (x : Int × Int × List Int) (hz : szT s143 x ≤ 1048576) (hk : szT s143 x + 2 < k) : F115 k x x = some true := by
  obtain ⟨k, rfl⟩ : ∃ q, k = q + 1 := ⟨k - 1, by omega⟩
  have hk' : (szT (.i .i64) x.1 + (szT (.i .i64) x.2.1 + szT (.l 3 (.i .i64)) x.2.2)) + 2 < k + 1 := hk
  have hz' : (szT (.i .i64) x.1 + (szT (.i .i64) x.2.1 + szT (.l 3 (.i .i64)) x.2.2)) ≤ 1048576 := hz
  have g0 : F47 k x.2.2 x.2.2 = some true := q47 k x.2.2 (by omega) (by omega)
  refine (e115 k x x).trans ?_
  simp only [g0, Option.bind_some, bne_self_eq_false, beq_self_eq_true, Bool.not_true, Bool.false_eq_true, if_false]
theorem q51 (k : Nat) (x : List (Int × Int × List Int)) (hz : szT (.l 144 s143) x ≤ 1048576) (hk : szT (.l 144 s143) x + 3 < k) : F51 k x x = some true := by
  obtain ⟨k, rfl⟩ : ∃ q, k = q + 1 := ⟨k - 1, by omega⟩
  have hk' : x.length + sumL (szT s143) x + 3 < k + 1 := hk
  have hz' : x.length + sumL (szT s143) x ≤ 1048576 := hz
  refine (e51 k x x).trans ?_
  rw [if_neg (by simp)]
  exact eqS_loop2 (α := Int × Int × List Int) (L := L51_0 k _ _ (x, x)) (f := fun y z => F115 k y z) (fun _ _ => rfl) (a := x) (fun y hy => q115 k y (by have := sumL_le (f := szT s143) hy; omega) (by have := sumL_le (f := szT s143) hy; omega)) (by omega) x.length k 0 (by omega) (by omega)
theorem q116 (k : Nat) (x : Int × Int × Int × Int) (hz : szT s83 x ≤ 1048576) (hk : szT s83 x + 1 < k) : F116 k x x = some true := by
  obtain ⟨k, rfl⟩ : ∃ q, k = q + 1 := ⟨k - 1, by omega⟩
  have hk' : (szT (.i .i64) x.1 + (szT (.i .i64) x.2.1 + (szT (.i .i64) x.2.2.1 + szT (.i .i64) x.2.2.2))) + 1 < k + 1 := hk
  have hz' : (szT (.i .i64) x.1 + (szT (.i .i64) x.2.1 + (szT (.i .i64) x.2.2.1 + szT (.i .i64) x.2.2.2))) ≤ 1048576 := hz
  refine (e116 k x x).trans ?_
  simp only [Option.bind_some, bne_self_eq_false, beq_self_eq_true, Bool.not_true, Bool.false_eq_true, if_false]
theorem q52 (k : Nat) (x : List (Int × Int × Int × Int)) (hz : szT (.l 147 s83) x ≤ 1048576) (hk : szT (.l 147 s83) x + 2 < k) : F52 k x x = some true := by
  obtain ⟨k, rfl⟩ : ∃ q, k = q + 1 := ⟨k - 1, by omega⟩
  have hk' : x.length + sumL (szT s83) x + 2 < k + 1 := hk
  have hz' : x.length + sumL (szT s83) x ≤ 1048576 := hz
  refine (e52 k x x).trans ?_
  rw [if_neg (by simp)]
  exact eqS_loop2 (α := Int × Int × Int × Int) (L := L52_0 k _ _ (x, x)) (f := fun y z => F116 k y z) (fun _ _ => rfl) (a := x) (fun y hy => q116 k y (by have := sumL_le (f := szT s83) hy; omega) (by have := sumL_le (f := szT s83) hy; omega)) (by omega) x.length k 0 (by omega) (by omega)
theorem q118 (k : Nat) (x : Int × Int × Int × Int) (hz : szT s83 x ≤ 1048576) (hk : szT s83 x + 1 < k) : F118 k x x = some true := by
  obtain ⟨k, rfl⟩ : ∃ q, k = q + 1 := ⟨k - 1, by omega⟩
  have hk' : (szT (.i .i64) x.1 + (szT (.i .i64) x.2.1 + (szT (.i .i64) x.2.2.1 + szT (.i .i64) x.2.2.2))) + 1 < k + 1 := hk
  have hz' : (szT (.i .i64) x.1 + (szT (.i .i64) x.2.1 + (szT (.i .i64) x.2.2.1 + szT (.i .i64) x.2.2.2))) ≤ 1048576 := hz
  refine (e118 k x x).trans ?_
  simp only [Option.bind_some, bne_self_eq_false, beq_self_eq_true, Bool.not_true, Bool.false_eq_true, if_false]
theorem q54 (k : Nat) (x : List (Int × Int × Int × Int)) (hz : szT (.l 84 s83) x ≤ 1048576) (hk : szT (.l 84 s83) x + 2 < k) : F54 k x x = some true := by
  obtain ⟨k, rfl⟩ : ∃ q, k = q + 1 := ⟨k - 1, by omega⟩
  have hk' : x.length + sumL (szT s83) x + 2 < k + 1 := hk
  have hz' : x.length + sumL (szT s83) x ≤ 1048576 := hz
  refine (e54 k x x).trans ?_
  rw [if_neg (by simp)]
  exact eqS_loop2 (α := Int × Int × Int × Int) (L := L54_0 k _ _ (x, x)) (f := fun y z => F118 k y z) (fun _ _ => rfl) (a := x) (fun y hy => q118 k y (by have := sumL_le (f := szT s83) hy; omega) (by have := sumL_le (f := szT s83) hy; omega)) (by omega) x.length k 0 (by omega) (by omega)
theorem q11 (k : Nat) (x : (Int × (List (Int × Int × Int × Int)) × (List (Int × Int × Int)) × Int × Int × Int × Int × Int × (List (Int × Int × Int)) × Int) × (Int × Int × Int × List ((Int × Int) × (List (Int × Int)) × List (Int × (List Int) × List Int))) × (List Int) × (List Int) × (List (Int × Int × Int × Int × Int × Int)) × (List (List (Int × Int × Int × Int × Int × Int))) × (List (Int × Int × Int × Int)) × (List Int) × (List (Int × Int × List Int)) × (List (Int × Int × Int × Int)) × Int × Int × (List (Int × Int × Int × Int × Int × Int)) × List (Int × Int × Int × Int)) (hz : szT s60 x ≤ 1048576) (hk : szT s60 x + 7 < k) : F11 k x x = some true := by
  obtain ⟨k, rfl⟩ : ∃ q, k = q + 1 := ⟨k - 1, by omega⟩
  have hk' : (szT s47 x.1 + (szT s50 x.2.1 + (szT s31 x.2.2.1 + (szT (.l 3 (.i .i64)) x.2.2.2.1 + (szT (.l 139 s78) x.2.2.2.2.1 + (szT (.l 81 s80) x.2.2.2.2.2.1 + (szT (.l 141 s83) x.2.2.2.2.2.2.1 + (szT (.l 3 (.i .i64)) x.2.2.2.2.2.2.2.1 + (szT (.l 144 s143) x.2.2.2.2.2.2.2.2.1 + (szT (.l 147 s83) x.2.2.2.2.2.2.2.2.2.1 + (szT (.i .i64) x.2.2.2.2.2.2.2.2.2.2.1 + (szT (.i .i64) x.2.2.2.2.2.2.2.2.2.2.2.1 + (szT (.l 79 s78) x.2.2.2.2.2.2.2.2.2.2.2.2.1 + szT (.l 84 s83) x.2.2.2.2.2.2.2.2.2.2.2.2.2))))))))))))) + 7 < k + 1 := hk
  have hz' : (szT s47 x.1 + (szT s50 x.2.1 + (szT s31 x.2.2.1 + (szT (.l 3 (.i .i64)) x.2.2.2.1 + (szT (.l 139 s78) x.2.2.2.2.1 + (szT (.l 81 s80) x.2.2.2.2.2.1 + (szT (.l 141 s83) x.2.2.2.2.2.2.1 + (szT (.l 3 (.i .i64)) x.2.2.2.2.2.2.2.1 + (szT (.l 144 s143) x.2.2.2.2.2.2.2.2.1 + (szT (.l 147 s83) x.2.2.2.2.2.2.2.2.2.1 + (szT (.i .i64) x.2.2.2.2.2.2.2.2.2.2.1 + (szT (.i .i64) x.2.2.2.2.2.2.2.2.2.2.2.1 + (szT (.l 79 s78) x.2.2.2.2.2.2.2.2.2.2.2.2.1 + szT (.l 84 s83) x.2.2.2.2.2.2.2.2.2.2.2.2.2))))))))))))) ≤ 1048576 := hz
  have g0 : F44 k x.1 x.1 = some true := q44 k x.1 (by omega) (by omega)
  have g1 : F45 k x.2.1 x.2.1 = some true := q45 k x.2.1 (by omega) (by omega)
  have g2 : F46 k x.2.2.1 x.2.2.1 = some true := q46 k x.2.2.1 (by omega) (by omega)
  have g3 : F47 k x.2.2.2.1 x.2.2.2.1 = some true := q47 k x.2.2.2.1 (by omega) (by omega)
  have g4 : F48 k x.2.2.2.2.1 x.2.2.2.2.1 = some true := q48 k x.2.2.2.2.1 (by omega) (by omega)
  have g5 : F49 k x.2.2.2.2.2.1 x.2.2.2.2.2.1 = some true := q49 k x.2.2.2.2.2.1 (by omega) (by omega)
  have g6 : F50 k x.2.2.2.2.2.2.1 x.2.2.2.2.2.2.1 = some true := q50 k x.2.2.2.2.2.2.1 (by omega) (by omega)
  have g7 : F47 k x.2.2.2.2.2.2.2.1 x.2.2.2.2.2.2.2.1 = some true := q47 k x.2.2.2.2.2.2.2.1 (by omega) (by omega)
  have g8 : F51 k x.2.2.2.2.2.2.2.2.1 x.2.2.2.2.2.2.2.2.1 = some true := q51 k x.2.2.2.2.2.2.2.2.1 (by omega) (by omega)
  have g9 : F52 k x.2.2.2.2.2.2.2.2.2.1 x.2.2.2.2.2.2.2.2.2.1 = some true := q52 k x.2.2.2.2.2.2.2.2.2.1 (by omega) (by omega)
  have g10 : F53 k x.2.2.2.2.2.2.2.2.2.2.2.2.1 x.2.2.2.2.2.2.2.2.2.2.2.2.1 = some true := q53 k x.2.2.2.2.2.2.2.2.2.2.2.2.1 (by omega) (by omega)
  have g11 : F54 k x.2.2.2.2.2.2.2.2.2.2.2.2.2 x.2.2.2.2.2.2.2.2.2.2.2.2.2 = some true := q54 k x.2.2.2.2.2.2.2.2.2.2.2.2.2 (by omega) (by omega)
  refine (e11 k x x).trans ?_
  simp only [g0, g1, g2, g3, g4, g5, g6, g7, g8, g9, g10, g11, Option.bind_some, bne_self_eq_false, beq_self_eq_true, Bool.not_true, Bool.false_eq_true, if_false]
theorem z84 (k : Nat) (x : List (Int × Int × Int × Int)) (left : Int) (hr : rowsLe 140737488351232 (.l 196 s83) x) (hk : szT (.l 196 s83) x + 1 < k) (h0 : 0 ≤ left) (h1 : left ≤ 1048576) : F84 k x left = some (szR (szT (.l 196 s83) x) left) := by
  obtain ⟨k, rfl⟩ : ∃ q, k = q + 1 := ⟨k - 1, by omega⟩
  have hl : x.length ≤ 140737488351232 := (rowsLe_row hr).1
  have hz : szT (.l 196 s83) x = x.length := szT_row (e := 196) (sh := s83) rfl x
  exact (e84 k x left).trans ((sz_leaf hl h0 h1).trans (congrArg (fun n => some (szR n left)) hz.symm))
theorem z85 (k : Nat) (x : List (Int × Int × Int)) (left : Int) (hr : rowsLe 140737488351232 (.l 198 s114) x) (hk : szT (.l 198 s114) x + 1 < k) (h0 : 0 ≤ left) (h1 : left ≤ 1048576) : F85 k x left = some (szR (szT (.l 198 s114) x) left) := by
  obtain ⟨k, rfl⟩ : ∃ q, k = q + 1 := ⟨k - 1, by omega⟩
  have hl : x.length ≤ 140737488351232 := (rowsLe_row hr).1
  have hz : szT (.l 198 s114) x = x.length := szT_row (e := 198) (sh := s114) rfl x
  exact (e85 k x left).trans ((sz_leaf hl h0 h1).trans (congrArg (fun n => some (szR n left)) hz.symm))
theorem z86 (k : Nat) (x : List (Int × Int × Int)) (left : Int) (hr : rowsLe 140737488351232 (.l 202 s119) x) (hk : szT (.l 202 s119) x + 1 < k) (h0 : 0 ≤ left) (h1 : left ≤ 1048576) : F86 k x left = some (szR (szT (.l 202 s119) x) left) := by
  obtain ⟨k, rfl⟩ : ∃ q, k = q + 1 := ⟨k - 1, by omega⟩
  have hl : x.length ≤ 140737488351232 := (rowsLe_row hr).1
  have hz : szT (.l 202 s119) x = x.length := szT_row (e := 202) (sh := s119) rfl x
  exact (e86 k x left).trans ((sz_leaf hl h0 h1).trans (congrArg (fun n => some (szR n left)) hz.symm))
theorem z18 (k : Nat) (x : Int × (List (Int × Int × Int × Int)) × (List (Int × Int × Int)) × Int × Int × Int × Int × Int × (List (Int × Int × Int)) × Int) (left : Int) (hr : rowsLe 140737488351232 s25 x) (hk : szT s25 x + 2 < k) (h0 : 0 ≤ left) (h1 : left ≤ 1048576) : F18 k x left = some (szR (szT s25 x) left) := by
  obtain ⟨k, rfl⟩ : ∃ q, k = q + 1 := ⟨k - 1, by omega⟩
  have hk' : (szT (.i .i64) x.1 + (szT (.l 196 s83) x.2.1 + (szT (.l 198 s114) x.2.2.1 + (szT (.i .i64) x.2.2.2.1 + (szT (.i .i64) x.2.2.2.2.1 + (szT (.i .i64) x.2.2.2.2.2.1 + (szT (.i .i64) x.2.2.2.2.2.2.1 + (szT (.i .i64) x.2.2.2.2.2.2.2.1 + (szT (.l 202 s119) x.2.2.2.2.2.2.2.2.1 + szT (.i .i64) x.2.2.2.2.2.2.2.2.2))))))))) + 2 < k + 1 := hk
  obtain ⟨r0, r1, r2, r3, r4, r5, r6, r7, r8, r9⟩ : rowsLe 140737488351232 (.i .i64) x.1 ∧ rowsLe 140737488351232 (.l 196 s83) x.2.1 ∧ rowsLe 140737488351232 (.l 198 s114) x.2.2.1 ∧ rowsLe 140737488351232 (.i .i64) x.2.2.2.1 ∧ rowsLe 140737488351232 (.i .i64) x.2.2.2.2.1 ∧ rowsLe 140737488351232 (.i .i64) x.2.2.2.2.2.1 ∧ rowsLe 140737488351232 (.i .i64) x.2.2.2.2.2.2.1 ∧ rowsLe 140737488351232 (.i .i64) x.2.2.2.2.2.2.2.1 ∧ rowsLe 140737488351232 (.l 202 s119) x.2.2.2.2.2.2.2.2.1 ∧ rowsLe 140737488351232 (.i .i64) x.2.2.2.2.2.2.2.2.2 := hr
  have f0 : szT (.i .i64) x.1 = 0 := szT_flat _ _ rfl
  have f3 : szT (.i .i64) x.2.2.2.1 = 0 := szT_flat _ _ rfl
  have f4 : szT (.i .i64) x.2.2.2.2.1 = 0 := szT_flat _ _ rfl
  have f5 : szT (.i .i64) x.2.2.2.2.2.1 = 0 := szT_flat _ _ rfl
  have f6 : szT (.i .i64) x.2.2.2.2.2.2.1 = 0 := szT_flat _ _ rfl
  have f7 : szT (.i .i64) x.2.2.2.2.2.2.2.1 = 0 := szT_flat _ _ rfl
  have f9 : szT (.i .i64) x.2.2.2.2.2.2.2.2.2 = 0 := szT_flat _ _ rfl
  have ht : szT s25 x = szT (.l 196 s83) x.2.1 + (szT (.l 198 s114) x.2.2.1 + (szT (.l 202 s119) x.2.2.2.2.2.2.2.2.1 + 0)) := by
    show (szT (.i .i64) x.1 + (szT (.l 196 s83) x.2.1 + (szT (.l 198 s114) x.2.2.1 + (szT (.i .i64) x.2.2.2.1 + (szT (.i .i64) x.2.2.2.2.1 + (szT (.i .i64) x.2.2.2.2.2.1 + (szT (.i .i64) x.2.2.2.2.2.2.1 + (szT (.i .i64) x.2.2.2.2.2.2.2.1 + (szT (.l 202 s119) x.2.2.2.2.2.2.2.2.1 + szT (.i .i64) x.2.2.2.2.2.2.2.2.2))))))))) = _
    omega
  rw [e18, ht]
  exact sz_step (z84 k _ _ r1 (by omega) h0 h1) h0 h1 fun p1 q1 w1 => sz_step (z85 k _ _ r2 (by omega) q1 w1) q1 w1 fun p2 q2 w2 => sz_step (z86 k _ _ r8 (by omega) q2 w2) q2 w2 fun p3 q3 w3 => szR_zero q3
theorem z157 (k : Nat) (x : List (Int × Int)) (left : Int) (hr : rowsLe 140737488351232 (.l 230 s117) x) (hk : szT (.l 230 s117) x + 1 < k) (h0 : 0 ≤ left) (h1 : left ≤ 1048576) : F157 k x left = some (szR (szT (.l 230 s117) x) left) := by
  obtain ⟨k, rfl⟩ : ∃ q, k = q + 1 := ⟨k - 1, by omega⟩
  have hl : x.length ≤ 140737488351232 := (rowsLe_row hr).1
  have hz : szT (.l 230 s117) x = x.length := szT_row (e := 230) (sh := s117) rfl x
  exact (e157 k x left).trans ((sz_leaf hl h0 h1).trans (congrArg (fun n => some (szR n left)) hz.symm))
theorem z21 (k : Nat) (x : List Int) (left : Int) (hr : rowsLe 140737488351232 (.l 3 (.i .i64)) x) (hk : szT (.l 3 (.i .i64)) x + 1 < k) (h0 : 0 ≤ left) (h1 : left ≤ 1048576) : F21 k x left = some (szR (szT (.l 3 (.i .i64)) x) left) := by
  obtain ⟨k, rfl⟩ : ∃ q, k = q + 1 := ⟨k - 1, by omega⟩
  have hl : x.length ≤ 140737488351232 := (rowsLe_row hr).1
  have hz : szT (.l 3 (.i .i64)) x = x.length := szT_row (e := 3) (sh := (.i .i64)) rfl x
  exact (e21 k x left).trans ((sz_leaf hl h0 h1).trans (congrArg (fun n => some (szR n left)) hz.symm))
theorem z175 (k : Nat) (x : Int × (List Int) × List Int) (left : Int) (hr : rowsLe 140737488351232 s132 x) (hk : szT s132 x + 2 < k) (h0 : 0 ≤ left) (h1 : left ≤ 1048576) : F175 k x left = some (szR (szT s132 x) left) := by
  obtain ⟨k, rfl⟩ : ∃ q, k = q + 1 := ⟨k - 1, by omega⟩
  have hk' : (szT (.i .i64) x.1 + (szT (.l 3 (.i .i64)) x.2.1 + szT (.l 3 (.i .i64)) x.2.2)) + 2 < k + 1 := hk
  obtain ⟨r0, r1, r2⟩ : rowsLe 140737488351232 (.i .i64) x.1 ∧ rowsLe 140737488351232 (.l 3 (.i .i64)) x.2.1 ∧ rowsLe 140737488351232 (.l 3 (.i .i64)) x.2.2 := hr
  have f0 : szT (.i .i64) x.1 = 0 := szT_flat _ _ rfl
  have ht : szT s132 x = szT (.l 3 (.i .i64)) x.2.1 + (szT (.l 3 (.i .i64)) x.2.2 + 0) := by
    show (szT (.i .i64) x.1 + (szT (.l 3 (.i .i64)) x.2.1 + szT (.l 3 (.i .i64)) x.2.2)) = _
    omega
  rw [e175, ht]
  exact sz_step (z21 k _ _ r1 (by omega) h0 h1) h0 h1 fun p1 q1 w1 => sz_step (z21 k _ _ r2 (by omega) q1 w1) q1 w1 fun p2 q2 w2 => szR_zero q2
theorem z158 (k : Nat) (x : List (Int × (List Int) × List Int)) (left : Int) (hr : rowsLe 140737488351232 (.l 228 s132) x) (hk : szT (.l 228 s132) x + 3 < k) (h0 : 0 ≤ left) (h1 : left ≤ 1048576) : F158 k x left = some (szR (szT (.l 228 s132) x) left) := by
  obtain ⟨k, rfl⟩ : ∃ q, k = q + 1 := ⟨k - 1, by omega⟩
  obtain ⟨hl, hr⟩ : x.length ≤ 140737488351232 ∧ ∀ y ∈ x, rowsLe 140737488351232 s132 y := rowsLe_row hr
  have hk' : x.length + sumL (szT s132) x + 3 < k + 1 := hk
  have hw : 0 ≤ left - (x.length : Int) → IntKind.i64.wrap (left - (x.length : Int)) = left - x.length := fun _ => wrap_id (by omega) (by omega)
  refine (e158 k x left).trans (sz_rows (α := Int × (List Int) × List Int) (s := szT s132) hl h0 h1 fun hp => ?_)
  rw [hw hp]
  have := szS_loop2 (L := L158_0 k _ _ x) (f := fun y p => F175 k y p) (fun _ _ => rfl) (neg := some (-1)) (fin := fun p => some p) (fun _ _ _ => rfl) (fun _ => rfl) (s := szT s132) (a := x) (fun y hy p q0 q1 => z175 k y p (hr y hy) (by have := sumL_le (f := szT s132) hy; omega) q0 q1) hl x.length k 0 (left - x.length) (by omega) (by omega) (by omega) (by omega)
  exact this
theorem z135 (k : Nat) (x : (Int × Int) × (List (Int × Int)) × List (Int × (List Int) × List Int)) (left : Int) (hr : rowsLe 140737488351232 s193 x) (hk : szT s193 x + 4 < k) (h0 : 0 ≤ left) (h1 : left ≤ 1048576) : F135 k x left = some (szR (szT s193 x) left) := by
  obtain ⟨k, rfl⟩ : ∃ q, k = q + 1 := ⟨k - 1, by omega⟩
  have hk' : (szT s117 x.1 + (szT (.l 230 s117) x.2.1 + szT (.l 228 s132) x.2.2)) + 4 < k + 1 := hk
  obtain ⟨r0, r1, r2⟩ : rowsLe 140737488351232 s117 x.1 ∧ rowsLe 140737488351232 (.l 230 s117) x.2.1 ∧ rowsLe 140737488351232 (.l 228 s132) x.2.2 := hr
  have f0 : szT s117 x.1 = 0 := szT_flat _ _ rfl
  have ht : szT s193 x = szT (.l 230 s117) x.2.1 + (szT (.l 228 s132) x.2.2 + 0) := by
    show (szT s117 x.1 + (szT (.l 230 s117) x.2.1 + szT (.l 228 s132) x.2.2)) = _
    omega
  rw [e135, ht]
  exact sz_step (z157 k _ _ r1 (by omega) h0 h1) h0 h1 fun p1 q1 w1 => sz_step (z158 k _ _ r2 (by omega) q1 w1) q1 w1 fun p2 q2 w2 => szR_zero q2
theorem z87 (k : Nat) (x : List ((Int × Int) × (List (Int × Int)) × List (Int × (List Int) × List Int))) (left : Int) (hr : rowsLe 140737488351232 (.l 194 s193) x) (hk : szT (.l 194 s193) x + 5 < k) (h0 : 0 ≤ left) (h1 : left ≤ 1048576) : F87 k x left = some (szR (szT (.l 194 s193) x) left) := by
  obtain ⟨k, rfl⟩ : ∃ q, k = q + 1 := ⟨k - 1, by omega⟩
  obtain ⟨hl, hr⟩ : x.length ≤ 140737488351232 ∧ ∀ y ∈ x, rowsLe 140737488351232 s193 y := rowsLe_row hr
  have hk' : x.length + sumL (szT s193) x + 5 < k + 1 := hk
  have hw : 0 ≤ left - (x.length : Int) → IntKind.i64.wrap (left - (x.length : Int)) = left - x.length := fun _ => wrap_id (by omega) (by omega)
  refine (e87 k x left).trans (sz_rows (α := (Int × Int) × (List (Int × Int)) × List (Int × (List Int) × List Int)) (s := szT s193) hl h0 h1 fun hp => ?_)
  rw [hw hp]
  have := szS_loop2 (L := L87_0 k _ _ x) (f := fun y p => F135 k y p) (fun _ _ => rfl) (neg := some (-1)) (fin := fun p => some p) (fun _ _ _ => rfl) (fun _ => rfl) (s := szT s193) (a := x) (fun y hy p q0 q1 => z135 k y p (hr y hy) (by have := sumL_le (f := szT s193) hy; omega) q0 q1) hl x.length k 0 (left - x.length) (by omega) (by omega) (by omega) (by omega)
  exact this
theorem z19 (k : Nat) (x : Int × Int × Int × List ((Int × Int) × (List (Int × Int)) × List (Int × (List Int) × List Int))) (left : Int) (hr : rowsLe 140737488351232 s28 x) (hk : szT s28 x + 6 < k) (h0 : 0 ≤ left) (h1 : left ≤ 1048576) : F19 k x left = some (szR (szT s28 x) left) := by
  obtain ⟨k, rfl⟩ : ∃ q, k = q + 1 := ⟨k - 1, by omega⟩
  have hk' : (szT (.i .i64) x.1 + (szT (.i .i64) x.2.1 + (szT (.i .i64) x.2.2.1 + szT (.l 194 s193) x.2.2.2))) + 6 < k + 1 := hk
  obtain ⟨r0, r1, r2, r3⟩ : rowsLe 140737488351232 (.i .i64) x.1 ∧ rowsLe 140737488351232 (.i .i64) x.2.1 ∧ rowsLe 140737488351232 (.i .i64) x.2.2.1 ∧ rowsLe 140737488351232 (.l 194 s193) x.2.2.2 := hr
  have f0 : szT (.i .i64) x.1 = 0 := szT_flat _ _ rfl
  have f1 : szT (.i .i64) x.2.1 = 0 := szT_flat _ _ rfl
  have f2 : szT (.i .i64) x.2.2.1 = 0 := szT_flat _ _ rfl
  have ht : szT s28 x = szT (.l 194 s193) x.2.2.2 + 0 := by
    show (szT (.i .i64) x.1 + (szT (.i .i64) x.2.1 + (szT (.i .i64) x.2.2.1 + szT (.l 194 s193) x.2.2.2))) = _
    omega
  rw [e19, ht]
  exact sz_step (z87 k _ _ r3 (by omega) h0 h1) h0 h1 fun p1 q1 w1 => szR_zero q1
theorem z20 (k : Nat) (x : List Int) (left : Int) (hr : rowsLe 140737488351232 s31 x) (hk : szT s31 x + 2 < k) (h0 : 0 ≤ left) (h1 : left ≤ 1048576) : F20 k x left = some (szR (szT s31 x) left) := by
  obtain ⟨k, rfl⟩ : ∃ q, k = q + 1 := ⟨k - 1, by omega⟩
  have hk' : szT (.l 3 (.i .i64)) x + 2 < k + 1 := hk
  have r0 : rowsLe 140737488351232 (.l 3 (.i .i64)) x := hr
  have ht : szT s31 x = szT (.l 3 (.i .i64)) x + 0 := by
    show szT (.l 3 (.i .i64)) x = _
    omega
  rw [e20, ht]
  exact sz_step (z21 k _ _ r0 (by omega) h0 h1) h0 h1 fun p1 q1 w1 => szR_zero q1
theorem z22 (k : Nat) (x : List (Int × Int × Int × Int × Int × Int)) (left : Int) (hr : rowsLe 140737488351232 (.l 165 s78) x) (hk : szT (.l 165 s78) x + 1 < k) (h0 : 0 ≤ left) (h1 : left ≤ 1048576) : F22 k x left = some (szR (szT (.l 165 s78) x) left) := by
  obtain ⟨k, rfl⟩ : ∃ q, k = q + 1 := ⟨k - 1, by omega⟩
  have hl : x.length ≤ 140737488351232 := (rowsLe_row hr).1
  have hz : szT (.l 165 s78) x = x.length := szT_row (e := 165) (sh := s78) rfl x
  exact (e22 k x left).trans ((sz_leaf hl h0 h1).trans (congrArg (fun n => some (szR n left)) hz.symm))
theorem z27 (k : Nat) (x : List (Int × Int × Int × Int × Int × Int)) (left : Int) (hr : rowsLe 140737488351232 (.l 173 s78) x) (hk : szT (.l 173 s78) x + 1 < k) (h0 : 0 ≤ left) (h1 : left ≤ 1048576) : F27 k x left = some (szR (szT (.l 173 s78) x) left) := by
  obtain ⟨k, rfl⟩ : ∃ q, k = q + 1 := ⟨k - 1, by omega⟩
  have hl : x.length ≤ 140737488351232 := (rowsLe_row hr).1
  have hz : szT (.l 173 s78) x = x.length := szT_row (e := 173) (sh := s78) rfl x
  exact (e27 k x left).trans ((sz_leaf hl h0 h1).trans (congrArg (fun n => some (szR n left)) hz.symm))
theorem z88 (k : Nat) (x : List (Int × Int × Int × Int × Int × Int)) (left : Int) (hr : rowsLe 140737488351232 s153 x) (hk : szT s153 x + 2 < k) (h0 : 0 ≤ left) (h1 : left ≤ 1048576) : F88 k x left = some (szR (szT s153 x) left) := by
  obtain ⟨k, rfl⟩ : ∃ q, k = q + 1 := ⟨k - 1, by omega⟩
  have hk' : szT (.l 173 s78) x + 2 < k + 1 := hk
  have r0 : rowsLe 140737488351232 (.l 173 s78) x := hr
  have ht : szT s153 x = szT (.l 173 s78) x + 0 := by
    show szT (.l 173 s78) x = _
    omega
  rw [e88, ht]
  exact sz_step (z27 k _ _ r0 (by omega) h0 h1) h0 h1 fun p1 q1 w1 => szR_zero q1
theorem z23 (k : Nat) (x : List (List (Int × Int × Int × Int × Int × Int))) (left : Int) (hr : rowsLe 140737488351232 (.l 154 s153) x) (hk : szT (.l 154 s153) x + 3 < k) (h0 : 0 ≤ left) (h1 : left ≤ 1048576) : F23 k x left = some (szR (szT (.l 154 s153) x) left) := by
  obtain ⟨k, rfl⟩ : ∃ q, k = q + 1 := ⟨k - 1, by omega⟩
  obtain ⟨hl, hr⟩ : x.length ≤ 140737488351232 ∧ ∀ y ∈ x, rowsLe 140737488351232 s153 y := rowsLe_row hr
  have hk' : x.length + sumL (szT s153) x + 3 < k + 1 := hk
  have hw : 0 ≤ left - (x.length : Int) → IntKind.i64.wrap (left - (x.length : Int)) = left - x.length := fun _ => wrap_id (by omega) (by omega)
  refine (e23 k x left).trans (sz_rows (α := List (Int × Int × Int × Int × Int × Int)) (s := szT s153) hl h0 h1 fun hp => ?_)
  rw [hw hp]
  have := szS_loop2 (L := L23_0 k _ _ x) (f := fun y p => F88 k y p) (fun _ _ => rfl) (neg := some (-1)) (fin := fun p => some p) (fun _ _ _ => rfl) (fun _ => rfl) (s := szT s153) (a := x) (fun y hy p q0 q1 => z88 k y p (hr y hy) (by have := sumL_le (f := szT s153) hy; omega) q0 q1) hl x.length k 0 (left - x.length) (by omega) (by omega) (by omega) (by omega)
  exact this
theorem z24 (k : Nat) (x : List (Int × Int × Int × Int)) (left : Int) (hr : rowsLe 140737488351232 (.l 168 s83) x) (hk : szT (.l 168 s83) x + 1 < k) (h0 : 0 ≤ left) (h1 : left ≤ 1048576) : F24 k x left = some (szR (szT (.l 168 s83) x) left) := by
  obtain ⟨k, rfl⟩ : ∃ q, k = q + 1 := ⟨k - 1, by omega⟩
  have hl : x.length ≤ 140737488351232 := (rowsLe_row hr).1
  have hz : szT (.l 168 s83) x = x.length := szT_row (e := 168) (sh := s83) rfl x
  exact (e24 k x left).trans ((sz_leaf hl h0 h1).trans (congrArg (fun n => some (szR n left)) hz.symm))
theorem z89 (k : Nat) (x : Int × Int × List Int) (left : Int) (hr : rowsLe 140737488351232 s143 x) (hk : szT s143 x + 2 < k) (h0 : 0 ≤ left) (h1 : left ≤ 1048576) : F89 k x left = some (szR (szT s143 x) left) := by
  obtain ⟨k, rfl⟩ : ∃ q, k = q + 1 := ⟨k - 1, by omega⟩
  have hk' : (szT (.i .i64) x.1 + (szT (.i .i64) x.2.1 + szT (.l 3 (.i .i64)) x.2.2)) + 2 < k + 1 := hk
  obtain ⟨r0, r1, r2⟩ : rowsLe 140737488351232 (.i .i64) x.1 ∧ rowsLe 140737488351232 (.i .i64) x.2.1 ∧ rowsLe 140737488351232 (.l 3 (.i .i64)) x.2.2 := hr
  have f0 : szT (.i .i64) x.1 = 0 := szT_flat _ _ rfl
  have f1 : szT (.i .i64) x.2.1 = 0 := szT_flat _ _ rfl
  have ht : szT s143 x = szT (.l 3 (.i .i64)) x.2.2 + 0 := by
    show (szT (.i .i64) x.1 + (szT (.i .i64) x.2.1 + szT (.l 3 (.i .i64)) x.2.2)) = _
    omega
  rw [e89, ht]
  exact sz_step (z21 k _ _ r2 (by omega) h0 h1) h0 h1 fun p1 q1 w1 => szR_zero q1
theorem z25 (k : Nat) (x : List (Int × Int × List Int)) (left : Int) (hr : rowsLe 140737488351232 (.l 156 s143) x) (hk : szT (.l 156 s143) x + 3 < k) (h0 : 0 ≤ left) (h1 : left ≤ 1048576) : F25 k x left = some (szR (szT (.l 156 s143) x) left) := by
  obtain ⟨k, rfl⟩ : ∃ q, k = q + 1 := ⟨k - 1, by omega⟩
  obtain ⟨hl, hr⟩ : x.length ≤ 140737488351232 ∧ ∀ y ∈ x, rowsLe 140737488351232 s143 y := rowsLe_row hr
  have hk' : x.length + sumL (szT s143) x + 3 < k + 1 := hk
  have hw : 0 ≤ left - (x.length : Int) → IntKind.i64.wrap (left - (x.length : Int)) = left - x.length := fun _ => wrap_id (by omega) (by omega)
  refine (e25 k x left).trans (sz_rows (α := Int × Int × List Int) (s := szT s143) hl h0 h1 fun hp => ?_)
  rw [hw hp]
  have := szS_loop2 (L := L25_0 k _ _ x) (f := fun y p => F89 k y p) (fun _ _ => rfl) (neg := some (-1)) (fin := fun p => some p) (fun _ _ _ => rfl) (fun _ => rfl) (s := szT s143) (a := x) (fun y hy p q0 q1 => z89 k y p (hr y hy) (by have := sumL_le (f := szT s143) hy; omega) q0 q1) hl x.length k 0 (left - x.length) (by omega) (by omega) (by omega) (by omega)
  exact this
theorem z26 (k : Nat) (x : List (Int × Int × Int × Int)) (left : Int) (hr : rowsLe 140737488351232 (.l 171 s83) x) (hk : szT (.l 171 s83) x + 1 < k) (h0 : 0 ≤ left) (h1 : left ≤ 1048576) : F26 k x left = some (szR (szT (.l 171 s83) x) left) := by
  obtain ⟨k, rfl⟩ : ∃ q, k = q + 1 := ⟨k - 1, by omega⟩
  have hl : x.length ≤ 140737488351232 := (rowsLe_row hr).1
  have hz : szT (.l 171 s83) x = x.length := szT_row (e := 171) (sh := s83) rfl x
  exact (e26 k x left).trans ((sz_leaf hl h0 h1).trans (congrArg (fun n => some (szR n left)) hz.symm))
theorem z28 (k : Nat) (x : List (Int × Int × Int × Int)) (left : Int) (hr : rowsLe 140737488351232 (.l 175 s83) x) (hk : szT (.l 175 s83) x + 1 < k) (h0 : 0 ≤ left) (h1 : left ≤ 1048576) : F28 k x left = some (szR (szT (.l 175 s83) x) left) := by
  obtain ⟨k, rfl⟩ : ∃ q, k = q + 1 := ⟨k - 1, by omega⟩
  have hl : x.length ≤ 140737488351232 := (rowsLe_row hr).1
  have hz : szT (.l 175 s83) x = x.length := szT_row (e := 175) (sh := s83) rfl x
  exact (e28 k x left).trans ((sz_leaf hl h0 h1).trans (congrArg (fun n => some (szR n left)) hz.symm))
theorem z7 (k : Nat) (x : (Int × (List (Int × Int × Int × Int)) × (List (Int × Int × Int)) × Int × Int × Int × Int × Int × (List (Int × Int × Int)) × Int) × (Int × Int × Int × List ((Int × Int) × (List (Int × Int)) × List (Int × (List Int) × List Int))) × (List Int) × (List Int) × (List (Int × Int × Int × Int × Int × Int)) × (List (List (Int × Int × Int × Int × Int × Int))) × (List (Int × Int × Int × Int)) × (List Int) × (List (Int × Int × List Int)) × (List (Int × Int × Int × Int)) × Int × Int × (List (Int × Int × Int × Int × Int × Int)) × List (Int × Int × Int × Int)) (left : Int) (hr : rowsLe 140737488351232 s40 x) (hk : szT s40 x + 7 < k) (h0 : 0 ≤ left) (h1 : left ≤ 1048576) : F7 k x left = some (szR (szT s40 x) left) := by
  obtain ⟨k, rfl⟩ : ∃ q, k = q + 1 := ⟨k - 1, by omega⟩
  have hk' : (szT s25 x.1 + (szT s28 x.2.1 + (szT s31 x.2.2.1 + (szT (.l 3 (.i .i64)) x.2.2.2.1 + (szT (.l 165 s78) x.2.2.2.2.1 + (szT (.l 154 s153) x.2.2.2.2.2.1 + (szT (.l 168 s83) x.2.2.2.2.2.2.1 + (szT (.l 3 (.i .i64)) x.2.2.2.2.2.2.2.1 + (szT (.l 156 s143) x.2.2.2.2.2.2.2.2.1 + (szT (.l 171 s83) x.2.2.2.2.2.2.2.2.2.1 + (szT (.i .i64) x.2.2.2.2.2.2.2.2.2.2.1 + (szT (.i .i64) x.2.2.2.2.2.2.2.2.2.2.2.1 + (szT (.l 173 s78) x.2.2.2.2.2.2.2.2.2.2.2.2.1 + szT (.l 175 s83) x.2.2.2.2.2.2.2.2.2.2.2.2.2))))))))))))) + 7 < k + 1 := hk
  obtain ⟨r0, r1, r2, r3, r4, r5, r6, r7, r8, r9, r10, r11, r12, r13⟩ : rowsLe 140737488351232 s25 x.1 ∧ rowsLe 140737488351232 s28 x.2.1 ∧ rowsLe 140737488351232 s31 x.2.2.1 ∧ rowsLe 140737488351232 (.l 3 (.i .i64)) x.2.2.2.1 ∧ rowsLe 140737488351232 (.l 165 s78) x.2.2.2.2.1 ∧ rowsLe 140737488351232 (.l 154 s153) x.2.2.2.2.2.1 ∧ rowsLe 140737488351232 (.l 168 s83) x.2.2.2.2.2.2.1 ∧ rowsLe 140737488351232 (.l 3 (.i .i64)) x.2.2.2.2.2.2.2.1 ∧ rowsLe 140737488351232 (.l 156 s143) x.2.2.2.2.2.2.2.2.1 ∧ rowsLe 140737488351232 (.l 171 s83) x.2.2.2.2.2.2.2.2.2.1 ∧ rowsLe 140737488351232 (.i .i64) x.2.2.2.2.2.2.2.2.2.2.1 ∧ rowsLe 140737488351232 (.i .i64) x.2.2.2.2.2.2.2.2.2.2.2.1 ∧ rowsLe 140737488351232 (.l 173 s78) x.2.2.2.2.2.2.2.2.2.2.2.2.1 ∧ rowsLe 140737488351232 (.l 175 s83) x.2.2.2.2.2.2.2.2.2.2.2.2.2 := hr
  have f10 : szT (.i .i64) x.2.2.2.2.2.2.2.2.2.2.1 = 0 := szT_flat _ _ rfl
  have f11 : szT (.i .i64) x.2.2.2.2.2.2.2.2.2.2.2.1 = 0 := szT_flat _ _ rfl
  have ht : szT s40 x = szT s25 x.1 + (szT s28 x.2.1 + (szT s31 x.2.2.1 + (szT (.l 3 (.i .i64)) x.2.2.2.1 + (szT (.l 165 s78) x.2.2.2.2.1 + (szT (.l 154 s153) x.2.2.2.2.2.1 + (szT (.l 168 s83) x.2.2.2.2.2.2.1 + (szT (.l 3 (.i .i64)) x.2.2.2.2.2.2.2.1 + (szT (.l 156 s143) x.2.2.2.2.2.2.2.2.1 + (szT (.l 171 s83) x.2.2.2.2.2.2.2.2.2.1 + (szT (.l 173 s78) x.2.2.2.2.2.2.2.2.2.2.2.2.1 + (szT (.l 175 s83) x.2.2.2.2.2.2.2.2.2.2.2.2.2 + 0))))))))))) := by
    show (szT s25 x.1 + (szT s28 x.2.1 + (szT s31 x.2.2.1 + (szT (.l 3 (.i .i64)) x.2.2.2.1 + (szT (.l 165 s78) x.2.2.2.2.1 + (szT (.l 154 s153) x.2.2.2.2.2.1 + (szT (.l 168 s83) x.2.2.2.2.2.2.1 + (szT (.l 3 (.i .i64)) x.2.2.2.2.2.2.2.1 + (szT (.l 156 s143) x.2.2.2.2.2.2.2.2.1 + (szT (.l 171 s83) x.2.2.2.2.2.2.2.2.2.1 + (szT (.i .i64) x.2.2.2.2.2.2.2.2.2.2.1 + (szT (.i .i64) x.2.2.2.2.2.2.2.2.2.2.2.1 + (szT (.l 173 s78) x.2.2.2.2.2.2.2.2.2.2.2.2.1 + szT (.l 175 s83) x.2.2.2.2.2.2.2.2.2.2.2.2.2))))))))))))) = _
    omega
  rw [e7, ht]
  exact sz_step (z18 k _ _ r0 (by omega) h0 h1) h0 h1 fun p1 q1 w1 => sz_step (z19 k _ _ r1 (by omega) q1 w1) q1 w1 fun p2 q2 w2 => sz_step (z20 k _ _ r2 (by omega) q2 w2) q2 w2 fun p3 q3 w3 => sz_step (z21 k _ _ r3 (by omega) q3 w3) q3 w3 fun p4 q4 w4 => sz_step (z22 k _ _ r4 (by omega) q4 w4) q4 w4 fun p5 q5 w5 => sz_step (z23 k _ _ r5 (by omega) q5 w5) q5 w5 fun p6 q6 w6 => sz_step (z24 k _ _ r6 (by omega) q6 w6) q6 w6 fun p7 q7 w7 => sz_step (z21 k _ _ r7 (by omega) q7 w7) q7 w7 fun p8 q8 w8 => sz_step (z25 k _ _ r8 (by omega) q8 w8) q8 w8 fun p9 q9 w9 => sz_step (z26 k _ _ r9 (by omega) q9 w9) q9 w9 fun p10 q10 w10 => sz_step (z27 k _ _ r12 (by omega) q10 w10) q10 w10 fun p11 q11 w11 => sz_step (z28 k _ _ r13 (by omega) q11 w11) q11 w11 fun p12 q12 w12 => szR_zero q12
theorem t136 (k : Nat) (x : Int × Int × Int × Int) (hz : szT s83 x ≤ 1048576) (hk : szT s83 x + 1 < k) : F136 k x = some x := by
  obtain ⟨k, rfl⟩ : ∃ q, k = q + 1 := ⟨k - 1, by omega⟩
  have hk' : (szT (.i .i64) x.1 + (szT (.i .i64) x.2.1 + (szT (.i .i64) x.2.2.1 + szT (.i .i64) x.2.2.2))) + 1 < k + 1 := hk
  have hz' : (szT (.i .i64) x.1 + (szT (.i .i64) x.2.1 + (szT (.i .i64) x.2.2.1 + szT (.i .i64) x.2.2.2))) ≤ 1048576 := hz
  exact e136 k x
theorem t93 (k : Nat) (x : List (Int × Int × Int × Int)) (hz : szT (.l 196 s83) x ≤ 1048576) (hk : szT (.l 196 s83) x + 2 < k) : F93 k x = some x := by
  obtain ⟨k, rfl⟩ : ∃ q, k = q + 1 := ⟨k - 1, by omega⟩
  have hk' : x.length + sumL (szT s83) x + 2 < k + 1 := hk
  have hz' : x.length + sumL (szT s83) x ≤ 1048576 := hz
  refine (e93 k x).trans ?_
  rw [if_pos rfl, if_pos (by omega), if_pos (by simp; omega)]
  exact toS_loop2 (α := Int × Int × Int × Int) (L := L93_0 k _ x) (f := fun y => F136 k y) (fun _ _ => rfl) (a := x) (fun y hy => t136 k y (by have := sumL_le (f := szT s83) hy; omega) (by have := sumL_le (f := szT s83) hy; omega)) (by omega) x.length k 0 _ (by omega) (by omega) (by simp) (by simp)
theorem t137 (k : Nat) (x : Int × Int × Int) (hz : szT s114 x ≤ 1048576) (hk : szT s114 x + 1 < k) : F137 k x = some x := by
  obtain ⟨k, rfl⟩ : ∃ q, k = q + 1 := ⟨k - 1, by omega⟩
  have hk' : (szT (.i .i64) x.1 + (szT (.i .i64) x.2.1 + szT (.i .i64) x.2.2)) + 1 < k + 1 := hk
  have hz' : (szT (.i .i64) x.1 + (szT (.i .i64) x.2.1 + szT (.i .i64) x.2.2)) ≤ 1048576 := hz
  exact e137 k x
theorem t94 (k : Nat) (x : List (Int × Int × Int)) (hz : szT (.l 198 s114) x ≤ 1048576) (hk : szT (.l 198 s114) x + 2 < k) : F94 k x = some x := by
  obtain ⟨k, rfl⟩ : ∃ q, k = q + 1 := ⟨k - 1, by omega⟩
  have hk' : x.length + sumL (szT s114) x + 2 < k + 1 := hk
  have hz' : x.length + sumL (szT s114) x ≤ 1048576 := hz
  refine (e94 k x).trans ?_
  rw [if_pos rfl, if_pos (by omega), if_pos (by simp; omega)]
  exact toS_loop2 (α := Int × Int × Int) (L := L94_0 k _ x) (f := fun y => F137 k y) (fun _ _ => rfl) (a := x) (fun y hy => t137 k y (by have := sumL_le (f := szT s114) hy; omega) (by have := sumL_le (f := szT s114) hy; omega)) (by omega) x.length k 0 _ (by omega) (by omega) (by simp) (by simp)
theorem t159 (k : Nat) (x : Int × Int) (hz : szT s117 x ≤ 1048576) (hk : szT s117 x + 1 < k) : F159 k x = some x := by
  obtain ⟨k, rfl⟩ : ∃ q, k = q + 1 := ⟨k - 1, by omega⟩
  have hk' : (szT (.i .i64) x.1 + szT (.i .i64) x.2) + 1 < k + 1 := hk
  have hz' : (szT (.i .i64) x.1 + szT (.i .i64) x.2) ≤ 1048576 := hz
  exact e159 k x
theorem t138 (k : Nat) (x : Int × Int × Int) (hz : szT s119 x ≤ 1048576) (hk : szT s119 x + 2 < k) : F138 k x = some x := by
  obtain ⟨k, rfl⟩ : ∃ q, k = q + 1 := ⟨k - 1, by omega⟩
  have hk' : (szT (.i .i64) x.1 + szT s117 x.2) + 2 < k + 1 := hk
  have hz' : (szT (.i .i64) x.1 + szT s117 x.2) ≤ 1048576 := hz
  have g0 : F159 k x.2 = some x.2 := t159 k x.2 (by omega) (by omega)
  refine (e138 k x).trans ?_
  simp only [g0, Option.bind_some, bne_self_eq_false, beq_self_eq_true, Bool.not_true, Bool.false_eq_true, if_false]
theorem t95 (k : Nat) (x : List (Int × Int × Int)) (hz : szT (.l 202 s119) x ≤ 1048576) (hk : szT (.l 202 s119) x + 3 < k) : F95 k x = some x := by
  obtain ⟨k, rfl⟩ : ∃ q, k = q + 1 := ⟨k - 1, by omega⟩
  have hk' : x.length + sumL (szT s119) x + 3 < k + 1 := hk
  have hz' : x.length + sumL (szT s119) x ≤ 1048576 := hz
  refine (e95 k x).trans ?_
  rw [if_pos rfl, if_pos (by omega), if_pos (by simp; omega)]
  exact toS_loop2 (α := Int × Int × Int) (L := L95_0 k _ x) (f := fun y => F138 k y) (fun _ _ => rfl) (a := x) (fun y hy => t138 k y (by have := sumL_le (f := szT s119) hy; omega) (by have := sumL_le (f := szT s119) hy; omega)) (by omega) x.length k 0 _ (by omega) (by omega) (by simp) (by simp)
theorem t31 (k : Nat) (x : Int × (List (Int × Int × Int × Int)) × (List (Int × Int × Int)) × Int × Int × Int × Int × Int × (List (Int × Int × Int)) × Int) (hz : szT s25 x ≤ 1048576) (hk : szT s25 x + 4 < k) : F31 k x = some x := by
  obtain ⟨k, rfl⟩ : ∃ q, k = q + 1 := ⟨k - 1, by omega⟩
  have hk' : (szT (.i .i64) x.1 + (szT (.l 196 s83) x.2.1 + (szT (.l 198 s114) x.2.2.1 + (szT (.i .i64) x.2.2.2.1 + (szT (.i .i64) x.2.2.2.2.1 + (szT (.i .i64) x.2.2.2.2.2.1 + (szT (.i .i64) x.2.2.2.2.2.2.1 + (szT (.i .i64) x.2.2.2.2.2.2.2.1 + (szT (.l 202 s119) x.2.2.2.2.2.2.2.2.1 + szT (.i .i64) x.2.2.2.2.2.2.2.2.2))))))))) + 4 < k + 1 := hk
  have hz' : (szT (.i .i64) x.1 + (szT (.l 196 s83) x.2.1 + (szT (.l 198 s114) x.2.2.1 + (szT (.i .i64) x.2.2.2.1 + (szT (.i .i64) x.2.2.2.2.1 + (szT (.i .i64) x.2.2.2.2.2.1 + (szT (.i .i64) x.2.2.2.2.2.2.1 + (szT (.i .i64) x.2.2.2.2.2.2.2.1 + (szT (.l 202 s119) x.2.2.2.2.2.2.2.2.1 + szT (.i .i64) x.2.2.2.2.2.2.2.2.2))))))))) ≤ 1048576 := hz
  have g0 : F93 k x.2.1 = some x.2.1 := t93 k x.2.1 (by omega) (by omega)
  have g1 : F94 k x.2.2.1 = some x.2.2.1 := t94 k x.2.2.1 (by omega) (by omega)
  have g2 : F95 k x.2.2.2.2.2.2.2.2.1 = some x.2.2.2.2.2.2.2.2.1 := t95 k x.2.2.2.2.2.2.2.2.1 (by omega) (by omega)
  refine (e31 k x).trans ?_
  simp only [g0, g1, g2, Option.bind_some, bne_self_eq_false, beq_self_eq_true, Bool.not_true, Bool.false_eq_true, if_false]
theorem t160 (k : Nat) (x : Int × Int) (hz : szT s117 x ≤ 1048576) (hk : szT s117 x + 1 < k) : F160 k x = some x := by
  obtain ⟨k, rfl⟩ : ∃ q, k = q + 1 := ⟨k - 1, by omega⟩
  have hk' : (szT (.i .i64) x.1 + szT (.i .i64) x.2) + 1 < k + 1 := hk
  have hz' : (szT (.i .i64) x.1 + szT (.i .i64) x.2) ≤ 1048576 := hz
  exact e160 k x
theorem t176 (k : Nat) (x : Int × Int) (hz : szT s117 x ≤ 1048576) (hk : szT s117 x + 1 < k) : F176 k x = some x := by
  obtain ⟨k, rfl⟩ : ∃ q, k = q + 1 := ⟨k - 1, by omega⟩
  have hk' : (szT (.i .i64) x.1 + szT (.i .i64) x.2) + 1 < k + 1 := hk
  have hz' : (szT (.i .i64) x.1 + szT (.i .i64) x.2) ≤ 1048576 := hz
  exact e176 k x
theorem t161 (k : Nat) (x : List (Int × Int)) (hz : szT (.l 230 s117) x ≤ 1048576) (hk : szT (.l 230 s117) x + 2 < k) : F161 k x = some x := by
  obtain ⟨k, rfl⟩ : ∃ q, k = q + 1 := ⟨k - 1, by omega⟩
  have hk' : x.length + sumL (szT s117) x + 2 < k + 1 := hk
  have hz' : x.length + sumL (szT s117) x ≤ 1048576 := hz
  refine (e161 k x).trans ?_
  rw [if_pos rfl, if_pos (by omega), if_pos (by simp; omega)]
  exact toS_loop2 (α := Int × Int) (L := L161_0 k _ x) (f := fun y => F176 k y) (fun _ _ => rfl) (a := x) (fun y hy => t176 k y (by have := sumL_le (f := szT s117) hy; omega) (by have := sumL_le (f := szT s117) hy; omega)) (by omega) x.length k 0 _ (by omega) (by omega) (by simp) (by simp)
theorem t34 (k : Nat) (x : List Int) (hz : szT (.l 3 (.i .i64)) x ≤ 1048576) (hk : szT (.l 3 (.i .i64)) x + 1 < k) : F34 k x = some x := by
  obtain ⟨k, rfl⟩ : ∃ q, k = q + 1 := ⟨k - 1, by omega⟩
  have hk' : x.length + sumL (szT (.i .i64)) x + 1 < k + 1 := hk
  have hz' : x.length + sumL (szT (.i .i64)) x ≤ 1048576 := hz
  refine (e34 k x).trans ?_
  rw [if_pos rfl, if_pos (by omega), if_pos (by simp; omega)]
  exact toS_loop2 (α := Int) (L := L34_0 k _ x) (f := fun y => some y) (fun _ _ => rfl) (a := x) (fun _ _ => rfl) (by omega) x.length k 0 _ (by omega) (by omega) (by simp) (by simp)
theorem t177 (k : Nat) (x : Int × (List Int) × List Int) (hz : szT s132 x ≤ 1048576) (hk : szT s132 x + 2 < k) : F177 k x = some x := by
  obtain ⟨k, rfl⟩ : ∃ q, k = q + 1 := ⟨k - 1, by omega⟩
  have hk' : (szT (.i .i64) x.1 + (szT (.l 3 (.i .i64)) x.2.1 + szT (.l 3 (.i .i64)) x.2.2)) + 2 < k + 1 := hk
  have hz' : (szT (.i .i64) x.1 + (szT (.l 3 (.i .i64)) x.2.1 + szT (.l 3 (.i .i64)) x.2.2)) ≤ 1048576 := hz
  have g0 : F34 k x.2.1 = some x.2.1 := t34 k x.2.1 (by omega) (by omega)
  have g1 : F34 k x.2.2 = some x.2.2 := t34 k x.2.2 (by omega) (by omega)
  refine (e177 k x).trans ?_
  simp only [g0, g1, Option.bind_some, bne_self_eq_false, beq_self_eq_true, Bool.not_true, Bool.false_eq_true, if_false]
theorem t162 (k : Nat) (x : List (Int × (List Int) × List Int)) (hz : szT (.l 228 s132) x ≤ 1048576) (hk : szT (.l 228 s132) x + 3 < k) : F162 k x = some x := by
  obtain ⟨k, rfl⟩ : ∃ q, k = q + 1 := ⟨k - 1, by omega⟩
  have hk' : x.length + sumL (szT s132) x + 3 < k + 1 := hk
  have hz' : x.length + sumL (szT s132) x ≤ 1048576 := hz
  refine (e162 k x).trans ?_
  rw [if_pos rfl, if_pos (by omega), if_pos (by simp; omega)]
  exact toS_loop2 (α := Int × (List Int) × List Int) (L := L162_0 k _ x) (f := fun y => F177 k y) (fun _ _ => rfl) (a := x) (fun y hy => t177 k y (by have := sumL_le (f := szT s132) hy; omega) (by have := sumL_le (f := szT s132) hy; omega)) (by omega) x.length k 0 _ (by omega) (by omega) (by simp) (by simp)
theorem t139 (k : Nat) (x : (Int × Int) × (List (Int × Int)) × List (Int × (List Int) × List Int)) (hz : szT s193 x ≤ 1048576) (hk : szT s193 x + 4 < k) : F139 k x = some x := by
  obtain ⟨k, rfl⟩ : ∃ q, k = q + 1 := ⟨k - 1, by omega⟩
  have hk' : (szT s117 x.1 + (szT (.l 230 s117) x.2.1 + szT (.l 228 s132) x.2.2)) + 4 < k + 1 := hk
  have hz' : (szT s117 x.1 + (szT (.l 230 s117) x.2.1 + szT (.l 228 s132) x.2.2)) ≤ 1048576 := hz
  have g0 : F160 k x.1 = some x.1 := t160 k x.1 (by omega) (by omega)
  have g1 : F161 k x.2.1 = some x.2.1 := t161 k x.2.1 (by omega) (by omega)
  have g2 : F162 k x.2.2 = some x.2.2 := t162 k x.2.2 (by omega) (by omega)
  refine (e139 k x).trans ?_
  simp only [g0, g1, g2, Option.bind_some, bne_self_eq_false, beq_self_eq_true, Bool.not_true, Bool.false_eq_true, if_false]
theorem t96 (k : Nat) (x : List ((Int × Int) × (List (Int × Int)) × List (Int × (List Int) × List Int))) (hz : szT (.l 194 s193) x ≤ 1048576) (hk : szT (.l 194 s193) x + 5 < k) : F96 k x = some x := by
  obtain ⟨k, rfl⟩ : ∃ q, k = q + 1 := ⟨k - 1, by omega⟩
  have hk' : x.length + sumL (szT s193) x + 5 < k + 1 := hk
  have hz' : x.length + sumL (szT s193) x ≤ 1048576 := hz
  refine (e96 k x).trans ?_
  rw [if_pos rfl, if_pos (by omega), if_pos (by simp; omega)]
  exact toS_loop2 (α := (Int × Int) × (List (Int × Int)) × List (Int × (List Int) × List Int)) (L := L96_0 k _ x) (f := fun y => F139 k y) (fun _ _ => rfl) (a := x) (fun y hy => t139 k y (by have := sumL_le (f := szT s193) hy; omega) (by have := sumL_le (f := szT s193) hy; omega)) (by omega) x.length k 0 _ (by omega) (by omega) (by simp) (by simp)
theorem t32 (k : Nat) (x : Int × Int × Int × List ((Int × Int) × (List (Int × Int)) × List (Int × (List Int) × List Int))) (hz : szT s28 x ≤ 1048576) (hk : szT s28 x + 6 < k) : F32 k x = some x := by
  obtain ⟨k, rfl⟩ : ∃ q, k = q + 1 := ⟨k - 1, by omega⟩
  have hk' : (szT (.i .i64) x.1 + (szT (.i .i64) x.2.1 + (szT (.i .i64) x.2.2.1 + szT (.l 194 s193) x.2.2.2))) + 6 < k + 1 := hk
  have hz' : (szT (.i .i64) x.1 + (szT (.i .i64) x.2.1 + (szT (.i .i64) x.2.2.1 + szT (.l 194 s193) x.2.2.2))) ≤ 1048576 := hz
  have g0 : F96 k x.2.2.2 = some x.2.2.2 := t96 k x.2.2.2 (by omega) (by omega)
  refine (e32 k x).trans ?_
  simp only [g0, Option.bind_some, bne_self_eq_false, beq_self_eq_true, Bool.not_true, Bool.false_eq_true, if_false]
theorem t33 (k : Nat) (x : List Int) (hz : szT s31 x ≤ 1048576) (hk : szT s31 x + 2 < k) : F33 k x = some x := by
  obtain ⟨k, rfl⟩ : ∃ q, k = q + 1 := ⟨k - 1, by omega⟩
  have hk' : szT (.l 3 (.i .i64)) x + 2 < k + 1 := hk
  have hz' : szT (.l 3 (.i .i64)) x ≤ 1048576 := hz
  have g0 : F34 k x = some x := t34 k x (by omega) (by omega)
  refine (e33 k x).trans ?_
  simp only [g0, Option.bind_some, bne_self_eq_false, beq_self_eq_true, Bool.not_true, Bool.false_eq_true, if_false]
theorem t97 (k : Nat) (x : Int × Int × Int × Int × Int × Int) (hz : szT s78 x ≤ 1048576) (hk : szT s78 x + 1 < k) : F97 k x = some x := by
  obtain ⟨k, rfl⟩ : ∃ q, k = q + 1 := ⟨k - 1, by omega⟩
  have hk' : (szT (.i .i64) x.1 + (szT (.i .i64) x.2.1 + (szT (.i .i64) x.2.2.1 + (szT (.i .i64) x.2.2.2.1 + (szT (.i .i64) x.2.2.2.2.1 + szT (.i .i64) x.2.2.2.2.2))))) + 1 < k + 1 := hk
  have hz' : (szT (.i .i64) x.1 + (szT (.i .i64) x.2.1 + (szT (.i .i64) x.2.2.1 + (szT (.i .i64) x.2.2.2.1 + (szT (.i .i64) x.2.2.2.2.1 + szT (.i .i64) x.2.2.2.2.2))))) ≤ 1048576 := hz
  exact e97 k x
theorem t35 (k : Nat) (x : List (Int × Int × Int × Int × Int × Int)) (hz : szT (.l 165 s78) x ≤ 1048576) (hk : szT (.l 165 s78) x + 2 < k) : F35 k x = some x := by
  obtain ⟨k, rfl⟩ : ∃ q, k = q + 1 := ⟨k - 1, by omega⟩
  have hk' : x.length + sumL (szT s78) x + 2 < k + 1 := hk
  have hz' : x.length + sumL (szT s78) x ≤ 1048576 := hz
  refine (e35 k x).trans ?_
  rw [if_pos rfl, if_pos (by omega), if_pos (by simp; omega)]
  exact toS_loop2 (α := Int × Int × Int × Int × Int × Int) (L := L35_0 k _ x) (f := fun y => F97 k y) (fun _ _ => rfl) (a := x) (fun y hy => t97 k y (by have := sumL_le (f := szT s78) hy; omega) (by have := sumL_le (f := szT s78) hy; omega)) (by omega) x.length k 0 _ (by omega) (by omega) (by simp) (by simp)
theorem t102 (k : Nat) (x : Int × Int × Int × Int × Int × Int) (hz : szT s78 x ≤ 1048576) (hk : szT s78 x + 1 < k) : F102 k x = some x := by
  obtain ⟨k, rfl⟩ : ∃ q, k = q + 1 := ⟨k - 1, by omega⟩
  have hk' : (szT (.i .i64) x.1 + (szT (.i .i64) x.2.1 + (szT (.i .i64) x.2.2.1 + (szT (.i .i64) x.2.2.2.1 + (szT (.i .i64) x.2.2.2.2.1 + szT (.i .i64) x.2.2.2.2.2))))) + 1 < k + 1 := hk
  have hz' : (szT (.i .i64) x.1 + (szT (.i .i64) x.2.1 + (szT (.i .i64) x.2.2.1 + (szT (.i .i64) x.2.2.2.1 + (szT (.i .i64) x.2.2.2.2.1 + szT (.i .i64) x.2.2.2.2.2))))) ≤ 1048576 := hz
  exact e102 k x
theorem t40 (k : Nat) (x : List (Int × Int × Int × Int × Int × Int)) (hz : szT (.l 173 s78) x ≤ 1048576) (hk : szT (.l 173 s78) x + 2 < k) : F40 k x = some x := by
  obtain ⟨k, rfl⟩ : ∃ q, k = q + 1 := ⟨k - 1, by omega⟩
  have hk' : x.length + sumL (szT s78) x + 2 < k + 1 := hk
  have hz' : x.length + sumL (szT s78) x ≤ 1048576 := hz
  refine (e40 k x).trans ?_
  rw [if_pos rfl, if_pos (by omega), if_pos (by simp; omega)]
  exact toS_loop2 (α := Int × Int × Int × Int × Int × Int) (L := L40_0 k _ x) (f := fun y => F102 k y) (fun _ _ => rfl) (a := x) (fun y hy => t102 k y (by have := sumL_le (f := szT s78) hy; omega) (by have := sumL_le (f := szT s78) hy; omega)) (by omega) x.length k 0 _ (by omega) (by omega) (by simp) (by simp)
theorem t98 (k : Nat) (x : List (Int × Int × Int × Int × Int × Int)) (hz : szT s153 x ≤ 1048576) (hk : szT s153 x + 3 < k) : F98 k x = some x := by
  obtain ⟨k, rfl⟩ : ∃ q, k = q + 1 := ⟨k - 1, by omega⟩
  have hk' : szT (.l 173 s78) x + 3 < k + 1 := hk
  have hz' : szT (.l 173 s78) x ≤ 1048576 := hz
  have g0 : F40 k x = some x := t40 k x (by omega) (by omega)
  refine (e98 k x).trans ?_
  simp only [g0, Option.bind_some, bne_self_eq_false, beq_self_eq_true, Bool.not_true, Bool.false_eq_true, if_false]
theorem t36 (k : Nat) (x : List (List (Int × Int × Int × Int × Int × Int))) (hz : szT (.l 154 s153) x ≤ 1048576) (hk : szT (.l 154 s153) x + 4 < k) : F36 k x = some x := by
  obtain ⟨k, rfl⟩ : ∃ q, k = q + 1 := ⟨k - 1, by omega⟩
  have hk' : x.length + sumL (szT s153) x + 4 < k + 1 := hk
  have hz' : x.length + sumL (szT s153) x ≤ 1048576 := hz
  refine (e36 k x).trans ?_
  rw [if_pos rfl, if_pos (by omega), if_pos (by simp; omega)]
  exact toS_loop2 (α := List (Int × Int × Int × Int × Int × Int)) (L := L36_0 k _ x) (f := fun y => F98 k y) (fun _ _ => rfl) (a := x) (fun y hy => t98 k y (by have := sumL_le (f := szT s153) hy; omega) (by have := sumL_le (f := szT s153) hy; omega)) (by omega) x.length k 0 _ (by omega) (by omega) (by simp) (by simp)
theorem t99 (k : Nat) (x : Int × Int × Int × Int) (hz : szT s83 x ≤ 1048576) (hk : szT s83 x + 1 < k) : F99 k x = some x := by
  obtain ⟨k, rfl⟩ : ∃ q, k = q + 1 := ⟨k - 1, by omega⟩
  have hk' : (szT (.i .i64) x.1 + (szT (.i .i64) x.2.1 + (szT (.i .i64) x.2.2.1 + szT (.i .i64) x.2.2.2))) + 1 < k + 1 := hk
  have hz' : (szT (.i .i64) x.1 + (szT (.i .i64) x.2.1 + (szT (.i .i64) x.2.2.1 + szT (.i .i64) x.2.2.2))) ≤ 1048576 := hz
  exact e99 k x
theorem t37 (k : Nat) (x : List (Int × Int × Int × Int)) (hz : szT (.l 168 s83) x ≤ 1048576) (hk : szT (.l 168 s83) x + 2 < k) : F37 k x = some x := by
  obtain ⟨k, rfl⟩ : ∃ q, k = q + 1 := ⟨k - 1, by omega⟩
  have hk' : x.length + sumL (szT s83) x + 2 < k + 1 := hk
  have hz' : x.length + sumL (szT s83) x ≤ 1048576 := hz
  refine (e37 k x).trans ?_
  rw [if_pos rfl, if_pos (by omega), if_pos (by simp; omega)]
  exact toS_loop2 (α := Int × Int × Int × Int) (L := L37_0 k _ x) (f := fun y => F99 k y) (fun _ _ => rfl) (a := x) (fun y hy => t99 k y (by have := sumL_le (f := szT s83) hy; omega) (by have := sumL_le (f := szT s83) hy; omega)) (by omega) x.length k 0 _ (by omega) (by omega) (by simp) (by simp)
theorem t100 (k : Nat) (x : Int × Int × List Int) (hz : szT s143 x ≤ 1048576) (hk : szT s143 x + 2 < k) : F100 k x = some x := by
  obtain ⟨k, rfl⟩ : ∃ q, k = q + 1 := ⟨k - 1, by omega⟩
  have hk' : (szT (.i .i64) x.1 + (szT (.i .i64) x.2.1 + szT (.l 3 (.i .i64)) x.2.2)) + 2 < k + 1 := hk
  have hz' : (szT (.i .i64) x.1 + (szT (.i .i64) x.2.1 + szT (.l 3 (.i .i64)) x.2.2)) ≤ 1048576 := hz
  have g0 : F34 k x.2.2 = some x.2.2 := t34 k x.2.2 (by omega) (by omega)
  refine (e100 k x).trans ?_
  simp only [g0, Option.bind_some, bne_self_eq_false, beq_self_eq_true, Bool.not_true, Bool.false_eq_true, if_false]
theorem t38 (k : Nat) (x : List (Int × Int × List Int)) (hz : szT (.l 156 s143) x ≤ 1048576) (hk : szT (.l 156 s143) x + 3 < k) : F38 k x = some x := by
  obtain ⟨k, rfl⟩ : ∃ q, k = q + 1 := ⟨k - 1, by omega⟩
  have hk' : x.length + sumL (szT s143) x + 3 < k + 1 := hk
  have hz' : x.length + sumL (szT s143) x ≤ 1048576 := hz
  refine (e38 k x).trans ?_
  rw [if_pos rfl, if_pos (by omega), if_pos (by simp; omega)]
  exact toS_loop2 (α := Int × Int × List Int) (L := L38_0 k _ x) (f := fun y => F100 k y) (fun _ _ => rfl) (a := x) (fun y hy => t100 k y (by have := sumL_le (f := szT s143) hy; omega) (by have := sumL_le (f := szT s143) hy; omega)) (by omega) x.length k 0 _ (by omega) (by omega) (by simp) (by simp)
theorem t101 (k : Nat) (x : Int × Int × Int × Int) (hz : szT s83 x ≤ 1048576) (hk : szT s83 x + 1 < k) : F101 k x = some x := by
  obtain ⟨k, rfl⟩ : ∃ q, k = q + 1 := ⟨k - 1, by omega⟩
  have hk' : (szT (.i .i64) x.1 + (szT (.i .i64) x.2.1 + (szT (.i .i64) x.2.2.1 + szT (.i .i64) x.2.2.2))) + 1 < k + 1 := hk
  have hz' : (szT (.i .i64) x.1 + (szT (.i .i64) x.2.1 + (szT (.i .i64) x.2.2.1 + szT (.i .i64) x.2.2.2))) ≤ 1048576 := hz
  exact e101 k x
theorem t39 (k : Nat) (x : List (Int × Int × Int × Int)) (hz : szT (.l 171 s83) x ≤ 1048576) (hk : szT (.l 171 s83) x + 2 < k) : F39 k x = some x := by
  obtain ⟨k, rfl⟩ : ∃ q, k = q + 1 := ⟨k - 1, by omega⟩
  have hk' : x.length + sumL (szT s83) x + 2 < k + 1 := hk
  have hz' : x.length + sumL (szT s83) x ≤ 1048576 := hz
  refine (e39 k x).trans ?_
  rw [if_pos rfl, if_pos (by omega), if_pos (by simp; omega)]
  exact toS_loop2 (α := Int × Int × Int × Int) (L := L39_0 k _ x) (f := fun y => F101 k y) (fun _ _ => rfl) (a := x) (fun y hy => t101 k y (by have := sumL_le (f := szT s83) hy; omega) (by have := sumL_le (f := szT s83) hy; omega)) (by omega) x.length k 0 _ (by omega) (by omega) (by simp) (by simp)
theorem t103 (k : Nat) (x : Int × Int × Int × Int) (hz : szT s83 x ≤ 1048576) (hk : szT s83 x + 1 < k) : F103 k x = some x := by
  obtain ⟨k, rfl⟩ : ∃ q, k = q + 1 := ⟨k - 1, by omega⟩
  have hk' : (szT (.i .i64) x.1 + (szT (.i .i64) x.2.1 + (szT (.i .i64) x.2.2.1 + szT (.i .i64) x.2.2.2))) + 1 < k + 1 := hk
  have hz' : (szT (.i .i64) x.1 + (szT (.i .i64) x.2.1 + (szT (.i .i64) x.2.2.1 + szT (.i .i64) x.2.2.2))) ≤ 1048576 := hz
  exact e103 k x
theorem t41 (k : Nat) (x : List (Int × Int × Int × Int)) (hz : szT (.l 175 s83) x ≤ 1048576) (hk : szT (.l 175 s83) x + 2 < k) : F41 k x = some x := by
  obtain ⟨k, rfl⟩ : ∃ q, k = q + 1 := ⟨k - 1, by omega⟩
  have hk' : x.length + sumL (szT s83) x + 2 < k + 1 := hk
  have hz' : x.length + sumL (szT s83) x ≤ 1048576 := hz
  refine (e41 k x).trans ?_
  rw [if_pos rfl, if_pos (by omega), if_pos (by simp; omega)]
  exact toS_loop2 (α := Int × Int × Int × Int) (L := L41_0 k _ x) (f := fun y => F103 k y) (fun _ _ => rfl) (a := x) (fun y hy => t103 k y (by have := sumL_le (f := szT s83) hy; omega) (by have := sumL_le (f := szT s83) hy; omega)) (by omega) x.length k 0 _ (by omega) (by omega) (by simp) (by simp)
theorem t9 (k : Nat) (x : (Int × (List (Int × Int × Int × Int)) × (List (Int × Int × Int)) × Int × Int × Int × Int × Int × (List (Int × Int × Int)) × Int) × (Int × Int × Int × List ((Int × Int) × (List (Int × Int)) × List (Int × (List Int) × List Int))) × (List Int) × (List Int) × (List (Int × Int × Int × Int × Int × Int)) × (List (List (Int × Int × Int × Int × Int × Int))) × (List (Int × Int × Int × Int)) × (List Int) × (List (Int × Int × List Int)) × (List (Int × Int × Int × Int)) × Int × Int × (List (Int × Int × Int × Int × Int × Int)) × List (Int × Int × Int × Int)) (hz : szT s40 x ≤ 1048576) (hk : szT s40 x + 7 < k) : F9 k x = some x := by
  obtain ⟨k, rfl⟩ : ∃ q, k = q + 1 := ⟨k - 1, by omega⟩
  have hk' : (szT s25 x.1 + (szT s28 x.2.1 + (szT s31 x.2.2.1 + (szT (.l 3 (.i .i64)) x.2.2.2.1 + (szT (.l 165 s78) x.2.2.2.2.1 + (szT (.l 154 s153) x.2.2.2.2.2.1 + (szT (.l 168 s83) x.2.2.2.2.2.2.1 + (szT (.l 3 (.i .i64)) x.2.2.2.2.2.2.2.1 + (szT (.l 156 s143) x.2.2.2.2.2.2.2.2.1 + (szT (.l 171 s83) x.2.2.2.2.2.2.2.2.2.1 + (szT (.i .i64) x.2.2.2.2.2.2.2.2.2.2.1 + (szT (.i .i64) x.2.2.2.2.2.2.2.2.2.2.2.1 + (szT (.l 173 s78) x.2.2.2.2.2.2.2.2.2.2.2.2.1 + szT (.l 175 s83) x.2.2.2.2.2.2.2.2.2.2.2.2.2))))))))))))) + 7 < k + 1 := hk
  have hz' : (szT s25 x.1 + (szT s28 x.2.1 + (szT s31 x.2.2.1 + (szT (.l 3 (.i .i64)) x.2.2.2.1 + (szT (.l 165 s78) x.2.2.2.2.1 + (szT (.l 154 s153) x.2.2.2.2.2.1 + (szT (.l 168 s83) x.2.2.2.2.2.2.1 + (szT (.l 3 (.i .i64)) x.2.2.2.2.2.2.2.1 + (szT (.l 156 s143) x.2.2.2.2.2.2.2.2.1 + (szT (.l 171 s83) x.2.2.2.2.2.2.2.2.2.1 + (szT (.i .i64) x.2.2.2.2.2.2.2.2.2.2.1 + (szT (.i .i64) x.2.2.2.2.2.2.2.2.2.2.2.1 + (szT (.l 173 s78) x.2.2.2.2.2.2.2.2.2.2.2.2.1 + szT (.l 175 s83) x.2.2.2.2.2.2.2.2.2.2.2.2.2))))))))))))) ≤ 1048576 := hz
  have g0 : F31 k x.1 = some x.1 := t31 k x.1 (by omega) (by omega)
  have g1 : F32 k x.2.1 = some x.2.1 := t32 k x.2.1 (by omega) (by omega)
  have g2 : F33 k x.2.2.1 = some x.2.2.1 := t33 k x.2.2.1 (by omega) (by omega)
  have g3 : F34 k x.2.2.2.1 = some x.2.2.2.1 := t34 k x.2.2.2.1 (by omega) (by omega)
  have g4 : F35 k x.2.2.2.2.1 = some x.2.2.2.2.1 := t35 k x.2.2.2.2.1 (by omega) (by omega)
  have g5 : F36 k x.2.2.2.2.2.1 = some x.2.2.2.2.2.1 := t36 k x.2.2.2.2.2.1 (by omega) (by omega)
  have g6 : F37 k x.2.2.2.2.2.2.1 = some x.2.2.2.2.2.2.1 := t37 k x.2.2.2.2.2.2.1 (by omega) (by omega)
  have g7 : F34 k x.2.2.2.2.2.2.2.1 = some x.2.2.2.2.2.2.2.1 := t34 k x.2.2.2.2.2.2.2.1 (by omega) (by omega)
  have g8 : F38 k x.2.2.2.2.2.2.2.2.1 = some x.2.2.2.2.2.2.2.2.1 := t38 k x.2.2.2.2.2.2.2.2.1 (by omega) (by omega)
  have g9 : F39 k x.2.2.2.2.2.2.2.2.2.1 = some x.2.2.2.2.2.2.2.2.2.1 := t39 k x.2.2.2.2.2.2.2.2.2.1 (by omega) (by omega)
  have g10 : F40 k x.2.2.2.2.2.2.2.2.2.2.2.2.1 = some x.2.2.2.2.2.2.2.2.2.2.2.2.1 := t40 k x.2.2.2.2.2.2.2.2.2.2.2.2.1 (by omega) (by omega)
  have g11 : F41 k x.2.2.2.2.2.2.2.2.2.2.2.2.2 = some x.2.2.2.2.2.2.2.2.2.2.2.2.2 := t41 k x.2.2.2.2.2.2.2.2.2.2.2.2.2 (by omega) (by omega)
  refine (e9 k x).trans ?_
  simp only [g0, g1, g2, g3, g4, g5, g6, g7, g8, g9, g10, g11, Option.bind_some, bne_self_eq_false, beq_self_eq_true, Bool.not_true, Bool.false_eq_true, if_false]
end Go.Proofs.YtmkkoalilmgpcaaGreat.World
