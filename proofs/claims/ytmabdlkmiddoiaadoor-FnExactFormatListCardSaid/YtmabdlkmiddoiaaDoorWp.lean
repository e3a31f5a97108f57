/- Plain lemmas: sizes, copies and comparisons of the law's data. No condition. -/
import Derived.Test.YtmabdlkmiddoiaaDoorWa
namespace Go.Proofs.YtmabdlkmiddoiaaDoor.World
open Go Go.V Go.Proofs
set_option linter.unusedVariables false
set_option linter.unusedSimpArgs false
set_option maxRecDepth 100000
theorem qleqIntS (k : Nat) (x : List Int) (hz : szT (.l 3 (.i .i64)) x ≤ 140737488351232) (hk : szT (.l 3 (.i .i64)) x + 1 < k) : FleqIntS k x x = some true := by
  obtain ⟨k, rfl⟩ : ∃ q, k = q + 1 := ⟨k - 1, by omega⟩
  have hk' : x.length + sumL (szT (.i .i64)) x + 1 < k + 1 := hk
  have hz' : x.length + sumL (szT (.i .i64)) x ≤ 140737488351232 := hz
  refine (eleqIntS k x x).trans ?_
  rw [if_neg (by simp)]
  exact eqI_loop2 (α := Int) (L := LleqIntS_0 k _ _ (x, x)) (fun _ _ => rfl) (a := x) (by omega) x.length k 0 (by omega) (by omega)
theorem qleqTable (k : Nat) (x : Int × (List Int) × List Int) (hz : szT sTable x ≤ 140737488351232) (hk : szT sTable x + 2 < k) : FleqTable k x x = some true := by
  obtain ⟨k, rfl⟩ : ∃ q, k = q + 1 := ⟨k - 1, by omega⟩
  have hk' : (szT (.i .i64) x.1 + (szT (.l 3 (.i .i64)) x.2.1 + szT (.l 3 (.i .i64)) x.2.2)) + 2 < k + 1 := hk
  have hz' : (szT (.i .i64) x.1 + (szT (.l 3 (.i .i64)) x.2.1 + szT (.l 3 (.i .i64)) x.2.2)) ≤ 140737488351232 := hz
  have g0 : FleqIntS k x.2.1 x.2.1 = some true := qleqIntS k x.2.1 (by omega) (by omega)
  have g1 : FleqIntS k x.2.2 x.2.2 = some true := qleqIntS k x.2.2 (by omega) (by omega)
  refine (eleqTable k x x).trans ?_
  simp only [g0, g1, Option.bind_some, bne_self_eq_false, beq_self_eq_true, Bool.not_true, Bool.false_eq_true, if_false]
theorem zlszIntS (k : Nat) (x : List Int) (left : Int) (hr : rowsLe 140737488351232 (.l 3 (.i .i64)) x) (hk : szT (.l 3 (.i .i64)) x + 1 < k) (h0 : 0 ≤ left) (h1 : left ≤ 1048576) : FlszIntS k x left = some (szR (szT (.l 3 (.i .i64)) x) left) := by
  obtain ⟨k, rfl⟩ : ∃ q, k = q + 1 := ⟨k - 1, by omega⟩
  have hl : x.length ≤ 140737488351232 := (rowsLe_row hr).1
  have hz : szT (.l 3 (.i .i64)) x = x.length := szT_row (e := 3) (sh := (.i .i64)) rfl x
  exact (elszIntS k x left).trans ((sz_leaf hl h0 h1).trans (congrArg (fun n => some (szR n left)) hz.symm))
theorem zlszTable (k : Nat) (x : Int × (List Int) × List Int) (left : Int) (hr : rowsLe 140737488351232 sTable x) (hk : szT sTable x + 2 < k) (h0 : 0 ≤ left) (h1 : left ≤ 1048576) : FlszTable k x left = some (szR (szT sTable x) left) := by
  obtain ⟨k, rfl⟩ : ∃ q, k = q + 1 := ⟨k - 1, by omega⟩
  have hk' : (szT (.i .i64) x.1 + (szT (.l 3 (.i .i64)) x.2.1 + szT (.l 3 (.i .i64)) x.2.2)) + 2 < k + 1 := hk
  obtain ⟨r0, r1, r2⟩ : rowsLe 140737488351232 (.i .i64) x.1 ∧ rowsLe 140737488351232 (.l 3 (.i .i64)) x.2.1 ∧ rowsLe 140737488351232 (.l 3 (.i .i64)) x.2.2 := hr
  have f0 : szT (.i .i64) x.1 = 0 := szT_flat _ _ rfl
  have ht : szT sTable x = szT (.l 3 (.i .i64)) x.2.1 + (szT (.l 3 (.i .i64)) x.2.2 + 0) := by
    show (szT (.i .i64) x.1 + (szT (.l 3 (.i .i64)) x.2.1 + szT (.l 3 (.i .i64)) x.2.2)) = _
    omega
  rw [elszTable, ht]
  exact sz_step (zlszIntS k _ _ r1 (by omega) h0 h1) h0 h1 fun p1 q1 w1 => sz_step (zlszIntS k _ _ r2 (by omega) q1 w1) q1 w1 fun p2 q2 w2 => szR_zero q2
theorem tltoIntS (k : Nat) (x : List Int) (hz : szT (.l 3 (.i .i64)) x ≤ 1048576) (hk : szT (.l 3 (.i .i64)) x + 1 < k) : FltoIntS k x = some x := by
  obtain ⟨k, rfl⟩ : ∃ q, k = q + 1 := ⟨k - 1, by omega⟩
  have hk' : x.length + sumL (szT (.i .i64)) x + 1 < k + 1 := hk
  have hz' : x.length + sumL (szT (.i .i64)) x ≤ 1048576 := hz
  refine (eltoIntS k x).trans ?_
  rw [if_pos rfl, if_pos (by omega), if_pos (by simp; omega)]
  exact toS_loop2 (α := Int) (L := LltoIntS_0 k _ x) (f := fun y => some y) (fun _ _ => rfl) (a := x) (fun _ _ => rfl) (by omega) x.length k 0 _ (by omega) (by omega) (by simp) (by simp)
theorem tltoTable (k : Nat) (x : Int × (List Int) × List Int) (hz : szT sTable x ≤ 1048576) (hk : szT sTable x + 2 < k) : FltoTable k x = some x := by
  obtain ⟨k, rfl⟩ : ∃ q, k = q + 1 := ⟨k - 1, by omega⟩
  have hk' : (szT (.i .i64) x.1 + (szT (.l 3 (.i .i64)) x.2.1 + szT (.l 3 (.i .i64)) x.2.2)) + 2 < k + 1 := hk
  have hz' : (szT (.i .i64) x.1 + (szT (.l 3 (.i .i64)) x.2.1 + szT (.l 3 (.i .i64)) x.2.2)) ≤ 1048576 := hz
  have g0 : FltoIntS k x.2.1 = some x.2.1 := tltoIntS k x.2.1 (by omega) (by omega)
  have g1 : FltoIntS k x.2.2 = some x.2.2 := tltoIntS k x.2.2 (by omega) (by omega)
  refine (eltoTable k x).trans ?_
  simp only [g0, g1, Option.bind_some, bne_self_eq_false, beq_self_eq_true, Bool.not_true, Bool.false_eq_true, if_false]
theorem qleqLink (k : Nat) (x : Int × Int) (hz : szT sI2 x ≤ 140737488351232) (hk : szT sI2 x + 1 < k) : FleqLink k x x = some true := by
  obtain ⟨k, rfl⟩ : ∃ q, k = q + 1 := ⟨k - 1, by omega⟩
  have hk' : (szT (.i .i64) x.1 + szT (.i .i64) x.2) + 1 < k + 1 := hk
  have hz' : (szT (.i .i64) x.1 + szT (.i .i64) x.2) ≤ 140737488351232 := hz
  refine (eleqLink k x x).trans ?_
  simp only [Option.bind_some, bne_self_eq_false, beq_self_eq_true, Bool.not_true, Bool.false_eq_true, if_false]
theorem qleqLinkS (k : Nat) (x : List (Int × Int)) (hz : szT (.l 68 sI2) x ≤ 140737488351232) (hk : szT (.l 68 sI2) x + 2 < k) : FleqLinkS k x x = some true := by
  obtain ⟨k, rfl⟩ : ∃ q, k = q + 1 := ⟨k - 1, by omega⟩
  have hk' : x.length + sumL (szT sI2) x + 2 < k + 1 := hk
  have hz' : x.length + sumL (szT sI2) x ≤ 140737488351232 := hz
  refine (eleqLinkS k x x).trans ?_
  rw [if_neg (by simp)]
  exact eqS_loop2 (α := Int × Int) (L := LleqLinkS_0 k _ _ (x, x)) (f := fun y z => FleqLink k y z) (fun _ _ => rfl) (a := x) (fun y hy => qleqLink k y (by have := sumL_le (f := szT sI2) hy; omega) (by have := sumL_le (f := szT sI2) hy; omega)) (by omega) x.length k 0 (by omega) (by omega)
theorem qleqSpan (k : Nat) (x : Int × Int) (hz : szT sI2 x ≤ 140737488351232) (hk : szT sI2 x + 1 < k) : FleqSpan k x x = some true := by
  obtain ⟨k, rfl⟩ : ∃ q, k = q + 1 := ⟨k - 1, by omega⟩
  have hk' : (szT (.i .i64) x.1 + szT (.i .i64) x.2) + 1 < k + 1 := hk
  have hz' : (szT (.i .i64) x.1 + szT (.i .i64) x.2) ≤ 140737488351232 := hz
  refine (eleqSpan k x x).trans ?_
  simp only [Option.bind_some, bne_self_eq_false, beq_self_eq_true, Bool.not_true, Bool.false_eq_true, if_false]
theorem qleqTableS (k : Nat) (x : List (Int × (List Int) × List Int)) (hz : szT (.l 27 sTable) x ≤ 140737488351232) (hk : szT (.l 27 sTable) x + 3 < k) : FleqTableS k x x = some true := by
  obtain ⟨k, rfl⟩ : ∃ q, k = q + 1 := ⟨k - 1, by omega⟩
  have hk' : x.length + sumL (szT sTable) x + 3 < k + 1 := hk
  have hz' : x.length + sumL (szT sTable) x ≤ 140737488351232 := hz
  refine (eleqTableS k x x).trans ?_
  rw [if_neg (by simp)]
  exact eqS_loop2 (α := Int × (List Int) × List Int) (L := LleqTableS_0 k _ _ (x, x)) (f := fun y z => FleqTable k y z) (fun _ _ => rfl) (a := x) (fun y hy => qleqTable k y (by have := sumL_le (f := szT sTable) hy; omega) (by have := sumL_le (f := szT sTable) hy; omega)) (by omega) x.length k 0 (by omega) (by omega)
theorem qleqPiece (k : Nat) (x : (Int × Int) × (List (Int × Int)) × List (Int × (List Int) × List Int)) (hz : szT sPiece x ≤ 140737488351232) (hk : szT sPiece x + 4 < k) : FleqPiece k x x = some true := by
  obtain ⟨k, rfl⟩ : ∃ q, k = q + 1 := ⟨k - 1, by omega⟩
  have hk' : (szT sI2 x.1 + (szT (.l 68 sI2) x.2.1 + szT (.l 27 sTable) x.2.2)) + 4 < k + 1 := hk
  have hz' : (szT sI2 x.1 + (szT (.l 68 sI2) x.2.1 + szT (.l 27 sTable) x.2.2)) ≤ 140737488351232 := hz
  have g0 : FleqSpan k x.1 x.1 = some true := qleqSpan k x.1 (by omega) (by omega)
  have g1 : FleqLinkS k x.2.1 x.2.1 = some true := qleqLinkS k x.2.1 (by omega) (by omega)
  have g2 : FleqTableS k x.2.2 x.2.2 = some true := qleqTableS k x.2.2 (by omega) (by omega)
  refine (eleqPiece k x x).trans ?_
  simp only [g0, g1, g2, Option.bind_some, bne_self_eq_false, beq_self_eq_true, Bool.not_true, Bool.false_eq_true, if_false]
theorem zlszLinkS (k : Nat) (x : List (Int × Int)) (left : Int) (hr : rowsLe 140737488351232 (.l 75 sI2) x) (hk : szT (.l 75 sI2) x + 1 < k) (h0 : 0 ≤ left) (h1 : left ≤ 1048576) : FlszLinkS k x left = some (szR (szT (.l 75 sI2) x) left) := by
  obtain ⟨k, rfl⟩ : ∃ q, k = q + 1 := ⟨k - 1, by omega⟩
  have hl : x.length ≤ 140737488351232 := (rowsLe_row hr).1
  have hz : szT (.l 75 sI2) x = x.length := szT_row (e := 75) (sh := sI2) rfl x
  exact (elszLinkS k x left).trans ((sz_leaf hl h0 h1).trans (congrArg (fun n => some (szR n left)) hz.symm))
theorem zlszTableS (k : Nat) (x : List (Int × (List Int) × List Int)) (left : Int) (hr : rowsLe 140737488351232 (.l 24 sTable) x) (hk : szT (.l 24 sTable) x + 3 < k) (h0 : 0 ≤ left) (h1 : left ≤ 1048576) : FlszTableS k x left = some (szR (szT (.l 24 sTable) x) left) := by
  obtain ⟨k, rfl⟩ : ∃ q, k = q + 1 := ⟨k - 1, by omega⟩
  obtain ⟨hl, hr⟩ : x.length ≤ 140737488351232 ∧ ∀ y ∈ x, rowsLe 140737488351232 sTable y := rowsLe_row hr
  have hk' : x.length + sumL (szT sTable) x + 3 < k + 1 := hk
  have hw : 0 ≤ left - (x.length : Int) → IntKind.i64.wrap (left - (x.length : Int)) = left - x.length := fun _ => wrap_id (by omega) (by omega)
  refine (elszTableS k x left).trans (sz_rows (α := Int × (List Int) × List Int) (s := szT sTable) hl h0 h1 fun hp => ?_)
  rw [hw hp]
  have := szS_loop2 (L := LlszTableS_0 k _ _ x) (f := fun y p => FlszTable k y p) (fun _ _ => rfl) (neg := some (-1)) (fin := fun p => some p) (fun _ _ _ => rfl) (fun _ => rfl) (s := szT sTable) (a := x) (fun y hy p q0 q1 => zlszTable k y p (hr y hy) (by have := sumL_le (f := szT sTable) hy; omega) q0 q1) hl x.length k 0 (left - x.length) (by omega) (by omega) (by omega) (by omega)
  exact this
theorem zlszPiece (k : Nat) (x : (Int × Int) × (List (Int × Int)) × List (Int × (List Int) × List Int)) (left : Int) (hr : rowsLe 140737488351232 sLPiece x) (hk : szT sLPiece x + 4 < k) (h0 : 0 ≤ left) (h1 : left ≤ 1048576) : FlszPiece k x left = some (szR (szT sLPiece x) left) := by
  obtain ⟨k, rfl⟩ : ∃ q, k = q + 1 := ⟨k - 1, by omega⟩
  have hk' : (szT sI2 x.1 + (szT (.l 75 sI2) x.2.1 + szT (.l 24 sTable) x.2.2)) + 4 < k + 1 := hk
  obtain ⟨r0, r1, r2⟩ : rowsLe 140737488351232 sI2 x.1 ∧ rowsLe 140737488351232 (.l 75 sI2) x.2.1 ∧ rowsLe 140737488351232 (.l 24 sTable) x.2.2 := hr
  have f0 : szT sI2 x.1 = 0 := szT_flat _ _ rfl
  have ht : szT sLPiece x = szT (.l 75 sI2) x.2.1 + (szT (.l 24 sTable) x.2.2 + 0) := by
    show (szT sI2 x.1 + (szT (.l 75 sI2) x.2.1 + szT (.l 24 sTable) x.2.2)) = _
    omega
  rw [elszPiece, ht]
  exact sz_step (zlszLinkS k _ _ r1 (by omega) h0 h1) h0 h1 fun p1 q1 w1 => sz_step (zlszTableS k _ _ r2 (by omega) q1 w1) q1 w1 fun p2 q2 w2 => szR_zero q2
theorem tltoLink (k : Nat) (x : Int × Int) (hz : szT sI2 x ≤ 1048576) (hk : szT sI2 x + 1 < k) : FltoLink k x = some x := by
  obtain ⟨k, rfl⟩ : ∃ q, k = q + 1 := ⟨k - 1, by omega⟩
  have hk' : (szT (.i .i64) x.1 + szT (.i .i64) x.2) + 1 < k + 1 := hk
  have hz' : (szT (.i .i64) x.1 + szT (.i .i64) x.2) ≤ 1048576 := hz
  exact eltoLink k x
theorem tltoLinkS (k : Nat) (x : List (Int × Int)) (hz : szT (.l 75 sI2) x ≤ 1048576) (hk : szT (.l 75 sI2) x + 2 < k) : FltoLinkS k x = some x := by
  obtain ⟨k, rfl⟩ : ∃ q, k = q + 1 := ⟨k - 1, by omega⟩
  have hk' : x.length + sumL (szT sI2) x + 2 < k + 1 := hk
  have hz' : x.length + sumL (szT sI2) x ≤ 1048576 := hz
  refine (eltoLinkS k x).trans ?_
  rw [if_pos rfl, if_pos (by omega), if_pos (by simp; omega)]
  exact toS_loop2 (α := Int × Int) (L := LltoLinkS_0 k _ x) (f := fun y => FltoLink k y) (fun _ _ => rfl) (a := x) (fun y hy => tltoLink k y (by have := sumL_le (f := szT sI2) hy; omega) (by have := sumL_le (f := szT sI2) hy; omega)) (by omega) x.length k 0 _ (by omega) (by omega) (by simp) (by simp)
theorem tltoSpan (k : Nat) (x : Int × Int) (hz : szT sI2 x ≤ 1048576) (hk : szT sI2 x + 1 < k) : FltoSpan k x = some x := by
  obtain ⟨k, rfl⟩ : ∃ q, k = q + 1 := ⟨k - 1, by omega⟩
  have hk' : (szT (.i .i64) x.1 + szT (.i .i64) x.2) + 1 < k + 1 := hk
  have hz' : (szT (.i .i64) x.1 + szT (.i .i64) x.2) ≤ 1048576 := hz
  exact eltoSpan k x
theorem tltoTableS (k : Nat) (x : List (Int × (List Int) × List Int)) (hz : szT (.l 24 sTable) x ≤ 1048576) (hk : szT (.l 24 sTable) x + 3 < k) : FltoTableS k x = some x := by
  obtain ⟨k, rfl⟩ : ∃ q, k = q + 1 := ⟨k - 1, by omega⟩
  have hk' : x.length + sumL (szT sTable) x + 3 < k + 1 := hk
  have hz' : x.length + sumL (szT sTable) x ≤ 1048576 := hz
  refine (eltoTableS k x).trans ?_
  rw [if_pos rfl, if_pos (by omega), if_pos (by simp; omega)]
  exact toS_loop2 (α := Int × (List Int) × List Int) (L := LltoTableS_0 k _ x) (f := fun y => FltoTable k y) (fun _ _ => rfl) (a := x) (fun y hy => tltoTable k y (by have := sumL_le (f := szT sTable) hy; omega) (by have := sumL_le (f := szT sTable) hy; omega)) (by omega) x.length k 0 _ (by omega) (by omega) (by simp) (by simp)
theorem tltoPiece (k : Nat) (x : (Int × Int) × (List (Int × Int)) × List (Int × (List Int) × List Int)) (hz : szT sLPiece x ≤ 1048576) (hk : szT sLPiece x + 4 < k) : FltoPiece k x = some x := by
  obtain ⟨k, rfl⟩ : ∃ q, k = q + 1 := ⟨k - 1, by omega⟩
  have hk' : (szT sI2 x.1 + (szT (.l 75 sI2) x.2.1 + szT (.l 24 sTable) x.2.2)) + 4 < k + 1 := hk
  have hz' : (szT sI2 x.1 + (szT (.l 75 sI2) x.2.1 + szT (.l 24 sTable) x.2.2)) ≤ 1048576 := hz
  have g0 : FltoSpan k x.1 = some x.1 := tltoSpan k x.1 (by omega) (by omega)
  have g1 : FltoLinkS k x.2.1 = some x.2.1 := tltoLinkS k x.2.1 (by omega) (by omega)
  have g2 : FltoTableS k x.2.2 = some x.2.2 := tltoTableS k x.2.2 (by omega) (by omega)
  refine (eltoPiece k x).trans ?_
  simp only [g0, g1, g2, Option.bind_some, bne_self_eq_false, beq_self_eq_true, Bool.not_true, Bool.false_eq_true, if_false]
theorem qleqSpanS (k : Nat) (x : List (Int × Int)) (hz : szT (.l 50 sI2) x ≤ 140737488351232) (hk : szT (.l 50 sI2) x + 2 < k) : FleqSpanS k x x = some true := by
  obtain ⟨k, rfl⟩ : ∃ q, k = q + 1 := ⟨k - 1, by omega⟩
  have hk' : x.length + sumL (szT sI2) x + 2 < k + 1 := hk
  have hz' : x.length + sumL (szT sI2) x ≤ 140737488351232 := hz
  refine (eleqSpanS k x x).trans ?_
  rw [if_neg (by simp)]
  exact eqS_loop2 (α := Int × Int) (L := LleqSpanS_0 k _ _ (x, x)) (f := fun y z => FleqSpan k y z) (fun _ _ => rfl) (a := x) (fun y hy => qleqSpan k y (by have := sumL_le (f := szT sI2) hy; omega) (by have := sumL_le (f := szT sI2) hy; omega)) (by omega) x.length k 0 (by omega) (by omega)
theorem zlszSpanS (k : Nat) (x : List (Int × Int)) (left : Int) (hr : rowsLe 140737488351232 (.l 43 sI2) x) (hk : szT (.l 43 sI2) x + 1 < k) (h0 : 0 ≤ left) (h1 : left ≤ 1048576) : FlszSpanS k x left = some (szR (szT (.l 43 sI2) x) left) := by
  obtain ⟨k, rfl⟩ : ∃ q, k = q + 1 := ⟨k - 1, by omega⟩
  have hl : x.length ≤ 140737488351232 := (rowsLe_row hr).1
  have hz : szT (.l 43 sI2) x = x.length := szT_row (e := 43) (sh := sI2) rfl x
  exact (elszSpanS k x left).trans ((sz_leaf hl h0 h1).trans (congrArg (fun n => some (szR n left)) hz.symm))
theorem tltoSpanS (k : Nat) (x : List (Int × Int)) (hz : szT (.l 43 sI2) x ≤ 1048576) (hk : szT (.l 43 sI2) x + 2 < k) : FltoSpanS k x = some x := by
  obtain ⟨k, rfl⟩ : ∃ q, k = q + 1 := ⟨k - 1, by omega⟩
  have hk' : x.length + sumL (szT sI2) x + 2 < k + 1 := hk
  have hz' : x.length + sumL (szT sI2) x ≤ 1048576 := hz
  refine (eltoSpanS k x).trans ?_
  rw [if_pos rfl, if_pos (by omega), if_pos (by simp; omega)]
  exact toS_loop2 (α := Int × Int) (L := LltoSpanS_0 k _ x) (f := fun y => FltoSpan k y) (fun _ _ => rfl) (a := x) (fun y hy => tltoSpan k y (by have := sumL_le (f := szT sI2) hy; omega) (by have := sumL_le (f := szT sI2) hy; omega)) (by omega) x.length k 0 _ (by omega) (by omega) (by simp) (by simp)
end Go.Proofs.YtmabdlkmiddoiaaDoor.World
