/- Plain lemmas: sizes, copies and comparisons of a world's parts. No condition. -/
import Derived.Test.YtmkkoalilmgpcaaWb
namespace Go.Proofs.Ytmkkoalilmgpcaa.World
open Go Go.V Go.Proofs
set_option linter.unusedVariables false
set_option linter.unusedSimpArgs false
set_option maxRecDepth 100000
theorem z70 (k : Nat) (x : List (Int × Int × Int × Int)) (left : Int) (hr : rowsLe 140737488351232 (.l 171 s109) x) (hk : szT (.l 171 s109) x + 1 < k) (h0 : 0 ≤ left) (h1 : left ≤ 1048576) : F70 k x left = some (szR (szT (.l 171 s109) x) left) := by
  obtain ⟨k, rfl⟩ : ∃ q, k = q + 1 := ⟨k - 1, by omega⟩
  have hl : x.length ≤ 140737488351232 := (rowsLe_row hr).1
  have hz : szT (.l 171 s109) x = x.length := szT_row (e := 171) (sh := s109) rfl x
  exact (e70 k x left).trans ((sz_leaf hl h0 h1).trans (congrArg (fun n => some (szR n left)) hz.symm))
theorem z71 (k : Nat) (x : List (Int × Int × Int)) (left : Int) (hr : rowsLe 140737488351232 (.l 175 s172) x) (hk : szT (.l 175 s172) x + 1 < k) (h0 : 0 ≤ left) (h1 : left ≤ 1048576) : F71 k x left = some (szR (szT (.l 175 s172) x) left) := by
  obtain ⟨k, rfl⟩ : ∃ q, k = q + 1 := ⟨k - 1, by omega⟩
  have hl : x.length ≤ 140737488351232 := (rowsLe_row hr).1
  have hz : szT (.l 175 s172) x = x.length := szT_row (e := 175) (sh := s172) rfl x
  exact (e71 k x left).trans ((sz_leaf hl h0 h1).trans (congrArg (fun n => some (szR n left)) hz.symm))
theorem z72 (k : Nat) (x : List (Int × Int × Int)) (left : Int) (hr : rowsLe 140737488351232 (.l 183 s178) x) (hk : szT (.l 183 s178) x + 1 < k) (h0 : 0 ≤ left) (h1 : left ≤ 1048576) : F72 k x left = some (szR (szT (.l 183 s178) x) left) := by
  obtain ⟨k, rfl⟩ : ∃ q, k = q + 1 := ⟨k - 1, by omega⟩
  have hl : x.length ≤ 140737488351232 := (rowsLe_row hr).1
  have hz : szT (.l 183 s178) x = x.length := szT_row (e := 183) (sh := s178) rfl x
  exact (e72 k x left).trans ((sz_leaf hl h0 h1).trans (congrArg (fun n => some (szR n left)) hz.symm))
theorem z30 (k : Nat) (x : Int × (List (Int × Int × Int × Int)) × (List (Int × Int × Int)) × Int × Int × Int × Int × Int × (List (Int × Int × Int)) × Int) (left : Int) (hr : rowsLe 140737488351232 s25 x) (hk : szT s25 x + 2 < k) (h0 : 0 ≤ left) (h1 : left ≤ 1048576) : F30 k x left = some (szR (szT s25 x) left) := by
  obtain ⟨k, rfl⟩ : ∃ q, k = q + 1 := ⟨k - 1, by omega⟩
  have hk' : (szT (.i .i64) x.1 + (szT (.l 171 s109) x.2.1 + (szT (.l 175 s172) x.2.2.1 + (szT (.i .i64) x.2.2.2.1 + (szT (.i .i64) x.2.2.2.2.1 + (szT (.i .i64) x.2.2.2.2.2.1 + (szT (.i .i64) x.2.2.2.2.2.2.1 + (szT (.i .i64) x.2.2.2.2.2.2.2.1 + (szT (.l 183 s178) x.2.2.2.2.2.2.2.2.1 + szT (.i .i64) x.2.2.2.2.2.2.2.2.2))))))))) + 2 < k + 1 := hk
  obtain ⟨r0, r1, r2, r3, r4, r5, r6, r7, r8, r9⟩ : rowsLe 140737488351232 (.i .i64) x.1 ∧ rowsLe 140737488351232 (.l 171 s109) x.2.1 ∧ rowsLe 140737488351232 (.l 175 s172) x.2.2.1 ∧ rowsLe 140737488351232 (.i .i64) x.2.2.2.1 ∧ rowsLe 140737488351232 (.i .i64) x.2.2.2.2.1 ∧ rowsLe 140737488351232 (.i .i64) x.2.2.2.2.2.1 ∧ rowsLe 140737488351232 (.i .i64) x.2.2.2.2.2.2.1 ∧ rowsLe 140737488351232 (.i .i64) x.2.2.2.2.2.2.2.1 ∧ rowsLe 140737488351232 (.l 183 s178) x.2.2.2.2.2.2.2.2.1 ∧ rowsLe 140737488351232 (.i .i64) x.2.2.2.2.2.2.2.2.2 := hr
  have f0 : szT (.i .i64) x.1 = 0 := szT_flat _ _ rfl
  have f3 : szT (.i .i64) x.2.2.2.1 = 0 := szT_flat _ _ rfl
  have f4 : szT (.i .i64) x.2.2.2.2.1 = 0 := szT_flat _ _ rfl
  have f5 : szT (.i .i64) x.2.2.2.2.2.1 = 0 := szT_flat _ _ rfl
  have f6 : szT (.i .i64) x.2.2.2.2.2.2.1 = 0 := szT_flat _ _ rfl
  have f7 : szT (.i .i64) x.2.2.2.2.2.2.2.1 = 0 := szT_flat _ _ rfl
  have f9 : szT (.i .i64) x.2.2.2.2.2.2.2.2.2 = 0 := szT_flat _ _ rfl
  have ht : szT s25 x = szT (.l 171 s109) x.2.1 + (szT (.l 175 s172) x.2.2.1 + (szT (.l 183 s178) x.2.2.2.2.2.2.2.2.1 + 0)) := by
    show (szT (.i .i64) x.1 + (szT (.l 171 s109) x.2.1 + (szT (.l 175 s172) x.2.2.1 + (szT (.i .i64) x.2.2.2.1 + (szT (.i .i64) x.2.2.2.2.1 + (szT (.i .i64) x.2.2.2.2.2.1 + (szT (.i .i64) x.2.2.2.2.2.2.1 + (szT (.i .i64) x.2.2.2.2.2.2.2.1 + (szT (.l 183 s178) x.2.2.2.2.2.2.2.2.1 + szT (.i .i64) x.2.2.2.2.2.2.2.2.2))))))))) = _
    omega
  rw [e30, ht]
  exact sz_step (z70 k _ _ r1 (by omega) h0 h1) h0 h1 fun p1 q1 w1 => sz_step (z71 k _ _ r2 (by omega) q1 w1) q1 w1 fun p2 q2 w2 => sz_step (z72 k _ _ r8 (by omega) q2 w2) q2 w2 fun p3 q3 w3 => szR_zero q3
theorem z110 (k : Nat) (x : List (Int × Int)) (left : Int) (hr : rowsLe 140737488351232 (.l 210 s162) x) (hk : szT (.l 210 s162) x + 1 < k) (h0 : 0 ≤ left) (h1 : left ≤ 1048576) : F110 k x left = some (szR (szT (.l 210 s162) x) left) := by
  obtain ⟨k, rfl⟩ : ∃ q, k = q + 1 := ⟨k - 1, by omega⟩
  have hl : x.length ≤ 140737488351232 := (rowsLe_row hr).1
  have hz : szT (.l 210 s162) x = x.length := szT_row (e := 210) (sh := s162) rfl x
  exact (e110 k x left).trans ((sz_leaf hl h0 h1).trans (congrArg (fun n => some (szR n left)) hz.symm))
theorem z33 (k : Nat) (x : List Int) (left : Int) (hr : rowsLe 140737488351232 (.l 3 (.i .i64)) x) (hk : szT (.l 3 (.i .i64)) x + 1 < k) (h0 : 0 ≤ left) (h1 : left ≤ 1048576) : F33 k x left = some (szR (szT (.l 3 (.i .i64)) x) left) := by
  obtain ⟨k, rfl⟩ : ∃ q, k = q + 1 := ⟨k - 1, by omega⟩
  have hl : x.length ≤ 140737488351232 := (rowsLe_row hr).1
  have hz : szT (.l 3 (.i .i64)) x = x.length := szT_row (e := 3) (sh := (.i .i64)) rfl x
  exact (e33 k x left).trans ((sz_leaf hl h0 h1).trans (congrArg (fun n => some (szR n left)) hz.symm))
theorem z120 (k : Nat) (x : Int × (List Int) × List Int) (left : Int) (hr : rowsLe 140737488351232 s205 x) (hk : szT s205 x + 2 < k) (h0 : 0 ≤ left) (h1 : left ≤ 1048576) : F120 k x left = some (szR (szT s205 x) left) := by
  obtain ⟨k, rfl⟩ : ∃ q, k = q + 1 := ⟨k - 1, by omega⟩
  have hk' : (szT (.i .i64) x.1 + (szT (.l 3 (.i .i64)) x.2.1 + szT (.l 3 (.i .i64)) x.2.2)) + 2 < k + 1 := hk
  obtain ⟨r0, r1, r2⟩ : rowsLe 140737488351232 (.i .i64) x.1 ∧ rowsLe 140737488351232 (.l 3 (.i .i64)) x.2.1 ∧ rowsLe 140737488351232 (.l 3 (.i .i64)) x.2.2 := hr
  have f0 : szT (.i .i64) x.1 = 0 := szT_flat _ _ rfl
  have ht : szT s205 x = szT (.l 3 (.i .i64)) x.2.1 + (szT (.l 3 (.i .i64)) x.2.2 + 0) := by
    show (szT (.i .i64) x.1 + (szT (.l 3 (.i .i64)) x.2.1 + szT (.l 3 (.i .i64)) x.2.2)) = _
    omega
  rw [e120, ht]
  exact sz_step (z33 k _ _ r1 (by omega) h0 h1) h0 h1 fun p1 q1 w1 => sz_step (z33 k _ _ r2 (by omega) q1 w1) q1 w1 fun p2 q2 w2 => szR_zero q2
theorem z111 (k : Nat) (x : List (Int × (List Int) × List Int)) (left : Int) (hr : rowsLe 140737488351232 (.l 206 s205) x) (hk : szT (.l 206 s205) x + 3 < k) (h0 : 0 ≤ left) (h1 : left ≤ 1048576) : F111 k x left = some (szR (szT (.l 206 s205) x) left) := by
  obtain ⟨k, rfl⟩ : ∃ q, k = q + 1 := ⟨k - 1, by omega⟩
  obtain ⟨hl, hr⟩ : x.length ≤ 140737488351232 ∧ ∀ y ∈ x, rowsLe 140737488351232 s205 y := rowsLe_row hr
  have hk' : x.length + sumL (szT s205) x + 3 < k + 1 := hk
  have hw : 0 ≤ left - (x.length : Int) → IntKind.i64.wrap (left - (x.length : Int)) = left - x.length := fun _ => wrap_id (by omega) (by omega)
  refine (e111 k x left).trans (sz_rows (α := Int × (List Int) × List Int) (s := szT s205) hl h0 h1 fun hp => ?_)
  rw [hw hp]
  have := szS_loop (L := L111_0 k _ _) (f := fun y p => F120 k y p) (fun _ _ => rfl) (neg := some (-1)) (fin := fun p => some p) (fun _ _ _ => rfl) (fun _ => rfl) (s := szT s205) (a := x) (fun y hy p q0 q1 => z120 k y p (hr y hy) (by have := sumL_le (f := szT s205) hy; omega) q0 q1) hl x.length k 0 (left - x.length) (by omega) (by omega) (by omega) (by omega)
  exact this
theorem z101 (k : Nat) (x : (Int × Int) × (List (Int × Int)) × List (Int × (List Int) × List Int)) (left : Int) (hr : rowsLe 140737488351232 s166 x) (hk : szT s166 x + 4 < k) (h0 : 0 ≤ left) (h1 : left ≤ 1048576) : F101 k x left = some (szR (szT s166 x) left) := by
  obtain ⟨k, rfl⟩ : ∃ q, k = q + 1 := ⟨k - 1, by omega⟩
  have hk' : (szT s162 x.1 + (szT (.l 210 s162) x.2.1 + szT (.l 206 s205) x.2.2)) + 4 < k + 1 := hk
  obtain ⟨r0, r1, r2⟩ : rowsLe 140737488351232 s162 x.1 ∧ rowsLe 140737488351232 (.l 210 s162) x.2.1 ∧ rowsLe 140737488351232 (.l 206 s205) x.2.2 := hr
  have f0 : szT s162 x.1 = 0 := szT_flat _ _ rfl
  have ht : szT s166 x = szT (.l 210 s162) x.2.1 + (szT (.l 206 s205) x.2.2 + 0) := by
    show (szT s162 x.1 + (szT (.l 210 s162) x.2.1 + szT (.l 206 s205) x.2.2)) = _
    omega
  rw [e101, ht]
  exact sz_step (z110 k _ _ r1 (by omega) h0 h1) h0 h1 fun p1 q1 w1 => sz_step (z111 k _ _ r2 (by omega) q1 w1) q1 w1 fun p2 q2 w2 => szR_zero q2
theorem z73 (k : Nat) (x : List ((Int × Int) × (List (Int × Int)) × List (Int × (List Int) × List Int))) (left : Int) (hr : rowsLe 140737488351232 (.l 167 s166) x) (hk : szT (.l 167 s166) x + 5 < k) (h0 : 0 ≤ left) (h1 : left ≤ 1048576) : F73 k x left = some (szR (szT (.l 167 s166) x) left) := by
  obtain ⟨k, rfl⟩ : ∃ q, k = q + 1 := ⟨k - 1, by omega⟩
  obtain ⟨hl, hr⟩ : x.length ≤ 140737488351232 ∧ ∀ y ∈ x, rowsLe 140737488351232 s166 y := rowsLe_row hr
  have hk' : x.length + sumL (szT s166) x + 5 < k + 1 := hk
  have hw : 0 ≤ left - (x.length : Int) → IntKind.i64.wrap (left - (x.length : Int)) = left - x.length := fun _ => wrap_id (by omega) (by omega)
  refine (e73 k x left).trans (sz_rows (α := (Int × Int) × (List (Int × Int)) × List (Int × (List Int) × List Int)) (s := szT s166) hl h0 h1 fun hp => ?_)
  rw [hw hp]
  have := szS_loop (L := L73_0 k _ _) (f := fun y p => F101 k y p) (fun _ _ => rfl) (neg := some (-1)) (fin := fun p => some p) (fun _ _ _ => rfl) (fun _ => rfl) (s := szT s166) (a := x) (fun y hy p q0 q1 => z101 k y p (hr y hy) (by have := sumL_le (f := szT s166) hy; omega) q0 q1) hl x.length k 0 (left - x.length) (by omega) (by omega) (by omega) (by omega)
  exact this
theorem z31 (k : Nat) (x : Int × Int × Int × List ((Int × Int) × (List (Int × Int)) × List (Int × (List Int) × List Int))) (left : Int) (hr : rowsLe 140737488351232 s28 x) (hk : szT s28 x + 6 < k) (h0 : 0 ≤ left) (h1 : left ≤ 1048576) : F31 k x left = some (szR (szT s28 x) left) := by
  obtain ⟨k, rfl⟩ : ∃ q, k = q + 1 := ⟨k - 1, by omega⟩
  have hk' : (szT (.i .i64) x.1 + (szT (.i .i64) x.2.1 + (szT (.i .i64) x.2.2.1 + szT (.l 167 s166) x.2.2.2))) + 6 < k + 1 := hk
  obtain ⟨r0, r1, r2, r3⟩ : rowsLe 140737488351232 (.i .i64) x.1 ∧ rowsLe 140737488351232 (.i .i64) x.2.1 ∧ rowsLe 140737488351232 (.i .i64) x.2.2.1 ∧ rowsLe 140737488351232 (.l 167 s166) x.2.2.2 := hr
  have f0 : szT (.i .i64) x.1 = 0 := szT_flat _ _ rfl
  have f1 : szT (.i .i64) x.2.1 = 0 := szT_flat _ _ rfl
  have f2 : szT (.i .i64) x.2.2.1 = 0 := szT_flat _ _ rfl
  have ht : szT s28 x = szT (.l 167 s166) x.2.2.2 + 0 := by
    show (szT (.i .i64) x.1 + (szT (.i .i64) x.2.1 + (szT (.i .i64) x.2.2.1 + szT (.l 167 s166) x.2.2.2))) = _
    omega
  rw [e31, ht]
  exact sz_step (z73 k _ _ r3 (by omega) h0 h1) h0 h1 fun p1 q1 w1 => szR_zero q1
theorem z32 (k : Nat) (x : List Int) (left : Int) (hr : rowsLe 140737488351232 s31 x) (hk : szT s31 x + 2 < k) (h0 : 0 ≤ left) (h1 : left ≤ 1048576) : F32 k x left = some (szR (szT s31 x) left) := by
  obtain ⟨k, rfl⟩ : ∃ q, k = q + 1 := ⟨k - 1, by omega⟩
  have hk' : szT (.l 3 (.i .i64)) x + 2 < k + 1 := hk
  have r0 : rowsLe 140737488351232 (.l 3 (.i .i64)) x := hr
  have ht : szT s31 x = szT (.l 3 (.i .i64)) x + 0 := by
    show szT (.l 3 (.i .i64)) x = _
    omega
  rw [e32, ht]
  exact sz_step (z33 k _ _ r0 (by omega) h0 h1) h0 h1 fun p1 q1 w1 => szR_zero q1
theorem z34 (k : Nat) (x : List (Int × Int × Int × Int × Int × Int)) (left : Int) (hr : rowsLe 140737488351232 (.l 132 s105) x) (hk : szT (.l 132 s105) x + 1 < k) (h0 : 0 ≤ left) (h1 : left ≤ 1048576) : F34 k x left = some (szR (szT (.l 132 s105) x) left) := by
  obtain ⟨k, rfl⟩ : ∃ q, k = q + 1 := ⟨k - 1, by omega⟩
  have hl : x.length ≤ 140737488351232 := (rowsLe_row hr).1
  have hz : szT (.l 132 s105) x = x.length := szT_row (e := 132) (sh := s105) rfl x
  exact (e34 k x left).trans ((sz_leaf hl h0 h1).trans (congrArg (fun n => some (szR n left)) hz.symm))
theorem z39 (k : Nat) (x : List (Int × Int × Int × Int × Int × Int)) (left : Int) (hr : rowsLe 140737488351232 (.l 144 s105) x) (hk : szT (.l 144 s105) x + 1 < k) (h0 : 0 ≤ left) (h1 : left ≤ 1048576) : F39 k x left = some (szR (szT (.l 144 s105) x) left) := by
  obtain ⟨k, rfl⟩ : ∃ q, k = q + 1 := ⟨k - 1, by omega⟩
  have hl : x.length ≤ 140737488351232 := (rowsLe_row hr).1
  have hz : szT (.l 144 s105) x = x.length := szT_row (e := 144) (sh := s105) rfl x
  exact (e39 k x left).trans ((sz_leaf hl h0 h1).trans (congrArg (fun n => some (szR n left)) hz.symm))
theorem z74 (k : Nat) (x : List (Int × Int × Int × Int × Int × Int)) (left : Int) (hr : rowsLe 140737488351232 s123 x) (hk : szT s123 x + 2 < k) (h0 : 0 ≤ left) (h1 : left ≤ 1048576) : F74 k x left = some (szR (szT s123 x) left) := by
  obtain ⟨k, rfl⟩ : ∃ q, k = q + 1 := ⟨k - 1, by omega⟩
  have hk' : szT (.l 144 s105) x + 2 < k + 1 := hk
  have r0 : rowsLe 140737488351232 (.l 144 s105) x := hr
  have ht : szT s123 x = szT (.l 144 s105) x + 0 := by
    show szT (.l 144 s105) x = _
    omega
  rw [e74, ht]
  exact sz_step (z39 k _ _ r0 (by omega) h0 h1) h0 h1 fun p1 q1 w1 => szR_zero q1
theorem z35 (k : Nat) (x : List (List (Int × Int × Int × Int × Int × Int))) (left : Int) (hr : rowsLe 140737488351232 (.l 124 s123) x) (hk : szT (.l 124 s123) x + 3 < k) (h0 : 0 ≤ left) (h1 : left ≤ 1048576) : F35 k x left = some (szR (szT (.l 124 s123) x) left) := by
  obtain ⟨k, rfl⟩ : ∃ q, k = q + 1 := ⟨k - 1, by omega⟩
  obtain ⟨hl, hr⟩ : x.length ≤ 140737488351232 ∧ ∀ y ∈ x, rowsLe 140737488351232 s123 y := rowsLe_row hr
  have hk' : x.length + sumL (szT s123) x + 3 < k + 1 := hk
  have hw : 0 ≤ left - (x.length : Int) → IntKind.i64.wrap (left - (x.length : Int)) = left - x.length := fun _ => wrap_id (by omega) (by omega)
  refine (e35 k x left).trans (sz_rows (α := List (Int × Int × Int × Int × Int × Int)) (s := szT s123) hl h0 h1 fun hp => ?_)
  rw [hw hp]
  have := szS_loop (L := L35_0 k _ _) (f := fun y p => F74 k y p) (fun _ _ => rfl) (neg := some (-1)) (fin := fun p => some p) (fun _ _ _ => rfl) (fun _ => rfl) (s := szT s123) (a := x) (fun y hy p q0 q1 => z74 k y p (hr y hy) (by have := sumL_le (f := szT s123) hy; omega) q0 q1) hl x.length k 0 (left - x.length) (by omega) (by omega) (by omega) (by omega)
  exact this
theorem z36 (k : Nat) (x : List (Int × Int × Int × Int)) (left : Int) (hr : rowsLe 140737488351232 (.l 137 s109) x) (hk : szT (.l 137 s109) x + 1 < k) (h0 : 0 ≤ left) (h1 : left ≤ 1048576) : F36 k x left = some (szR (szT (.l 137 s109) x) left) := by
  obtain ⟨k, rfl⟩ : ∃ q, k = q + 1 := ⟨k - 1, by omega⟩
  have hl : x.length ≤ 140737488351232 := (rowsLe_row hr).1
  have hz : szT (.l 137 s109) x = x.length := szT_row (e := 137) (sh := s109) rfl x
  exact (e36 k x left).trans ((sz_leaf hl h0 h1).trans (congrArg (fun n => some (szR n left)) hz.symm))
theorem z75 (k : Nat) (x : Int × Int × List Int) (left : Int) (hr : rowsLe 140737488351232 s111 x) (hk : szT s111 x + 2 < k) (h0 : 0 ≤ left) (h1 : left ≤ 1048576) : F75 k x left = some (szR (szT s111 x) left) := by
  obtain ⟨k, rfl⟩ : ∃ q, k = q + 1 := ⟨k - 1, by omega⟩
  have hk' : (szT (.i .i64) x.1 + (szT (.i .i64) x.2.1 + szT (.l 3 (.i .i64)) x.2.2)) + 2 < k + 1 := hk
  obtain ⟨r0, r1, r2⟩ : rowsLe 140737488351232 (.i .i64) x.1 ∧ rowsLe 140737488351232 (.i .i64) x.2.1 ∧ rowsLe 140737488351232 (.l 3 (.i .i64)) x.2.2 := hr
  have f0 : szT (.i .i64) x.1 = 0 := szT_flat _ _ rfl
  have f1 : szT (.i .i64) x.2.1 = 0 := szT_flat _ _ rfl
  have ht : szT s111 x = szT (.l 3 (.i .i64)) x.2.2 + 0 := by
    show (szT (.i .i64) x.1 + (szT (.i .i64) x.2.1 + szT (.l 3 (.i .i64)) x.2.2)) = _
    omega
  rw [e75, ht]
  exact sz_step (z33 k _ _ r2 (by omega) h0 h1) h0 h1 fun p1 q1 w1 => szR_zero q1
theorem z37 (k : Nat) (x : List (Int × Int × List Int)) (left : Int) (hr : rowsLe 140737488351232 (.l 126 s111) x) (hk : szT (.l 126 s111) x + 3 < k) (h0 : 0 ≤ left) (h1 : left ≤ 1048576) : F37 k x left = some (szR (szT (.l 126 s111) x) left) := by
  obtain ⟨k, rfl⟩ : ∃ q, k = q + 1 := ⟨k - 1, by omega⟩
  obtain ⟨hl, hr⟩ : x.length ≤ 140737488351232 ∧ ∀ y ∈ x, rowsLe 140737488351232 s111 y := rowsLe_row hr
  have hk' : x.length + sumL (szT s111) x + 3 < k + 1 := hk
  have hw : 0 ≤ left - (x.length : Int) → IntKind.i64.wrap (left - (x.length : Int)) = left - x.length := fun _ => wrap_id (by omega) (by omega)
  refine (e37 k x left).trans (sz_rows (α := Int × Int × List Int) (s := szT s111) hl h0 h1 fun hp => ?_)
  rw [hw hp]
  have := szS_loop (L := L37_0 k _ _) (f := fun y p => F75 k y p) (fun _ _ => rfl) (neg := some (-1)) (fin := fun p => some p) (fun _ _ _ => rfl) (fun _ => rfl) (s := szT s111) (a := x) (fun y hy p q0 q1 => z75 k y p (hr y hy) (by have := sumL_le (f := szT s111) hy; omega) q0 q1) hl x.length k 0 (left - x.length) (by omega) (by omega) (by omega) (by omega)
  exact this
theorem z38 (k : Nat) (x : List (Int × Int × Int × Int)) (left : Int) (hr : rowsLe 140737488351232 (.l 142 s109) x) (hk : szT (.l 142 s109) x + 1 < k) (h0 : 0 ≤ left) (h1 : left ≤ 1048576) : F38 k x left = some (szR (szT (.l 142 s109) x) left) := by
  obtain ⟨k, rfl⟩ : ∃ q, k = q + 1 := ⟨k - 1, by omega⟩
  have hl : x.length ≤ 140737488351232 := (rowsLe_row hr).1
  have hz : szT (.l 142 s109) x = x.length := szT_row (e := 142) (sh := s109) rfl x
  exact (e38 k x left).trans ((sz_leaf hl h0 h1).trans (congrArg (fun n => some (szR n left)) hz.symm))
theorem z40 (k : Nat) (x : List (Int × Int × Int × Int)) (left : Int) (hr : rowsLe 140737488351232 (.l 146 s109) x) (hk : szT (.l 146 s109) x + 1 < k) (h0 : 0 ≤ left) (h1 : left ≤ 1048576) : F40 k x left = some (szR (szT (.l 146 s109) x) left) := by
  obtain ⟨k, rfl⟩ : ∃ q, k = q + 1 := ⟨k - 1, by omega⟩
  have hl : x.length ≤ 140737488351232 := (rowsLe_row hr).1
  have hz : szT (.l 146 s109) x = x.length := szT_row (e := 146) (sh := s109) rfl x
  exact (e40 k x left).trans ((sz_leaf hl h0 h1).trans (congrArg (fun n => some (szR n left)) hz.symm))
theorem z11 (k : Nat) (x : (Int × (List (Int × Int × Int × Int)) × (List (Int × Int × Int)) × Int × Int × Int × Int × Int × (List (Int × Int × Int)) × Int) × (Int × Int × Int × List ((Int × Int) × (List (Int × Int)) × List (Int × (List Int) × List Int))) × (List Int) × (List Int) × (List (Int × Int × Int × Int × Int × Int)) × (List (List (Int × Int × Int × Int × Int × Int))) × (List (Int × Int × Int × Int)) × (List Int) × (List (Int × Int × List Int)) × (List (Int × Int × Int × Int)) × Int × Int × (List (Int × Int × Int × Int × Int × Int)) × List (Int × Int × Int × Int)) (left : Int) (hr : rowsLe 140737488351232 s40 x) (hk : szT s40 x + 7 < k) (h0 : 0 ≤ left) (h1 : left ≤ 1048576) : F11 k x left = some (szR (szT s40 x) left) := by
  obtain ⟨k, rfl⟩ : ∃ q, k = q + 1 := ⟨k - 1, by omega⟩
  have hk' : (szT s25 x.1 + (szT s28 x.2.1 + (szT s31 x.2.2.1 + (szT (.l 3 (.i .i64)) x.2.2.2.1 + (szT (.l 132 s105) x.2.2.2.2.1 + (szT (.l 124 s123) x.2.2.2.2.2.1 + (szT (.l 137 s109) x.2.2.2.2.2.2.1 + (szT (.l 3 (.i .i64)) x.2.2.2.2.2.2.2.1 + (szT (.l 126 s111) x.2.2.2.2.2.2.2.2.1 + (szT (.l 142 s109) x.2.2.2.2.2.2.2.2.2.1 + (szT (.i .i64) x.2.2.2.2.2.2.2.2.2.2.1 + (szT (.i .i64) x.2.2.2.2.2.2.2.2.2.2.2.1 + (szT (.l 144 s105) x.2.2.2.2.2.2.2.2.2.2.2.2.1 + szT (.l 146 s109) x.2.2.2.2.2.2.2.2.2.2.2.2.2))))))))))))) + 7 < k + 1 := hk
  obtain ⟨r0, r1, r2, r3, r4, r5, r6, r7, r8, r9, r10, r11, r12, r13⟩ : rowsLe 140737488351232 s25 x.1 ∧ rowsLe 140737488351232 s28 x.2.1 ∧ rowsLe 140737488351232 s31 x.2.2.1 ∧ rowsLe 140737488351232 (.l 3 (.i .i64)) x.2.2.2.1 ∧ rowsLe 140737488351232 (.l 132 s105) x.2.2.2.2.1 ∧ rowsLe 140737488351232 (.l 124 s123) x.2.2.2.2.2.1 ∧ rowsLe 140737488351232 (.l 137 s109) x.2.2.2.2.2.2.1 ∧ rowsLe 140737488351232 (.l 3 (.i .i64)) x.2.2.2.2.2.2.2.1 ∧ rowsLe 140737488351232 (.l 126 s111) x.2.2.2.2.2.2.2.2.1 ∧ rowsLe 140737488351232 (.l 142 s109) x.2.2.2.2.2.2.2.2.2.1 ∧ rowsLe 140737488351232 (.i .i64) x.2.2.2.2.2.2.2.2.2.2.1 ∧ rowsLe 140737488351232 (.i .i64) x.2.2.2.2.2.2.2.2.2.2.2.1 ∧ rowsLe 140737488351232 (.l 144 s105) x.2.2.2.2.2.2.2.2.2.2.2.2.1 ∧ rowsLe 140737488351232 (.l 146 s109) x.2.2.2.2.2.2.2.2.2.2.2.2.2 := hr
  have f10 : szT (.i .i64) x.2.2.2.2.2.2.2.2.2.2.1 = 0 := szT_flat _ _ rfl
  have f11 : szT (.i .i64) x.2.2.2.2.2.2.2.2.2.2.2.1 = 0 := szT_flat _ _ rfl
  have ht : szT s40 x = szT s25 x.1 + (szT s28 x.2.1 + (szT s31 x.2.2.1 + (szT (.l 3 (.i .i64)) x.2.2.2.1 + (szT (.l 132 s105) x.2.2.2.2.1 + (szT (.l 124 s123) x.2.2.2.2.2.1 + (szT (.l 137 s109) x.2.2.2.2.2.2.1 + (szT (.l 3 (.i .i64)) x.2.2.2.2.2.2.2.1 + (szT (.l 126 s111) x.2.2.2.2.2.2.2.2.1 + (szT (.l 142 s109) x.2.2.2.2.2.2.2.2.2.1 + (szT (.l 144 s105) x.2.2.2.2.2.2.2.2.2.2.2.2.1 + (szT (.l 146 s109) x.2.2.2.2.2.2.2.2.2.2.2.2.2 + 0))))))))))) := by
    show (szT s25 x.1 + (szT s28 x.2.1 + (szT s31 x.2.2.1 + (szT (.l 3 (.i .i64)) x.2.2.2.1 + (szT (.l 132 s105) x.2.2.2.2.1 + (szT (.l 124 s123) x.2.2.2.2.2.1 + (szT (.l 137 s109) x.2.2.2.2.2.2.1 + (szT (.l 3 (.i .i64)) x.2.2.2.2.2.2.2.1 + (szT (.l 126 s111) x.2.2.2.2.2.2.2.2.1 + (szT (.l 142 s109) x.2.2.2.2.2.2.2.2.2.1 + (szT (.i .i64) x.2.2.2.2.2.2.2.2.2.2.1 + (szT (.i .i64) x.2.2.2.2.2.2.2.2.2.2.2.1 + (szT (.l 144 s105) x.2.2.2.2.2.2.2.2.2.2.2.2.1 + szT (.l 146 s109) x.2.2.2.2.2.2.2.2.2.2.2.2.2))))))))))))) = _
    omega
  rw [e11, ht]
  exact sz_step (z30 k _ _ r0 (by omega) h0 h1) h0 h1 fun p1 q1 w1 => sz_step (z31 k _ _ r1 (by omega) q1 w1) q1 w1 fun p2 q2 w2 => sz_step (z32 k _ _ r2 (by omega) q2 w2) q2 w2 fun p3 q3 w3 => sz_step (z33 k _ _ r3 (by omega) q3 w3) q3 w3 fun p4 q4 w4 => sz_step (z34 k _ _ r4 (by omega) q4 w4) q4 w4 fun p5 q5 w5 => sz_step (z35 k _ _ r5 (by omega) q5 w5) q5 w5 fun p6 q6 w6 => sz_step (z36 k _ _ r6 (by omega) q6 w6) q6 w6 fun p7 q7 w7 => sz_step (z33 k _ _ r7 (by omega) q7 w7) q7 w7 fun p8 q8 w8 => sz_step (z37 k _ _ r8 (by omega) q8 w8) q8 w8 fun p9 q9 w9 => sz_step (z38 k _ _ r9 (by omega) q9 w9) q9 w9 fun p10 q10 w10 => sz_step (z39 k _ _ r12 (by omega) q10 w10) q10 w10 fun p11 q11 w11 => sz_step (z40 k _ _ r13 (by omega) q11 w11) q11 w11 fun p12 q12 w12 => szR_zero q12
theorem t102 (k : Nat) (x : Int × Int × Int × Int) (hz : szT s109 x ≤ 1048576) (hk : szT s109 x + 1 < k) : F102 k x = some x := by
  obtain ⟨k, rfl⟩ : ∃ q, k = q + 1 := ⟨k - 1, by omega⟩
  have hk' : (szT (.i .i64) x.1 + (szT (.i .i64) x.2.1 + (szT (.i .i64) x.2.2.1 + szT (.i .i64) x.2.2.2))) + 1 < k + 1 := hk
  have hz' : (szT (.i .i64) x.1 + (szT (.i .i64) x.2.1 + (szT (.i .i64) x.2.2.1 + szT (.i .i64) x.2.2.2))) ≤ 1048576 := hz
  exact e102 k x
theorem t76 (k : Nat) (x : List (Int × Int × Int × Int)) (hz : szT (.l 171 s109) x ≤ 1048576) (hk : szT (.l 171 s109) x + 2 < k) : F76 k x = some x := by
  obtain ⟨k, rfl⟩ : ∃ q, k = q + 1 := ⟨k - 1, by omega⟩
  have hk' : x.length + sumL (szT s109) x + 2 < k + 1 := hk
  have hz' : x.length + sumL (szT s109) x ≤ 1048576 := hz
  refine (e76 k x).trans ?_
  rw [if_pos rfl, if_pos (by omega), if_pos (by simp; omega)]
  exact toS_loop (α := Int × Int × Int × Int) (L := L76_0 k _) (f := fun y => F102 k y) (fun _ _ => rfl) (a := x) (fun y hy => t102 k y (by have := sumL_le (f := szT s109) hy; omega) (by have := sumL_le (f := szT s109) hy; omega)) (by omega) x.length k 0 _ (by omega) (by omega) (by simp) (by simp)
theorem t103 (k : Nat) (x : Int × Int × Int) (hz : szT s172 x ≤ 1048576) (hk : szT s172 x + 1 < k) : F103 k x = some x := by
  obtain ⟨k, rfl⟩ : ∃ q, k = q + 1 := ⟨k - 1, by omega⟩
  have hk' : (szT (.i .i64) x.1 + (szT (.i .i64) x.2.1 + szT (.i .i64) x.2.2)) + 1 < k + 1 := hk
  have hz' : (szT (.i .i64) x.1 + (szT (.i .i64) x.2.1 + szT (.i .i64) x.2.2)) ≤ 1048576 := hz
  exact e103 k x
theorem t77 (k : Nat) (x : List (Int × Int × Int)) (hz : szT (.l 175 s172) x ≤ 1048576) (hk : szT (.l 175 s172) x + 2 < k) : F77 k x = some x := by
  obtain ⟨k, rfl⟩ : ∃ q, k = q + 1 := ⟨k - 1, by omega⟩
  have hk' : x.length + sumL (szT s172) x + 2 < k + 1 := hk
  have hz' : x.length + sumL (szT s172) x ≤ 1048576 := hz
  refine (e77 k x).trans ?_
  rw [if_pos rfl, if_pos (by omega), if_pos (by simp; omega)]
  exact toS_loop (α := Int × Int × Int) (L := L77_0 k _) (f := fun y => F103 k y) (fun _ _ => rfl) (a := x) (fun y hy => t103 k y (by have := sumL_le (f := szT s172) hy; omega) (by have := sumL_le (f := szT s172) hy; omega)) (by omega) x.length k 0 _ (by omega) (by omega) (by simp) (by simp)
theorem t112 (k : Nat) (x : Int × Int) (hz : szT s162 x ≤ 1048576) (hk : szT s162 x + 1 < k) : F112 k x = some x := by
  obtain ⟨k, rfl⟩ : ∃ q, k = q + 1 := ⟨k - 1, by omega⟩
  have hk' : (szT (.i .i64) x.1 + szT (.i .i64) x.2) + 1 < k + 1 := hk
  have hz' : (szT (.i .i64) x.1 + szT (.i .i64) x.2) ≤ 1048576 := hz
  exact e112 k x
theorem t104 (k : Nat) (x : Int × Int × Int) (hz : szT s178 x ≤ 1048576) (hk : szT s178 x + 2 < k) : F104 k x = some x := by
  obtain ⟨k, rfl⟩ : ∃ q, k = q + 1 := ⟨k - 1, by omega⟩
  have hk' : (szT (.i .i64) x.1 + szT s162 x.2) + 2 < k + 1 := hk
  have hz' : (szT (.i .i64) x.1 + szT s162 x.2) ≤ 1048576 := hz
  have g0 : F112 k x.2 = some x.2 := t112 k x.2 (by omega) (by omega)
  refine (e104 k x).trans ?_
  simp only [g0, Option.bind_some, bne_self_eq_false, beq_self_eq_true, Bool.not_true, Bool.false_eq_true, if_false]
theorem t78 (k : Nat) (x : List (Int × Int × Int)) (hz : szT (.l 183 s178) x ≤ 1048576) (hk : szT (.l 183 s178) x + 3 < k) : F78 k x = some x := by
  obtain ⟨k, rfl⟩ : ∃ q, k = q + 1 := ⟨k - 1, by omega⟩
  have hk' : x.length + sumL (szT s178) x + 3 < k + 1 := hk
  have hz' : x.length + sumL (szT s178) x ≤ 1048576 := hz
  refine (e78 k x).trans ?_
  rw [if_pos rfl, if_pos (by omega), if_pos (by simp; omega)]
  exact toS_loop (α := Int × Int × Int) (L := L78_0 k _) (f := fun y => F104 k y) (fun _ _ => rfl) (a := x) (fun y hy => t104 k y (by have := sumL_le (f := szT s178) hy; omega) (by have := sumL_le (f := szT s178) hy; omega)) (by omega) x.length k 0 _ (by omega) (by omega) (by simp) (by simp)
theorem t41 (k : Nat) (x : Int × (List (Int × Int × Int × Int)) × (List (Int × Int × Int)) × Int × Int × Int × Int × Int × (List (Int × Int × Int)) × Int) (hz : szT s25 x ≤ 1048576) (hk : szT s25 x + 4 < k) : F41 k x = some x := by
  obtain ⟨k, rfl⟩ : ∃ q, k = q + 1 := ⟨k - 1, by omega⟩
  have hk' : (szT (.i .i64) x.1 + (szT (.l 171 s109) x.2.1 + (szT (.l 175 s172) x.2.2.1 + (szT (.i .i64) x.2.2.2.1 + (szT (.i .i64) x.2.2.2.2.1 + (szT (.i .i64) x.2.2.2.2.2.1 + (szT (.i .i64) x.2.2.2.2.2.2.1 + (szT (.i .i64) x.2.2.2.2.2.2.2.1 + (szT (.l 183 s178) x.2.2.2.2.2.2.2.2.1 + szT (.i .i64) x.2.2.2.2.2.2.2.2.2))))))))) + 4 < k + 1 := hk
  have hz' : (szT (.i .i64) x.1 + (szT (.l 171 s109) x.2.1 + (szT (.l 175 s172) x.2.2.1 + (szT (.i .i64) x.2.2.2.1 + (szT (.i .i64) x.2.2.2.2.1 + (szT (.i .i64) x.2.2.2.2.2.1 + (szT (.i .i64) x.2.2.2.2.2.2.1 + (szT (.i .i64) x.2.2.2.2.2.2.2.1 + (szT (.l 183 s178) x.2.2.2.2.2.2.2.2.1 + szT (.i .i64) x.2.2.2.2.2.2.2.2.2))))))))) ≤ 1048576 := hz
  have g0 : F76 k x.2.1 = some x.2.1 := t76 k x.2.1 (by omega) (by omega)
  have g1 : F77 k x.2.2.1 = some x.2.2.1 := t77 k x.2.2.1 (by omega) (by omega)
  have g2 : F78 k x.2.2.2.2.2.2.2.2.1 = some x.2.2.2.2.2.2.2.2.1 := t78 k x.2.2.2.2.2.2.2.2.1 (by omega) (by omega)
  refine (e41 k x).trans ?_
  simp only [g0, g1, g2, Option.bind_some, bne_self_eq_false, beq_self_eq_true, Bool.not_true, Bool.false_eq_true, if_false]
theorem t113 (k : Nat) (x : Int × Int) (hz : szT s162 x ≤ 1048576) (hk : szT s162 x + 1 < k) : F113 k x = some x := by
  obtain ⟨k, rfl⟩ : ∃ q, k = q + 1 := ⟨k - 1, by omega⟩
  have hk' : (szT (.i .i64) x.1 + szT (.i .i64) x.2) + 1 < k + 1 := hk
  have hz' : (szT (.i .i64) x.1 + szT (.i .i64) x.2) ≤ 1048576 := hz
  exact e113 k x
theorem t121 (k : Nat) (x : Int × Int) (hz : szT s162 x ≤ 1048576) (hk : szT s162 x + 1 < k) : F121 k x = some x := by
  obtain ⟨k, rfl⟩ : ∃ q, k = q + 1 := ⟨k - 1, by omega⟩
  have hk' : (szT (.i .i64) x.1 + szT (.i .i64) x.2) + 1 < k + 1 := hk
  have hz' : (szT (.i .i64) x.1 + szT (.i .i64) x.2) ≤ 1048576 := hz
  exact e121 k x
theorem t114 (k : Nat) (x : List (Int × Int)) (hz : szT (.l 210 s162) x ≤ 1048576) (hk : szT (.l 210 s162) x + 2 < k) : F114 k x = some x := by
  obtain ⟨k, rfl⟩ : ∃ q, k = q + 1 := ⟨k - 1, by omega⟩
  have hk' : x.length + sumL (szT s162) x + 2 < k + 1 := hk
  have hz' : x.length + sumL (szT s162) x ≤ 1048576 := hz
  refine (e114 k x).trans ?_
  rw [if_pos rfl, if_pos (by omega), if_pos (by simp; omega)]
  exact toS_loop (α := Int × Int) (L := L114_0 k _) (f := fun y => F121 k y) (fun _ _ => rfl) (a := x) (fun y hy => t121 k y (by have := sumL_le (f := szT s162) hy; omega) (by have := sumL_le (f := szT s162) hy; omega)) (by omega) x.length k 0 _ (by omega) (by omega) (by simp) (by simp)
theorem t44 (k : Nat) (x : List Int) (hz : szT (.l 3 (.i .i64)) x ≤ 1048576) (hk : szT (.l 3 (.i .i64)) x + 1 < k) : F44 k x = some x := by
  obtain ⟨k, rfl⟩ : ∃ q, k = q + 1 := ⟨k - 1, by omega⟩
  have hk' : x.length + sumL (szT (.i .i64)) x + 1 < k + 1 := hk
  have hz' : x.length + sumL (szT (.i .i64)) x ≤ 1048576 := hz
  refine (e44 k x).trans ?_
  rw [if_pos rfl, if_pos (by omega), if_pos (by simp; omega)]
  exact toS_loop (α := Int) (L := L44_0 k _) (f := fun y => some y) (fun _ _ => rfl) (a := x) (fun _ _ => rfl) (by omega) x.length k 0 _ (by omega) (by omega) (by simp) (by simp)
theorem t122 (k : Nat) (x : Int × (List Int) × List Int) (hz : szT s205 x ≤ 1048576) (hk : szT s205 x + 2 < k) : F122 k x = some x := by
  obtain ⟨k, rfl⟩ : ∃ q, k = q + 1 := ⟨k - 1, by omega⟩
  have hk' : (szT (.i .i64) x.1 + (szT (.l 3 (.i .i64)) x.2.1 + szT (.l 3 (.i .i64)) x.2.2)) + 2 < k + 1 := hk
  have hz' : (szT (.i .i64) x.1 + (szT (.l 3 (.i .i64)) x.2.1 + szT (.l 3 (.i .i64)) x.2.2)) ≤ 1048576 := hz
  have g0 : F44 k x.2.1 = some x.2.1 := t44 k x.2.1 (by omega) (by omega)
  have g1 : F44 k x.2.2 = some x.2.2 := t44 k x.2.2 (by omega) (by omega)
  refine (e122 k x).trans ?_
  simp only [g0, g1, Option.bind_some, bne_self_eq_false, beq_self_eq_true, Bool.not_true, Bool.false_eq_true, if_false]
theorem t115 (k : Nat) (x : List (Int × (List Int) × List Int)) (hz : szT (.l 206 s205) x ≤ 1048576) (hk : szT (.l 206 s205) x + 3 < k) : F115 k x = some x := by
  obtain ⟨k, rfl⟩ : ∃ q, k = q + 1 := ⟨k - 1, by omega⟩
  have hk' : x.length + sumL (szT s205) x + 3 < k + 1 := hk
  have hz' : x.length + sumL (szT s205) x ≤ 1048576 := hz
  refine (e115 k x).trans ?_
  rw [if_pos rfl, if_pos (by omega), if_pos (by simp; omega)]
  exact toS_loop (α := Int × (List Int) × List Int) (L := L115_0 k _) (f := fun y => F122 k y) (fun _ _ => rfl) (a := x) (fun y hy => t122 k y (by have := sumL_le (f := szT s205) hy; omega) (by have := sumL_le (f := szT s205) hy; omega)) (by omega) x.length k 0 _ (by omega) (by omega) (by simp) (by simp)
theorem t105 (k : Nat) (x : (Int × Int) × (List (Int × Int)) × List (Int × (List Int) × List Int)) (hz : szT s166 x ≤ 1048576) (hk : szT s166 x + 4 < k) : F105 k x = some x := by
  obtain ⟨k, rfl⟩ : ∃ q, k = q + 1 := ⟨k - 1, by omega⟩
  have hk' : (szT s162 x.1 + (szT (.l 210 s162) x.2.1 + szT (.l 206 s205) x.2.2)) + 4 < k + 1 := hk
  have hz' : (szT s162 x.1 + (szT (.l 210 s162) x.2.1 + szT (.l 206 s205) x.2.2)) ≤ 1048576 := hz
  have g0 : F113 k x.1 = some x.1 := t113 k x.1 (by omega) (by omega)
  have g1 : F114 k x.2.1 = some x.2.1 := t114 k x.2.1 (by omega) (by omega)
  have g2 : F115 k x.2.2 = some x.2.2 := t115 k x.2.2 (by omega) (by omega)
  refine (e105 k x).trans ?_
  simp only [g0, g1, g2, Option.bind_some, bne_self_eq_false, beq_self_eq_true, Bool.not_true, Bool.false_eq_true, if_false]
theorem t79 (k : Nat) (x : List ((Int × Int) × (List (Int × Int)) × List (Int × (List Int) × List Int))) (hz : szT (.l 167 s166) x ≤ 1048576) (hk : szT (.l 167 s166) x + 5 < k) : F79 k x = some x := by
  obtain ⟨k, rfl⟩ : ∃ q, k = q + 1 := ⟨k - 1, by omega⟩
  have hk' : x.length + sumL (szT s166) x + 5 < k + 1 := hk
  have hz' : x.length + sumL (szT s166) x ≤ 1048576 := hz
  refine (e79 k x).trans ?_
  rw [if_pos rfl, if_pos (by omega), if_pos (by simp; omega)]
  exact toS_loop (α := (Int × Int) × (List (Int × Int)) × List (Int × (List Int) × List Int)) (L := L79_0 k _) (f := fun y => F105 k y) (fun _ _ => rfl) (a := x) (fun y hy => t105 k y (by have := sumL_le (f := szT s166) hy; omega) (by have := sumL_le (f := szT s166) hy; omega)) (by omega) x.length k 0 _ (by omega) (by omega) (by simp) (by simp)
theorem t42 (k : Nat) (x : Int × Int × Int × List ((Int × Int) × (List (Int × Int)) × List (Int × (List Int) × List Int))) (hz : szT s28 x ≤ 1048576) (hk : szT s28 x + 6 < k) : F42 k x = some x := by
  obtain ⟨k, rfl⟩ : ∃ q, k = q + 1 := ⟨k - 1, by omega⟩
  have hk' : (szT (.i .i64) x.1 + (szT (.i .i64) x.2.1 + (szT (.i .i64) x.2.2.1 + szT (.l 167 s166) x.2.2.2))) + 6 < k + 1 := hk
  have hz' : (szT (.i .i64) x.1 + (szT (.i .i64) x.2.1 + (szT (.i .i64) x.2.2.1 + szT (.l 167 s166) x.2.2.2))) ≤ 1048576 := hz
  have g0 : F79 k x.2.2.2 = some x.2.2.2 := t79 k x.2.2.2 (by omega) (by omega)
  refine (e42 k x).trans ?_
  simp only [g0, Option.bind_some, bne_self_eq_false, beq_self_eq_true, Bool.not_true, Bool.false_eq_true, if_false]
theorem t43 (k : Nat) (x : List Int) (hz : szT s31 x ≤ 1048576) (hk : szT s31 x + 2 < k) : F43 k x = some x := by
  obtain ⟨k, rfl⟩ : ∃ q, k = q + 1 := ⟨k - 1, by omega⟩
  have hk' : szT (.l 3 (.i .i64)) x + 2 < k + 1 := hk
  have hz' : szT (.l 3 (.i .i64)) x ≤ 1048576 := hz
  have g0 : F44 k x = some x := t44 k x (by omega) (by omega)
  refine (e43 k x).trans ?_
  simp only [g0, Option.bind_some, bne_self_eq_false, beq_self_eq_true, Bool.not_true, Bool.false_eq_true, if_false]
theorem t80 (k : Nat) (x : Int × Int × Int × Int × Int × Int) (hz : szT s105 x ≤ 1048576) (hk : szT s105 x + 1 < k) : F80 k x = some x := by
  obtain ⟨k, rfl⟩ : ∃ q, k = q + 1 := ⟨k - 1, by omega⟩
  have hk' : (szT (.i .i64) x.1 + (szT (.i .i64) x.2.1 + (szT (.i .i64) x.2.2.1 + (szT (.i .i64) x.2.2.2.1 + (szT (.i .i64) x.2.2.2.2.1 + szT (.i .i64) x.2.2.2.2.2))))) + 1 < k + 1 := hk
  have hz' : (szT (.i .i64) x.1 + (szT (.i .i64) x.2.1 + (szT (.i .i64) x.2.2.1 + (szT (.i .i64) x.2.2.2.1 + (szT (.i .i64) x.2.2.2.2.1 + szT (.i .i64) x.2.2.2.2.2))))) ≤ 1048576 := hz
  exact e80 k x
theorem t45 (k : Nat) (x : List (Int × Int × Int × Int × Int × Int)) (hz : szT (.l 132 s105) x ≤ 1048576) (hk : szT (.l 132 s105) x + 2 < k) : F45 k x = some x := by
  obtain ⟨k, rfl⟩ : ∃ q, k = q + 1 := ⟨k - 1, by omega⟩
  have hk' : x.length + sumL (szT s105) x + 2 < k + 1 := hk
  have hz' : x.length + sumL (szT s105) x ≤ 1048576 := hz
  refine (e45 k x).trans ?_
  rw [if_pos rfl, if_pos (by omega), if_pos (by simp; omega)]
  exact toS_loop (α := Int × Int × Int × Int × Int × Int) (L := L45_0 k _) (f := fun y => F80 k y) (fun _ _ => rfl) (a := x) (fun y hy => t80 k y (by have := sumL_le (f := szT s105) hy; omega) (by have := sumL_le (f := szT s105) hy; omega)) (by omega) x.length k 0 _ (by omega) (by omega) (by simp) (by simp)
theorem t85 (k : Nat) (x : Int × Int × Int × Int × Int × Int) (hz : szT s105 x ≤ 1048576) (hk : szT s105 x + 1 < k) : F85 k x = some x := by
  obtain ⟨k, rfl⟩ : ∃ q, k = q + 1 := ⟨k - 1, by omega⟩
  have hk' : (szT (.i .i64) x.1 + (szT (.i .i64) x.2.1 + (szT (.i .i64) x.2.2.1 + (szT (.i .i64) x.2.2.2.1 + (szT (.i .i64) x.2.2.2.2.1 + szT (.i .i64) x.2.2.2.2.2))))) + 1 < k + 1 := hk
  have hz' : (szT (.i .i64) x.1 + (szT (.i .i64) x.2.1 + (szT (.i .i64) x.2.2.1 + (szT (.i .i64) x.2.2.2.1 + (szT (.i .i64) x.2.2.2.2.1 + szT (.i .i64) x.2.2.2.2.2))))) ≤ 1048576 := hz
  exact e85 k x
theorem t50 (k : Nat) (x : List (Int × Int × Int × Int × Int × Int)) (hz : szT (.l 144 s105) x ≤ 1048576) (hk : szT (.l 144 s105) x + 2 < k) : F50 k x = some x := by
  obtain ⟨k, rfl⟩ : ∃ q, k = q + 1 := ⟨k - 1, by omega⟩
  have hk' : x.length + sumL (szT s105) x + 2 < k + 1 := hk
  have hz' : x.length + sumL (szT s105) x ≤ 1048576 := hz
  refine (e50 k x).trans ?_
  rw [if_pos rfl, if_pos (by omega), if_pos (by simp; omega)]
  exact toS_loop (α := Int × Int × Int × Int × Int × Int) (L := L50_0 k _) (f := fun y => F85 k y) (fun _ _ => rfl) (a := x) (fun y hy => t85 k y (by have := sumL_le (f := szT s105) hy; omega) (by have := sumL_le (f := szT s105) hy; omega)) (by omega) x.length k 0 _ (by omega) (by omega) (by simp) (by simp)
theorem t81 (k : Nat) (x : List (Int × Int × Int × Int × Int × Int)) (hz : szT s123 x ≤ 1048576) (hk : szT s123 x + 3 < k) : F81 k x = some x := by
  obtain ⟨k, rfl⟩ : ∃ q, k = q + 1 := ⟨k - 1, by omega⟩
  have hk' : szT (.l 144 s105) x + 3 < k + 1 := hk
  have hz' : szT (.l 144 s105) x ≤ 1048576 := hz
  have g0 : F50 k x = some x := t50 k x (by omega) (by omega)
  refine (e81 k x).trans ?_
  simp only [g0, Option.bind_some, bne_self_eq_false, beq_self_eq_true, Bool.not_true, Bool.false_eq_true, if_false]
theorem t46 (k : Nat) (x : List (List (Int × Int × Int × Int × Int × Int))) (hz : szT (.l 124 s123) x ≤ 1048576) (hk : szT (.l 124 s123) x + 4 < k) : F46 k x = some x := by
  obtain ⟨k, rfl⟩ : ∃ q, k = q + 1 := ⟨k - 1, by omega⟩
  have hk' : x.length + sumL (szT s123) x + 4 < k + 1 := hk
  have hz' : x.length + sumL (szT s123) x ≤ 1048576 := hz
  refine (e46 k x).trans ?_
  rw [if_pos rfl, if_pos (by omega), if_pos (by simp; omega)]
  exact toS_loop (α := List (Int × Int × Int × Int × Int × Int)) (L := L46_0 k _) (f := fun y => F81 k y) (fun _ _ => rfl) (a := x) (fun y hy => t81 k y (by have := sumL_le (f := szT s123) hy; omega) (by have := sumL_le (f := szT s123) hy; omega)) (by omega) x.length k 0 _ (by omega) (by omega) (by simp) (by simp)
theorem t82 (k : Nat) (x : Int × Int × Int × Int) (hz : szT s109 x ≤ 1048576) (hk : szT s109 x + 1 < k) : F82 k x = some x := by
  obtain ⟨k, rfl⟩ : ∃ q, k = q + 1 := ⟨k - 1, by omega⟩
  have hk' : (szT (.i .i64) x.1 + (szT (.i .i64) x.2.1 + (szT (.i .i64) x.2.2.1 + szT (.i .i64) x.2.2.2))) + 1 < k + 1 := hk
  have hz' : (szT (.i .i64) x.1 + (szT (.i .i64) x.2.1 + (szT (.i .i64) x.2.2.1 + szT (.i .i64) x.2.2.2))) ≤ 1048576 := hz
  exact e82 k x
theorem t47 (k : Nat) (x : List (Int × Int × Int × Int)) (hz : szT (.l 137 s109) x ≤ 1048576) (hk : szT (.l 137 s109) x + 2 < k) : F47 k x = some x := by
  obtain ⟨k, rfl⟩ : ∃ q, k = q + 1 := ⟨k - 1, by omega⟩
  have hk' : x.length + sumL (szT s109) x + 2 < k + 1 := hk
  have hz' : x.length + sumL (szT s109) x ≤ 1048576 := hz
  refine (e47 k x).trans ?_
  rw [if_pos rfl, if_pos (by omega), if_pos (by simp; omega)]
  exact toS_loop (α := Int × Int × Int × Int) (L := L47_0 k _) (f := fun y => F82 k y) (fun _ _ => rfl) (a := x) (fun y hy => t82 k y (by have := sumL_le (f := szT s109) hy; omega) (by have := sumL_le (f := szT s109) hy; omega)) (by omega) x.length k 0 _ (by omega) (by omega) (by simp) (by simp)
theorem t83 (k : Nat) (x : Int × Int × List Int) (hz : szT s111 x ≤ 1048576) (hk : szT s111 x + 2 < k) : F83 k x = some x := by
  obtain ⟨k, rfl⟩ : ∃ q, k = q + 1 := ⟨k - 1, by omega⟩
  have hk' : (szT (.i .i64) x.1 + (szT (.i .i64) x.2.1 + szT (.l 3 (.i .i64)) x.2.2)) + 2 < k + 1 := hk
  have hz' : (szT (.i .i64) x.1 + (szT (.i .i64) x.2.1 + szT (.l 3 (.i .i64)) x.2.2)) ≤ 1048576 := hz
  have g0 : F44 k x.2.2 = some x.2.2 := t44 k x.2.2 (by omega) (by omega)
  refine (e83 k x).trans ?_
  simp only [g0, Option.bind_some, bne_self_eq_false, beq_self_eq_true, Bool.not_true, Bool.false_eq_true, if_false]
theorem t48 (k : Nat) (x : List (Int × Int × List Int)) (hz : szT (.l 126 s111) x ≤ 1048576) (hk : szT (.l 126 s111) x + 3 < k) : F48 k x = some x := by
  obtain ⟨k, rfl⟩ : ∃ q, k = q + 1 := ⟨k - 1, by omega⟩
  have hk' : x.length + sumL (szT s111) x + 3 < k + 1 := hk
  have hz' : x.length + sumL (szT s111) x ≤ 1048576 := hz
  refine (e48 k x).trans ?_
  rw [if_pos rfl, if_pos (by omega), if_pos (by simp; omega)]
  exact toS_loop (α := Int × Int × List Int) (L := L48_0 k _) (f := fun y => F83 k y) (fun _ _ => rfl) (a := x) (fun y hy => t83 k y (by have := sumL_le (f := szT s111) hy; omega) (by have := sumL_le (f := szT s111) hy; omega)) (by omega) x.length k 0 _ (by omega) (by omega) (by simp) (by simp)
theorem t84 (k : Nat) (x : Int × Int × Int × Int) (hz : szT s109 x ≤ 1048576) (hk : szT s109 x + 1 < k) : F84 k x = some x := by
  obtain ⟨k, rfl⟩ : ∃ q, k = q + 1 := ⟨k - 1, by omega⟩
  have hk' : (szT (.i .i64) x.1 + (szT (.i .i64) x.2.1 + (szT (.i .i64) x.2.2.1 + szT (.i .i64) x.2.2.2))) + 1 < k + 1 := hk
  have hz' : (szT (.i .i64) x.1 + (szT (.i .i64) x.2.1 + (szT (.i .i64) x.2.2.1 + szT (.i .i64) x.2.2.2))) ≤ 1048576 := hz
  exact e84 k x
theorem t49 (k : Nat) (x : List (Int × Int × Int × Int)) (hz : szT (.l 142 s109) x ≤ 1048576) (hk : szT (.l 142 s109) x + 2 < k) : F49 k x = some x := by
  obtain ⟨k, rfl⟩ : ∃ q, k = q + 1 := ⟨k - 1, by omega⟩
  have hk' : x.length + sumL (szT s109) x + 2 < k + 1 := hk
  have hz' : x.length + sumL (szT s109) x ≤ 1048576 := hz
  refine (e49 k x).trans ?_
  rw [if_pos rfl, if_pos (by omega), if_pos (by simp; omega)]
  exact toS_loop (α := Int × Int × Int × Int) (L := L49_0 k _) (f := fun y => F84 k y) (fun _ _ => rfl) (a := x) (fun y hy => t84 k y (by have := sumL_le (f := szT s109) hy; omega) (by have := sumL_le (f := szT s109) hy; omega)) (by omega) x.length k 0 _ (by omega) (by omega) (by simp) (by simp)
theorem t86 (k : Nat) (x : Int × Int × Int × Int) (hz : szT s109 x ≤ 1048576) (hk : szT s109 x + 1 < k) : F86 k x = some x := by
  obtain ⟨k, rfl⟩ : ∃ q, k = q + 1 := ⟨k - 1, by omega⟩
  have hk' : (szT (.i .i64) x.1 + (szT (.i .i64) x.2.1 + (szT (.i .i64) x.2.2.1 + szT (.i .i64) x.2.2.2))) + 1 < k + 1 := hk
  have hz' : (szT (.i .i64) x.1 + (szT (.i .i64) x.2.1 + (szT (.i .i64) x.2.2.1 + szT (.i .i64) x.2.2.2))) ≤ 1048576 := hz
  exact e86 k x
theorem t51 (k : Nat) (x : List (Int × Int × Int × Int)) (hz : szT (.l 146 s109) x ≤ 1048576) (hk : szT (.l 146 s109) x + 2 < k) : F51 k x = some x := by
  obtain ⟨k, rfl⟩ : ∃ q, k = q + 1 := ⟨k - 1, by omega⟩
  have hk' : x.length + sumL (szT s109) x + 2 < k + 1 := hk
  have hz' : x.length + sumL (szT s109) x ≤ 1048576 := hz
  refine (e51 k x).trans ?_
  rw [if_pos rfl, if_pos (by omega), if_pos (by simp; omega)]
  exact toS_loop (α := Int × Int × Int × Int) (L := L51_0 k _) (f := fun y => F86 k y) (fun _ _ => rfl) (a := x) (fun y hy => t86 k y (by have := sumL_le (f := szT s109) hy; omega) (by have := sumL_le (f := szT s109) hy; omega)) (by omega) x.length k 0 _ (by omega) (by omega) (by simp) (by simp)
theorem t13 (k : Nat) (x : (Int × (List (Int × Int × Int × Int)) × (List (Int × Int × Int)) × Int × Int × Int × Int × Int × (List (Int × Int × Int)) × Int) × (Int × Int × Int × List ((Int × Int) × (List (Int × Int)) × List (Int × (List Int) × List Int))) × (List Int) × (List Int) × (List (Int × Int × Int × Int × Int × Int)) × (List (List (Int × Int × Int × Int × Int × Int))) × (List (Int × Int × Int × Int)) × (List Int) × (List (Int × Int × List Int)) × (List (Int × Int × Int × Int)) × Int × Int × (List (Int × Int × Int × Int × Int × Int)) × List (Int × Int × Int × Int)) (hz : szT s40 x ≤ 1048576) (hk : szT s40 x + 7 < k) : F13 k x = some x := by
  obtain ⟨k, rfl⟩ : ∃ q, k = q + 1 := ⟨k - 1, by omega⟩
  have hk' : (szT s25 x.1 + (szT s28 x.2.1 + (szT s31 x.2.2.1 + (szT (.l 3 (.i .i64)) x.2.2.2.1 + (szT (.l 132 s105) x.2.2.2.2.1 + (szT (.l 124 s123) x.2.2.2.2.2.1 + (szT (.l 137 s109) x.2.2.2.2.2.2.1 + (szT (.l 3 (.i .i64)) x.2.2.2.2.2.2.2.1 + (szT (.l 126 s111) x.2.2.2.2.2.2.2.2.1 + (szT (.l 142 s109) x.2.2.2.2.2.2.2.2.2.1 + (szT (.i .i64) x.2.2.2.2.2.2.2.2.2.2.1 + (szT (.i .i64) x.2.2.2.2.2.2.2.2.2.2.2.1 + (szT (.l 144 s105) x.2.2.2.2.2.2.2.2.2.2.2.2.1 + szT (.l 146 s109) x.2.2.2.2.2.2.2.2.2.2.2.2.2))))))))))))) + 7 < k + 1 := hk
  have hz' : (szT s25 x.1 + (szT s28 x.2.1 + (szT s31 x.2.2.1 + (szT (.l 3 (.i .i64)) x.2.2.2.1 + (szT (.l 132 s105) x.2.2.2.2.1 + (szT (.l 124 s123) x.2.2.2.2.2.1 + (szT (.l 137 s109) x.2.2.2.2.2.2.1 + (szT (.l 3 (.i .i64)) x.2.2.2.2.2.2.2.1 + (szT (.l 126 s111) x.2.2.2.2.2.2.2.2.1 + (szT (.l 142 s109) x.2.2.2.2.2.2.2.2.2.1 + (szT (.i .i64) x.2.2.2.2.2.2.2.2.2.2.1 + (szT (.i .i64) x.2.2.2.2.2.2.2.2.2.2.2.1 + (szT (.l 144 s105) x.2.2.2.2.2.2.2.2.2.2.2.2.1 + szT (.l 146 s109) x.2.2.2.2.2.2.2.2.2.2.2.2.2))))))))))))) ≤ 1048576 := hz
  have g0 : F41 k x.1 = some x.1 := t41 k x.1 (by omega) (by omega)
  have g1 : F42 k x.2.1 = some x.2.1 := t42 k x.2.1 (by omega) (by omega)
  have g2 : F43 k x.2.2.1 = some x.2.2.1 := t43 k x.2.2.1 (by omega) (by omega)
  have g3 : F44 k x.2.2.2.1 = some x.2.2.2.1 := t44 k x.2.2.2.1 (by omega) (by omega)
  have g4 : F45 k x.2.2.2.2.1 = some x.2.2.2.2.1 := t45 k x.2.2.2.2.1 (by omega) (by omega)
  have g5 : F46 k x.2.2.2.2.2.1 = some x.2.2.2.2.2.1 := t46 k x.2.2.2.2.2.1 (by omega) (by omega)
  have g6 : F47 k x.2.2.2.2.2.2.1 = some x.2.2.2.2.2.2.1 := t47 k x.2.2.2.2.2.2.1 (by omega) (by omega)
  have g7 : F44 k x.2.2.2.2.2.2.2.1 = some x.2.2.2.2.2.2.2.1 := t44 k x.2.2.2.2.2.2.2.1 (by omega) (by omega)
  have g8 : F48 k x.2.2.2.2.2.2.2.2.1 = some x.2.2.2.2.2.2.2.2.1 := t48 k x.2.2.2.2.2.2.2.2.1 (by omega) (by omega)
  have g9 : F49 k x.2.2.2.2.2.2.2.2.2.1 = some x.2.2.2.2.2.2.2.2.2.1 := t49 k x.2.2.2.2.2.2.2.2.2.1 (by omega) (by omega)
  have g10 : F50 k x.2.2.2.2.2.2.2.2.2.2.2.2.1 = some x.2.2.2.2.2.2.2.2.2.2.2.2.1 := t50 k x.2.2.2.2.2.2.2.2.2.2.2.2.1 (by omega) (by omega)
  have g11 : F51 k x.2.2.2.2.2.2.2.2.2.2.2.2.2 = some x.2.2.2.2.2.2.2.2.2.2.2.2.2 := t51 k x.2.2.2.2.2.2.2.2.2.2.2.2.2 (by omega) (by omega)
  refine (e13 k x).trans ?_
  simp only [g0, g1, g2, g3, g4, g5, g6, g7, g8, g9, g10, g11, Option.bind_some, bne_self_eq_false, beq_self_eq_true, Bool.not_true, Bool.false_eq_true, if_false]
theorem q106 (k : Nat) (x : Int × Int × Int × Int) (hz : szT s109 x ≤ 1048576) (hk : szT s109 x + 1 < k) : F106 k x x = some true := by
  obtain ⟨k, rfl⟩ : ∃ q, k = q + 1 := ⟨k - 1, by omega⟩
  have hk' : (szT (.i .i64) x.1 + (szT (.i .i64) x.2.1 + (szT (.i .i64) x.2.2.1 + szT (.i .i64) x.2.2.2))) + 1 < k + 1 := hk
  have hz' : (szT (.i .i64) x.1 + (szT (.i .i64) x.2.1 + (szT (.i .i64) x.2.2.1 + szT (.i .i64) x.2.2.2))) ≤ 1048576 := hz
  refine (e106 k x x).trans ?_
  simp only [Option.bind_some, bne_self_eq_false, beq_self_eq_true, Bool.not_true, Bool.false_eq_true, if_false]
theorem q87 (k : Nat) (x : List (Int × Int × Int × Int)) (hz : szT (.l 169 s109) x ≤ 1048576) (hk : szT (.l 169 s109) x + 2 < k) : F87 k x x = some true := by
  obtain ⟨k, rfl⟩ : ∃ q, k = q + 1 := ⟨k - 1, by omega⟩
  have hk' : x.length + sumL (szT s109) x + 2 < k + 1 := hk
  have hz' : x.length + sumL (szT s109) x ≤ 1048576 := hz
  refine (e87 k x x).trans ?_
  rw [if_neg (by simp)]
  exact eqS_loop (α := Int × Int × Int × Int) (L := L87_0 k _ _) (f := fun y z => F106 k y z) (fun _ _ => rfl) (a := x) (fun y hy => q106 k y (by have := sumL_le (f := szT s109) hy; omega) (by have := sumL_le (f := szT s109) hy; omega)) (by omega) x.length k 0 (by omega) (by omega)
theorem q107 (k : Nat) (x : Int × Int × Int) (hz : szT s172 x ≤ 1048576) (hk : szT s172 x + 1 < k) : F107 k x x = some true := by
  obtain ⟨k, rfl⟩ : ∃ q, k = q + 1 := ⟨k - 1, by omega⟩
  have hk' : (szT (.i .i64) x.1 + (szT (.i .i64) x.2.1 + szT (.i .i64) x.2.2)) + 1 < k + 1 := hk
  have hz' : (szT (.i .i64) x.1 + (szT (.i .i64) x.2.1 + szT (.i .i64) x.2.2)) ≤ 1048576 := hz
  refine (e107 k x x).trans ?_
  simp only [Option.bind_some, bne_self_eq_false, beq_self_eq_true, Bool.not_true, Bool.false_eq_true, if_false]
theorem q88 (k : Nat) (x : List (Int × Int × Int)) (hz : szT (.l 173 s172) x ≤ 1048576) (hk : szT (.l 173 s172) x + 2 < k) : F88 k x x = some true := by
  obtain ⟨k, rfl⟩ : ∃ q, k = q + 1 := ⟨k - 1, by omega⟩
  have hk' : x.length + sumL (szT s172) x + 2 < k + 1 := hk
  have hz' : x.length + sumL (szT s172) x ≤ 1048576 := hz
  refine (e88 k x x).trans ?_
  rw [if_neg (by simp)]
  exact eqS_loop (α := Int × Int × Int) (L := L88_0 k _ _) (f := fun y z => F107 k y z) (fun _ _ => rfl) (a := x) (fun y hy => q107 k y (by have := sumL_le (f := szT s172) hy; omega) (by have := sumL_le (f := szT s172) hy; omega)) (by omega) x.length k 0 (by omega) (by omega)
theorem q116 (k : Nat) (x : Int × Int) (hz : szT s162 x ≤ 1048576) (hk : szT s162 x + 1 < k) : F116 k x x = some true := by
  obtain ⟨k, rfl⟩ : ∃ q, k = q + 1 := ⟨k - 1, by omega⟩
  have hk' : (szT (.i .i64) x.1 + szT (.i .i64) x.2) + 1 < k + 1 := hk
  have hz' : (szT (.i .i64) x.1 + szT (.i .i64) x.2) ≤ 1048576 := hz
  refine (e116 k x x).trans ?_
  simp only [Option.bind_some, bne_self_eq_false, beq_self_eq_true, Bool.not_true, Bool.false_eq_true, if_false]
theorem q108 (k : Nat) (x : Int × Int × Int) (hz : szT s178 x ≤ 1048576) (hk : szT s178 x + 2 < k) : F108 k x x = some true := by
  obtain ⟨k, rfl⟩ : ∃ q, k = q + 1 := ⟨k - 1, by omega⟩
  have hk' : (szT (.i .i64) x.1 + szT s162 x.2) + 2 < k + 1 := hk
  have hz' : (szT (.i .i64) x.1 + szT s162 x.2) ≤ 1048576 := hz
  have g0 : F116 k x.2 x.2 = some true := q116 k x.2 (by omega) (by omega)
  refine (e108 k x x).trans ?_
  simp only [g0, Option.bind_some, bne_self_eq_false, beq_self_eq_true, Bool.not_true, Bool.false_eq_true, if_false]
theorem q89 (k : Nat) (x : List (Int × Int × Int)) (hz : szT (.l 179 s178) x ≤ 1048576) (hk : szT (.l 179 s178) x + 3 < k) : F89 k x x = some true := by
  obtain ⟨k, rfl⟩ : ∃ q, k = q + 1 := ⟨k - 1, by omega⟩
  have hk' : x.length + sumL (szT s178) x + 3 < k + 1 := hk
  have hz' : x.length + sumL (szT s178) x ≤ 1048576 := hz
  refine (e89 k x x).trans ?_
  rw [if_neg (by simp)]
  exact eqS_loop (α := Int × Int × Int) (L := L89_0 k _ _) (f := fun y z => F108 k y z) (fun _ _ => rfl) (a := x) (fun y hy => q108 k y (by have := sumL_le (f := szT s178) hy; omega) (by have := sumL_le (f := szT s178) hy; omega)) (by omega) x.length k 0 (by omega) (by omega)
theorem q52 (k : Nat) (x : Int × (List (Int × Int × Int × Int)) × (List (Int × Int × Int)) × Int × Int × Int × Int × Int × (List (Int × Int × Int)) × Int) (hz : szT s47 x ≤ 1048576) (hk : szT s47 x + 4 < k) : F52 k x x = some true := by
  obtain ⟨k, rfl⟩ : ∃ q, k = q + 1 := ⟨k - 1, by omega⟩
  have hk' : (szT (.i .i64) x.1 + (szT (.l 169 s109) x.2.1 + (szT (.l 173 s172) x.2.2.1 + (szT (.i .i64) x.2.2.2.1 + (szT (.i .i64) x.2.2.2.2.1 + (szT (.i .i64) x.2.2.2.2.2.1 + (szT (.i .i64) x.2.2.2.2.2.2.1 + (szT (.i .i64) x.2.2.2.2.2.2.2.1 + (szT (.l 179 s178) x.2.2.2.2.2.2.2.2.1 + szT (.i .i64) x.2.2.2.2.2.2.2.2.2))))))))) + 4 < k + 1 := hk
  have hz' : (szT (.i .i64) x.1 + (szT (.l 169 s109) x.2.1 + (szT (.l 173 s172) x.2.2.1 + (szT (.i .i64) x.2.2.2.1 + (szT (.i .i64) x.2.2.2.2.1 + (szT (.i .i64) x.2.2.2.2.2.1 + (szT (.i .i64) x.2.2.2.2.2.2.1 + (szT (.i .i64) x.2.2.2.2.2.2.2.1 + (szT (.l 179 s178) x.2.2.2.2.2.2.2.2.1 + szT (.i .i64) x.2.2.2.2.2.2.2.2.2))))))))) ≤ 1048576 := hz
  have g0 : F87 k x.2.1 x.2.1 = some true := q87 k x.2.1 (by omega) (by omega)
  have g1 : F88 k x.2.2.1 x.2.2.1 = some true := q88 k x.2.2.1 (by omega) (by omega)
  have g2 : F89 k x.2.2.2.2.2.2.2.2.1 x.2.2.2.2.2.2.2.2.1 = some true := q89 k x.2.2.2.2.2.2.2.2.1 (by omega) (by omega)
  refine (e52 k x x).trans ?_
  simp only [g0, g1, g2, Option.bind_some, bne_self_eq_false, beq_self_eq_true, Bool.not_true, Bool.false_eq_true, if_false]
theorem q117 (k : Nat) (x : Int × Int) (hz : szT s162 x ≤ 1048576) (hk : szT s162 x + 1 < k) : F117 k x x = some true := by
  obtain ⟨k, rfl⟩ : ∃ q, k = q + 1 := ⟨k - 1, by omega⟩
  have hk' : (szT (.i .i64) x.1 + szT (.i .i64) x.2) + 1 < k + 1 := hk
  have hz' : (szT (.i .i64) x.1 + szT (.i .i64) x.2) ≤ 1048576 := hz
  refine (e117 k x x).trans ?_
  simp only [Option.bind_some, bne_self_eq_false, beq_self_eq_true, Bool.not_true, Bool.false_eq_true, if_false]
theorem q123 (k : Nat) (x : Int × Int) (hz : szT s162 x ≤ 1048576) (hk : szT s162 x + 1 < k) : F123 k x x = some true := by
  obtain ⟨k, rfl⟩ : ∃ q, k = q + 1 := ⟨k - 1, by omega⟩
  have hk' : (szT (.i .i64) x.1 + szT (.i .i64) x.2) + 1 < k + 1 := hk
  have hz' : (szT (.i .i64) x.1 + szT (.i .i64) x.2) ≤ 1048576 := hz
  refine (e123 k x x).trans ?_
  simp only [Option.bind_some, bne_self_eq_false, beq_self_eq_true, Bool.not_true, Bool.false_eq_true, if_false]
theorem q118 (k : Nat) (x : List (Int × Int)) (hz : szT (.l 208 s162) x ≤ 1048576) (hk : szT (.l 208 s162) x + 2 < k) : F118 k x x = some true := by
  obtain ⟨k, rfl⟩ : ∃ q, k = q + 1 := ⟨k - 1, by omega⟩
  have hk' : x.length + sumL (szT s162) x + 2 < k + 1 := hk
  have hz' : x.length + sumL (szT s162) x ≤ 1048576 := hz
  refine (e118 k x x).trans ?_
  rw [if_neg (by simp)]
  exact eqS_loop (α := Int × Int) (L := L118_0 k _ _) (f := fun y z => F123 k y z) (fun _ _ => rfl) (a := x) (fun y hy => q123 k y (by have := sumL_le (f := szT s162) hy; omega) (by have := sumL_le (f := szT s162) hy; omega)) (by omega) x.length k 0 (by omega) (by omega)
theorem q55 (k : Nat) (x : List Int) (hz : szT (.l 3 (.i .i64)) x ≤ 1048576) (hk : szT (.l 3 (.i .i64)) x + 1 < k) : F55 k x x = some true := by
  obtain ⟨k, rfl⟩ : ∃ q, k = q + 1 := ⟨k - 1, by omega⟩
  have hk' : x.length + sumL (szT (.i .i64)) x + 1 < k + 1 := hk
  have hz' : x.length + sumL (szT (.i .i64)) x ≤ 1048576 := hz
  refine (e55 k x x).trans ?_
  rw [if_neg (by simp)]
  exact eqI_loop (α := Int) (L := L55_0 k _ _) (fun _ _ => rfl) (a := x) (by omega) x.length k 0 (by omega) (by omega)
theorem q124 (k : Nat) (x : Int × (List Int) × List Int) (hz : szT s205 x ≤ 1048576) (hk : szT s205 x + 2 < k) : F124 k x x = some true := by
  obtain ⟨k, rfl⟩ : ∃ q, k = q + 1 := ⟨k - 1, by omega⟩
  have hk' : (szT (.i .i64) x.1 + (szT (.l 3 (.i .i64)) x.2.1 + szT (.l 3 (.i .i64)) x.2.2)) + 2 < k + 1 := hk
  have hz' : (szT (.i .i64) x.1 + (szT (.l 3 (.i .i64)) x.2.1 + szT (.l 3 (.i .i64)) x.2.2)) ≤ 1048576 := hz
  have g0 : F55 k x.2.1 x.2.1 = some true := q55 k x.2.1 (by omega) (by omega)
  have g1 : F55 k x.2.2 x.2.2 = some true := q55 k x.2.2 (by omega) (by omega)
  refine (e124 k x x).trans ?_
  simp only [g0, g1, Option.bind_some, bne_self_eq_false, beq_self_eq_true, Bool.not_true, Bool.false_eq_true, if_false]
theorem q119 (k : Nat) (x : List (Int × (List Int) × List Int)) (hz : szT (.l 211 s205) x ≤ 1048576) (hk : szT (.l 211 s205) x + 3 < k) : F119 k x x = some true := by
  obtain ⟨k, rfl⟩ : ∃ q, k = q + 1 := ⟨k - 1, by omega⟩
  have hk' : x.length + sumL (szT s205) x + 3 < k + 1 := hk
  have hz' : x.length + sumL (szT s205) x ≤ 1048576 := hz
  refine (e119 k x x).trans ?_
  rw [if_neg (by simp)]
  exact eqS_loop (α := Int × (List Int) × List Int) (L := L119_0 k _ _) (f := fun y z => F124 k y z) (fun _ _ => rfl) (a := x) (fun y hy => q124 k y (by have := sumL_le (f := szT s205) hy; omega) (by have := sumL_le (f := szT s205) hy; omega)) (by omega) x.length k 0 (by omega) (by omega)
theorem q109 (k : Nat) (x : (Int × Int) × (List (Int × Int)) × List (Int × (List Int) × List Int)) (hz : szT s187 x ≤ 1048576) (hk : szT s187 x + 4 < k) : F109 k x x = some true := by
  obtain ⟨k, rfl⟩ : ∃ q, k = q + 1 := ⟨k - 1, by omega⟩
  have hk' : (szT s162 x.1 + (szT (.l 208 s162) x.2.1 + szT (.l 211 s205) x.2.2)) + 4 < k + 1 := hk
  have hz' : (szT s162 x.1 + (szT (.l 208 s162) x.2.1 + szT (.l 211 s205) x.2.2)) ≤ 1048576 := hz
  have g0 : F117 k x.1 x.1 = some true := q117 k x.1 (by omega) (by omega)
  have g1 : F118 k x.2.1 x.2.1 = some true := q118 k x.2.1 (by omega) (by omega)
  have g2 : F119 k x.2.2 x.2.2 = some true := q119 k x.2.2 (by omega) (by omega)
  refine (e109 k x x).trans ?_
  simp only [g0, g1, g2, Option.bind_some, bne_self_eq_false, beq_self_eq_true, Bool.not_true, Bool.false_eq_true, if_false]
theorem q90 (k : Nat) (x : List ((Int × Int) × (List (Int × Int)) × List (Int × (List Int) × List Int))) (hz : szT (.l 188 s187) x ≤ 1048576) (hk : szT (.l 188 s187) x + 5 < k) : F90 k x x = some true := by
  obtain ⟨k, rfl⟩ : ∃ q, k = q + 1 := ⟨k - 1, by omega⟩
  have hk' : x.length + sumL (szT s187) x + 5 < k + 1 := hk
  have hz' : x.length + sumL (szT s187) x ≤ 1048576 := hz
  refine (e90 k x x).trans ?_
  rw [if_neg (by simp)]
  exact eqS_loop (α := (Int × Int) × (List (Int × Int)) × List (Int × (List Int) × List Int)) (L := L90_0 k _ _) (f := fun y z => F109 k y z) (fun _ _ => rfl) (a := x) (fun y hy => q109 k y (by have := sumL_le (f := szT s187) hy; omega) (by have := sumL_le (f := szT s187) hy; omega)) (by omega) x.length k 0 (by omega) (by omega)
theorem q53 (k : Nat) (x : Int × Int × Int × List ((Int × Int) × (List (Int × Int)) × List (Int × (List Int) × List Int))) (hz : szT s50 x ≤ 1048576) (hk : szT s50 x + 6 < k) : F53 k x x = some true := by
  obtain ⟨k, rfl⟩ : ∃ q, k = q + 1 := ⟨k - 1, by omega⟩
  have hk' : (szT (.i .i64) x.1 + (szT (.i .i64) x.2.1 + (szT (.i .i64) x.2.2.1 + szT (.l 188 s187) x.2.2.2))) + 6 < k + 1 := hk
  have hz' : (szT (.i .i64) x.1 + (szT (.i .i64) x.2.1 + (szT (.i .i64) x.2.2.1 + szT (.l 188 s187) x.2.2.2))) ≤ 1048576 := hz
  have g0 : F90 k x.2.2.2 x.2.2.2 = some true := q90 k x.2.2.2 (by omega) (by omega)
  refine (e53 k x x).trans ?_
  simp only [g0, Option.bind_some, bne_self_eq_false, beq_self_eq_true, Bool.not_true, Bool.false_eq_true, if_false]
theorem q54 (k : Nat) (x : List Int) (hz : szT s31 x ≤ 1048576) (hk : szT s31 x + 2 < k) : F54 k x x = some true := by
  obtain ⟨k, rfl⟩ : ∃ q, k = q + 1 := ⟨k - 1, by omega⟩
  have hk' : szT (.l 3 (.i .i64)) x + 2 < k + 1 := hk
  have hz' : szT (.l 3 (.i .i64)) x ≤ 1048576 := hz
  have g0 : F55 k x x = some true := q55 k x (by omega) (by omega)
  refine (e54 k x x).trans ?_
  simp only [g0, Option.bind_some, bne_self_eq_false, beq_self_eq_true, Bool.not_true, Bool.false_eq_true, if_false]
theorem q91 (k : Nat) (x : Int × Int × Int × Int × Int × Int) (hz : szT s105 x ≤ 1048576) (hk : szT s105 x + 1 < k) : F91 k x x = some true := by
  obtain ⟨k, rfl⟩ : ∃ q, k = q + 1 := ⟨k - 1, by omega⟩
  have hk' : (szT (.i .i64) x.1 + (szT (.i .i64) x.2.1 + (szT (.i .i64) x.2.2.1 + (szT (.i .i64) x.2.2.2.1 + (szT (.i .i64) x.2.2.2.2.1 + szT (.i .i64) x.2.2.2.2.2))))) + 1 < k + 1 := hk
  have hz' : (szT (.i .i64) x.1 + (szT (.i .i64) x.2.1 + (szT (.i .i64) x.2.2.1 + (szT (.i .i64) x.2.2.2.1 + (szT (.i .i64) x.2.2.2.2.1 + szT (.i .i64) x.2.2.2.2.2))))) ≤ 1048576 := hz
  refine (e91 k x x).trans ?_
  simp only [Option.bind_some, bne_self_eq_false, beq_self_eq_true, Bool.not_true, Bool.false_eq_true, if_false]
theorem q56 (k : Nat) (x : List (Int × Int × Int × Int × Int × Int)) (hz : szT (.l 106 s105) x ≤ 1048576) (hk : szT (.l 106 s105) x + 2 < k) : F56 k x x = some true := by
  obtain ⟨k, rfl⟩ : ∃ q, k = q + 1 := ⟨k - 1, by omega⟩
  have hk' : x.length + sumL (szT s105) x + 2 < k + 1 := hk
  have hz' : x.length + sumL (szT s105) x ≤ 1048576 := hz
  refine (e56 k x x).trans ?_
  rw [if_neg (by simp)]
  exact eqS_loop (α := Int × Int × Int × Int × Int × Int) (L := L56_0 k _ _) (f := fun y z => F91 k y z) (fun _ _ => rfl) (a := x) (fun y hy => q91 k y (by have := sumL_le (f := szT s105) hy; omega) (by have := sumL_le (f := szT s105) hy; omega)) (by omega) x.length k 0 (by omega) (by omega)
theorem q96 (k : Nat) (x : Int × Int × Int × Int × Int × Int) (hz : szT s105 x ≤ 1048576) (hk : szT s105 x + 1 < k) : F96 k x x = some true := by
  obtain ⟨k, rfl⟩ : ∃ q, k = q + 1 := ⟨k - 1, by omega⟩
  have hk' : (szT (.i .i64) x.1 + (szT (.i .i64) x.2.1 + (szT (.i .i64) x.2.2.1 + (szT (.i .i64) x.2.2.2.1 + (szT (.i .i64) x.2.2.2.2.1 + szT (.i .i64) x.2.2.2.2.2))))) + 1 < k + 1 := hk
  have hz' : (szT (.i .i64) x.1 + (szT (.i .i64) x.2.1 + (szT (.i .i64) x.2.2.1 + (szT (.i .i64) x.2.2.2.1 + (szT (.i .i64) x.2.2.2.2.1 + szT (.i .i64) x.2.2.2.2.2))))) ≤ 1048576 := hz
  refine (e96 k x x).trans ?_
  simp only [Option.bind_some, bne_self_eq_false, beq_self_eq_true, Bool.not_true, Bool.false_eq_true, if_false]
theorem q61 (k : Nat) (x : List (Int × Int × Int × Int × Int × Int)) (hz : szT (.l 108 s105) x ≤ 1048576) (hk : szT (.l 108 s105) x + 2 < k) : F61 k x x = some true := by
  obtain ⟨k, rfl⟩ : ∃ q, k = q + 1 := ⟨k - 1, by omega⟩
  have hk' : x.length + sumL (szT s105) x + 2 < k + 1 := hk
  have hz' : x.length + sumL (szT s105) x ≤ 1048576 := hz
  refine (e61 k x x).trans ?_
  rw [if_neg (by simp)]
  exact eqS_loop (α := Int × Int × Int × Int × Int × Int) (L := L61_0 k _ _) (f := fun y z => F96 k y z) (fun _ _ => rfl) (a := x) (fun y hy => q96 k y (by have := sumL_le (f := szT s105) hy; omega) (by have := sumL_le (f := szT s105) hy; omega)) (by omega) x.length k 0 (by omega) (by omega)
theorem q92 (k : Nat) (x : List (Int × Int × Int × Int × Int × Int)) (hz : szT s81 x ≤ 1048576) (hk : szT s81 x + 3 < k) : F92 k x x = some true := by
  obtain ⟨k, rfl⟩ : ∃ q, k = q + 1 := ⟨k - 1, by omega⟩
  have hk' : szT (.l 108 s105) x + 3 < k + 1 := hk
  have hz' : szT (.l 108 s105) x ≤ 1048576 := hz
  have g0 : F61 k x x = some true := q61 k x (by omega) (by omega)
  refine (e92 k x x).trans ?_
  simp only [g0, Option.bind_some, bne_self_eq_false, beq_self_eq_true, Bool.not_true, Bool.false_eq_true, if_false]
theorem q57 (k : Nat) (x : List (List (Int × Int × Int × Int × Int × Int))) (hz : szT (.l 82 s81) x ≤ 1048576) (hk : szT (.l 82 s81) x + 4 < k) : F57 k x x = some true := by
  obtain ⟨k, rfl⟩ : ∃ q, k = q + 1 := ⟨k - 1, by omega⟩
  have hk' : x.length + sumL (szT s81) x + 4 < k + 1 := hk
  have hz' : x.length + sumL (szT s81) x ≤ 1048576 := hz
  refine (e57 k x x).trans ?_
  rw [if_neg (by simp)]
  exact eqS_loop (α := List (Int × Int × Int × Int × Int × Int)) (L := L57_0 k _ _) (f := fun y z => F92 k y z) (fun _ _ => rfl) (a := x) (fun y hy => q92 k y (by have := sumL_le (f := szT s81) hy; omega) (by have := sumL_le (f := szT s81) hy; omega)) (by omega) x.length k 0 (by omega) (by omega)
theorem q93 (k : Nat) (x : Int × Int × Int × Int) (hz : szT s109 x ≤ 1048576) (hk : szT s109 x + 1 < k) : F93 k x x = some true := by
  obtain ⟨k, rfl⟩ : ∃ q, k = q + 1 := ⟨k - 1, by omega⟩
  have hk' : (szT (.i .i64) x.1 + (szT (.i .i64) x.2.1 + (szT (.i .i64) x.2.2.1 + szT (.i .i64) x.2.2.2))) + 1 < k + 1 := hk
  have hz' : (szT (.i .i64) x.1 + (szT (.i .i64) x.2.1 + (szT (.i .i64) x.2.2.1 + szT (.i .i64) x.2.2.2))) ≤ 1048576 := hz
  refine (e93 k x x).trans ?_
  simp only [Option.bind_some, bne_self_eq_false, beq_self_eq_true, Bool.not_true, Bool.false_eq_true, if_false]
theorem q58 (k : Nat) (x : List (Int × Int × Int × Int)) (hz : szT (.l 135 s109) x ≤ 1048576) (hk : szT (.l 135 s109) x + 2 < k) : F58 k x x = some true := by
  obtain ⟨k, rfl⟩ : ∃ q, k = q + 1 := ⟨k - 1, by omega⟩
  have hk' : x.length + sumL (szT s109) x + 2 < k + 1 := hk
  have hz' : x.length + sumL (szT s109) x ≤ 1048576 := hz
  refine (e58 k x x).trans ?_
  rw [if_neg (by simp)]
  exact eqS_loop (α := Int × Int × Int × Int) (L := L58_0 k _ _) (f := fun y z => F93 k y z) (fun _ _ => rfl) (a := x) (fun y hy => q93 k y (by have := sumL_le (f := szT s109) hy; omega) (by have := sumL_le (f := szT s109) hy; omega)) (by omega) x.length k 0 (by omega) (by omega)
theorem q94 (k : Nat) (x : Int × Int × List Int) (hz : szT s111 x ≤ 1048576) (hk : szT s111 x + 2 < k) : F94 k x x = some true := by
  obtain ⟨k, rfl⟩ : ∃ q, k = q + 1 := ⟨k - 1, by omega⟩
  have hk' : (szT (.i .i64) x.1 + (szT (.i .i64) x.2.1 + szT (.l 3 (.i .i64)) x.2.2)) + 2 < k + 1 := hk
  have hz' : (szT (.i .i64) x.1 + (szT (.i .i64) x.2.1 + szT (.l 3 (.i .i64)) x.2.2)) ≤ 1048576 := hz
  have g0 : F55 k x.2.2 x.2.2 = some true := q55 k x.2.2 (by omega) (by omega)
  refine (e94 k x x).trans ?_
  simp only [g0, Option.bind_some, bne_self_eq_false, beq_self_eq_true, Bool.not_true, Bool.false_eq_true, if_false]
theorem q59 (k : Nat) (x : List (Int × Int × List Int)) (hz : szT (.l 112 s111) x ≤ 1048576) (hk : szT (.l 112 s111) x + 3 < k) : F59 k x x = some true := by
  obtain ⟨k, rfl⟩ : ∃ q, k = q + 1 := ⟨k - 1, by omega⟩
  have hk' : x.length + sumL (szT s111) x + 3 < k + 1 := hk
  have hz' : x.length + sumL (szT s111) x ≤ 1048576 := hz
  refine (e59 k x x).trans ?_
  rw [if_neg (by simp)]
  exact eqS_loop (α := Int × Int × List Int) (L := L59_0 k _ _) (f := fun y z => F94 k y z) (fun _ _ => rfl) (a := x) (fun y hy => q94 k y (by have := sumL_le (f := szT s111) hy; omega) (by have := sumL_le (f := szT s111) hy; omega)) (by omega) x.length k 0 (by omega) (by omega)
theorem q95 (k : Nat) (x : Int × Int × Int × Int) (hz : szT s109 x ≤ 1048576) (hk : szT s109 x + 1 < k) : F95 k x x = some true := by
  obtain ⟨k, rfl⟩ : ∃ q, k = q + 1 := ⟨k - 1, by omega⟩
  have hk' : (szT (.i .i64) x.1 + (szT (.i .i64) x.2.1 + (szT (.i .i64) x.2.2.1 + szT (.i .i64) x.2.2.2))) + 1 < k + 1 := hk
  have hz' : (szT (.i .i64) x.1 + (szT (.i .i64) x.2.1 + (szT (.i .i64) x.2.2.1 + szT (.i .i64) x.2.2.2))) ≤ 1048576 := hz
  refine (e95 k x x).trans ?_
  simp only [Option.bind_some, bne_self_eq_false, beq_self_eq_true, Bool.not_true, Bool.false_eq_true, if_false]
theorem q60 (k : Nat) (x : List (Int × Int × Int × Int)) (hz : szT (.l 140 s109) x ≤ 1048576) (hk : szT (.l 140 s109) x + 2 < k) : F60 k x x = some true := by
  obtain ⟨k, rfl⟩ : ∃ q, k = q + 1 := ⟨k - 1, by omega⟩
  have hk' : x.length + sumL (szT s109) x + 2 < k + 1 := hk
  have hz' : x.length + sumL (szT s109) x ≤ 1048576 := hz
  refine (e60 k x x).trans ?_
  rw [if_neg (by simp)]
  exact eqS_loop (α := Int × Int × Int × Int) (L := L60_0 k _ _) (f := fun y z => F95 k y z) (fun _ _ => rfl) (a := x) (fun y hy => q95 k y (by have := sumL_le (f := szT s109) hy; omega) (by have := sumL_le (f := szT s109) hy; omega)) (by omega) x.length k 0 (by omega) (by omega)
theorem q97 (k : Nat) (x : Int × Int × Int × Int) (hz : szT s109 x ≤ 1048576) (hk : szT s109 x + 1 < k) : F97 k x x = some true := by
  obtain ⟨k, rfl⟩ : ∃ q, k = q + 1 := ⟨k - 1, by omega⟩
  have hk' : (szT (.i .i64) x.1 + (szT (.i .i64) x.2.1 + (szT (.i .i64) x.2.2.1 + szT (.i .i64) x.2.2.2))) + 1 < k + 1 := hk
  have hz' : (szT (.i .i64) x.1 + (szT (.i .i64) x.2.1 + (szT (.i .i64) x.2.2.1 + szT (.i .i64) x.2.2.2))) ≤ 1048576 := hz
  refine (e97 k x x).trans ?_
  simp only [Option.bind_some, bne_self_eq_false, beq_self_eq_true, Bool.not_true, Bool.false_eq_true, if_false]
theorem q62 (k : Nat) (x : List (Int × Int × Int × Int)) (hz : szT (.l 110 s109) x ≤ 1048576) (hk : szT (.l 110 s109) x + 2 < k) : F62 k x x = some true := by
  obtain ⟨k, rfl⟩ : ∃ q, k = q + 1 := ⟨k - 1, by omega⟩
  have hk' : x.length + sumL (szT s109) x + 2 < k + 1 := hk
  have hz' : x.length + sumL (szT s109) x ≤ 1048576 := hz
  refine (e62 k x x).trans ?_
  rw [if_neg (by simp)]
  exact eqS_loop (α := Int × Int × Int × Int) (L := L62_0 k _ _) (f := fun y z => F97 k y z) (fun _ _ => rfl) (a := x) (fun y hy => q97 k y (by have := sumL_le (f := szT s109) hy; omega) (by have := sumL_le (f := szT s109) hy; omega)) (by omega) x.length k 0 (by omega) (by omega)
theorem q15 (k : Nat) (x : (Int × (List (Int × Int × Int × Int)) × (List (Int × Int × Int)) × Int × Int × Int × Int × Int × (List (Int × Int × Int)) × Int) × (Int × Int × Int × List ((Int × Int) × (List (Int × Int)) × List (Int × (List Int) × List Int))) × (List Int) × (List Int) × (List (Int × Int × Int × Int × Int × Int)) × (List (List (Int × Int × Int × Int × Int × Int))) × (List (Int × Int × Int × Int)) × (List Int) × (List (Int × Int × List Int)) × (List (Int × Int × Int × Int)) × Int × Int × (List (Int × Int × Int × Int × Int × Int)) × List (Int × Int × Int × Int)) (hz : szT s60 x ≤ 1048576) (hk : szT s60 x + 7 < k) : F15 k x x = some true := by
  obtain ⟨k, rfl⟩ : ∃ q, k = q + 1 := ⟨k - 1, by omega⟩
  have hk' : (szT s47 x.1 + (szT s50 x.2.1 + (szT s31 x.2.2.1 + (szT (.l 3 (.i .i64)) x.2.2.2.1 + (szT (.l 106 s105) x.2.2.2.2.1 + (szT (.l 82 s81) x.2.2.2.2.2.1 + (szT (.l 135 s109) x.2.2.2.2.2.2.1 + (szT (.l 3 (.i .i64)) x.2.2.2.2.2.2.2.1 + (szT (.l 112 s111) x.2.2.2.2.2.2.2.2.1 + (szT (.l 140 s109) x.2.2.2.2.2.2.2.2.2.1 + (szT (.i .i64) x.2.2.2.2.2.2.2.2.2.2.1 + (szT (.i .i64) x.2.2.2.2.2.2.2.2.2.2.2.1 + (szT (.l 108 s105) x.2.2.2.2.2.2.2.2.2.2.2.2.1 + szT (.l 110 s109) x.2.2.2.2.2.2.2.2.2.2.2.2.2))))))))))))) + 7 < k + 1 := hk
  have hz' : (szT s47 x.1 + (szT s50 x.2.1 + (szT s31 x.2.2.1 + (szT (.l 3 (.i .i64)) x.2.2.2.1 + (szT (.l 106 s105) x.2.2.2.2.1 + (szT (.l 82 s81) x.2.2.2.2.2.1 + (szT (.l 135 s109) x.2.2.2.2.2.2.1 + (szT (.l 3 (.i .i64)) x.2.2.2.2.2.2.2.1 + (szT (.l 112 s111) x.2.2.2.2.2.2.2.2.1 + (szT (.l 140 s109) x.2.2.2.2.2.2.2.2.2.1 + (szT (.i .i64) x.2.2.2.2.2.2.2.2.2.2.1 + (szT (.i .i64) x.2.2.2.2.2.2.2.2.2.2.2.1 + (szT (.l 108 s105) x.2.2.2.2.2.2.2.2.2.2.2.2.1 + szT (.l 110 s109) x.2.2.2.2.2.2.2.2.2.2.2.2.2))))))))))))) ≤ 1048576 := hz
  have g0 : F52 k x.1 x.1 = some true := q52 k x.1 (by omega) (by omega)
  have g1 : F53 k x.2.1 x.2.1 = some true := q53 k x.2.1 (by omega) (by omega)
  have g2 : F54 k x.2.2.1 x.2.2.1 = some true := q54 k x.2.2.1 (by omega) (by omega)
  have g3 : F55 k x.2.2.2.1 x.2.2.2.1 = some true := q55 k x.2.2.2.1 (by omega) (by omega)
  have g4 : F56 k x.2.2.2.2.1 x.2.2.2.2.1 = some true := q56 k x.2.2.2.2.1 (by omega) (by omega)
  have g5 : F57 k x.2.2.2.2.2.1 x.2.2.2.2.2.1 = some true := q57 k x.2.2.2.2.2.1 (by omega) (by omega)
  have g6 : F58 k x.2.2.2.2.2.2.1 x.2.2.2.2.2.2.1 = some true := q58 k x.2.2.2.2.2.2.1 (by omega) (by omega)
  have g7 : F55 k x.2.2.2.2.2.2.2.1 x.2.2.2.2.2.2.2.1 = some true := q55 k x.2.2.2.2.2.2.2.1 (by omega) (by omega)
  have g8 : F59 k x.2.2.2.2.2.2.2.2.1 x.2.2.2.2.2.2.2.2.1 = some true := q59 k x.2.2.2.2.2.2.2.2.1 (by omega) (by omega)
  have g9 : F60 k x.2.2.2.2.2.2.2.2.2.1 x.2.2.2.2.2.2.2.2.2.1 = some true := q60 k x.2.2.2.2.2.2.2.2.2.1 (by omega) (by omega)
  have g10 : F61 k x.2.2.2.2.2.2.2.2.2.2.2.2.1 x.2.2.2.2.2.2.2.2.2.2.2.2.1 = some true := q61 k x.2.2.2.2.2.2.2.2.2.2.2.2.1 (by omega) (by omega)
  have g11 : F62 k x.2.2.2.2.2.2.2.2.2.2.2.2.2 x.2.2.2.2.2.2.2.2.2.2.2.2.2 = some true := q62 k x.2.2.2.2.2.2.2.2.2.2.2.2.2 (by omega) (by omega)
  refine (e15 k x x).trans ?_
  simp only [g0, g1, g2, g3, g4, g5, g6, g7, g8, g9, g10, g11, Option.bind_some, bne_self_eq_false, beq_self_eq_true, Bool.not_true, Bool.false_eq_true, if_false]
end Go.Proofs.Ytmkkoalilmgpcaa.World
