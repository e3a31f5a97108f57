/- Plain lemmas: sizes, copies and comparisons of the law's data. No condition. -/
import Derived.Test.YtonfioejmldhcaaGreatWb
namespace Go.Proofs.YtonfioejmldhcaaGreat.World
open Go Go.V Go.Proofs
set_option linter.unusedVariables false
set_option linter.unusedSimpArgs false
set_option maxRecDepth 100000
theorem z144 (k : Nat) (x : List (Int × Int × Int × Int)) (left : Int) (hr : rowsLe 140737488351232 (.l 264 s75) x) (hk : szT (.l 264 s75) x + 1 < k) (h0 : 0 ≤ left) (h1 : left ≤ 1048576) : F144 k x left = some (szR (szT (.l 264 s75) x) left) := by
  obtain ⟨k, rfl⟩ : ∃ q, k = q + 1 := ⟨k - 1, by omega⟩
  have hl : x.length ≤ 140737488351232 := (rowsLe_row hr).1
  have hz : szT (.l 264 s75) x = x.length := szT_row (e := 264) (sh := s75) rfl x
  exact (e144 k x left).trans ((sz_leaf hl h0 h1).trans (congrArg (fun n => some (szR n left)) hz.symm))
theorem z145 (k : Nat) (x : List (Int × Int × Int)) (left : Int) (hr : rowsLe 140737488351232 (.l 268 s265) x) (hk : szT (.l 268 s265) x + 1 < k) (h0 : 0 ≤ left) (h1 : left ≤ 1048576) : F145 k x left = some (szR (szT (.l 268 s265) x) left) := by
  obtain ⟨k, rfl⟩ : ∃ q, k = q + 1 := ⟨k - 1, by omega⟩
  have hl : x.length ≤ 140737488351232 := (rowsLe_row hr).1
  have hz : szT (.l 268 s265) x = x.length := szT_row (e := 268) (sh := s265) rfl x
  exact (e145 k x left).trans ((sz_leaf hl h0 h1).trans (congrArg (fun n => some (szR n left)) hz.symm))
theorem z146 (k : Nat) (x : List (Int × Int × Int)) (left : Int) (hr : rowsLe 140737488351232 (.l 276 s271) x) (hk : szT (.l 276 s271) x + 1 < k) (h0 : 0 ≤ left) (h1 : left ≤ 1048576) : F146 k x left = some (szR (szT (.l 276 s271) x) left) := by
  obtain ⟨k, rfl⟩ : ∃ q, k = q + 1 := ⟨k - 1, by omega⟩
  have hl : x.length ≤ 140737488351232 := (rowsLe_row hr).1
  have hz : szT (.l 276 s271) x = x.length := szT_row (e := 276) (sh := s271) rfl x
  exact (e146 k x left).trans ((sz_leaf hl h0 h1).trans (congrArg (fun n => some (szR n left)) hz.symm))
theorem z50 (k : Nat) (x : Int × (List (Int × Int × Int × Int)) × (List (Int × Int × Int)) × Int × Int × Int × Int × Int × (List (Int × Int × Int)) × Int) (left : Int) (hr : rowsLe 140737488351232 s25 x) (hk : szT s25 x + 2 < k) (h0 : 0 ≤ left) (h1 : left ≤ 1048576) : F50 k x left = some (szR (szT s25 x) left) := by
  obtain ⟨k, rfl⟩ : ∃ q, k = q + 1 := ⟨k - 1, by omega⟩
  have hk' : (szT (.i .i64) x.1 + (szT (.l 264 s75) x.2.1 + (szT (.l 268 s265) x.2.2.1 + (szT (.i .i64) x.2.2.2.1 + (szT (.i .i64) x.2.2.2.2.1 + (szT (.i .i64) x.2.2.2.2.2.1 + (szT (.i .i64) x.2.2.2.2.2.2.1 + (szT (.i .i64) x.2.2.2.2.2.2.2.1 + (szT (.l 276 s271) x.2.2.2.2.2.2.2.2.1 + szT (.i .i64) x.2.2.2.2.2.2.2.2.2))))))))) + 2 < k + 1 := hk
  obtain ⟨r0, r1, r2, r3, r4, r5, r6, r7, r8, r9⟩ : rowsLe 140737488351232 (.i .i64) x.1 ∧ rowsLe 140737488351232 (.l 264 s75) x.2.1 ∧ rowsLe 140737488351232 (.l 268 s265) x.2.2.1 ∧ rowsLe 140737488351232 (.i .i64) x.2.2.2.1 ∧ rowsLe 140737488351232 (.i .i64) x.2.2.2.2.1 ∧ rowsLe 140737488351232 (.i .i64) x.2.2.2.2.2.1 ∧ rowsLe 140737488351232 (.i .i64) x.2.2.2.2.2.2.1 ∧ rowsLe 140737488351232 (.i .i64) x.2.2.2.2.2.2.2.1 ∧ rowsLe 140737488351232 (.l 276 s271) x.2.2.2.2.2.2.2.2.1 ∧ rowsLe 140737488351232 (.i .i64) x.2.2.2.2.2.2.2.2.2 := hr
  have f0 : szT (.i .i64) x.1 = 0 := szT_flat _ _ rfl
  have f3 : szT (.i .i64) x.2.2.2.1 = 0 := szT_flat _ _ rfl
  have f4 : szT (.i .i64) x.2.2.2.2.1 = 0 := szT_flat _ _ rfl
  have f5 : szT (.i .i64) x.2.2.2.2.2.1 = 0 := szT_flat _ _ rfl
  have f6 : szT (.i .i64) x.2.2.2.2.2.2.1 = 0 := szT_flat _ _ rfl
  have f7 : szT (.i .i64) x.2.2.2.2.2.2.2.1 = 0 := szT_flat _ _ rfl
  have f9 : szT (.i .i64) x.2.2.2.2.2.2.2.2.2 = 0 := szT_flat _ _ rfl
  have ht : szT s25 x = szT (.l 264 s75) x.2.1 + (szT (.l 268 s265) x.2.2.1 + (szT (.l 276 s271) x.2.2.2.2.2.2.2.2.1 + 0)) := by
    show (szT (.i .i64) x.1 + (szT (.l 264 s75) x.2.1 + (szT (.l 268 s265) x.2.2.1 + (szT (.i .i64) x.2.2.2.1 + (szT (.i .i64) x.2.2.2.2.1 + (szT (.i .i64) x.2.2.2.2.2.1 + (szT (.i .i64) x.2.2.2.2.2.2.1 + (szT (.i .i64) x.2.2.2.2.2.2.2.1 + (szT (.l 276 s271) x.2.2.2.2.2.2.2.2.1 + szT (.i .i64) x.2.2.2.2.2.2.2.2.2))))))))) = _
    omega
  rw [e50, ht]
  exact sz_step (z144 k _ _ r1 (by omega) h0 h1) h0 h1 fun p1 q1 w1 => sz_step (z145 k _ _ r2 (by omega) q1 w1) q1 w1 fun p2 q2 w2 => sz_step (z146 k _ _ r8 (by omega) q2 w2) q2 w2 fun p3 q3 w3 => szR_zero q3
theorem z301 (k : Nat) (x : List (Int × Int)) (left : Int) (hr : rowsLe 140737488351232 (.l 330 s150) x) (hk : szT (.l 330 s150) x + 1 < k) (h0 : 0 ≤ left) (h1 : left ≤ 1048576) : F301 k x left = some (szR (szT (.l 330 s150) x) left) := by
  obtain ⟨k, rfl⟩ : ∃ q, k = q + 1 := ⟨k - 1, by omega⟩
  have hl : x.length ≤ 140737488351232 := (rowsLe_row hr).1
  have hz : szT (.l 330 s150) x = x.length := szT_row (e := 330) (sh := s150) rfl x
  exact (e301 k x left).trans ((sz_leaf hl h0 h1).trans (congrArg (fun n => some (szR n left)) hz.symm))
theorem z53 (k : Nat) (x : List Int) (left : Int) (hr : rowsLe 140737488351232 (.l 3 (.i .i64)) x) (hk : szT (.l 3 (.i .i64)) x + 1 < k) (h0 : 0 ≤ left) (h1 : left ≤ 1048576) : F53 k x left = some (szR (szT (.l 3 (.i .i64)) x) left) := by
  obtain ⟨k, rfl⟩ : ∃ q, k = q + 1 := ⟨k - 1, by omega⟩
  have hl : x.length ≤ 140737488351232 := (rowsLe_row hr).1
  have hz : szT (.l 3 (.i .i64)) x = x.length := szT_row (e := 3) (sh := (.i .i64)) rfl x
  exact (e53 k x left).trans ((sz_leaf hl h0 h1).trans (congrArg (fun n => some (szR n left)) hz.symm))
theorem z332 (k : Nat) (x : Int × (List Int) × List Int) (left : Int) (hr : rowsLe 140737488351232 s238 x) (hk : szT s238 x + 2 < k) (h0 : 0 ≤ left) (h1 : left ≤ 1048576) : F332 k x left = some (szR (szT s238 x) left) := by
  obtain ⟨k, rfl⟩ : ∃ q, k = q + 1 := ⟨k - 1, by omega⟩
  have hk' : (szT (.i .i64) x.1 + (szT (.l 3 (.i .i64)) x.2.1 + szT (.l 3 (.i .i64)) x.2.2)) + 2 < k + 1 := hk
  obtain ⟨r0, r1, r2⟩ : rowsLe 140737488351232 (.i .i64) x.1 ∧ rowsLe 140737488351232 (.l 3 (.i .i64)) x.2.1 ∧ rowsLe 140737488351232 (.l 3 (.i .i64)) x.2.2 := hr
  have f0 : szT (.i .i64) x.1 = 0 := szT_flat _ _ rfl
  have ht : szT s238 x = szT (.l 3 (.i .i64)) x.2.1 + (szT (.l 3 (.i .i64)) x.2.2 + 0) := by
    show (szT (.i .i64) x.1 + (szT (.l 3 (.i .i64)) x.2.1 + szT (.l 3 (.i .i64)) x.2.2)) = _
    omega
  rw [e332, ht]
  exact sz_step (z53 k _ _ r1 (by omega) h0 h1) h0 h1 fun p1 q1 w1 => sz_step (z53 k _ _ r2 (by omega) q1 w1) q1 w1 fun p2 q2 w2 => szR_zero q2
theorem z302 (k : Nat) (x : List (Int × (List Int) × List Int)) (left : Int) (hr : rowsLe 140737488351232 (.l 328 s238) x) (hk : szT (.l 328 s238) x + 3 < k) (h0 : 0 ≤ left) (h1 : left ≤ 1048576) : F302 k x left = some (szR (szT (.l 328 s238) x) left) := by
  obtain ⟨k, rfl⟩ : ∃ q, k = q + 1 := ⟨k - 1, by omega⟩
  obtain ⟨hl, hr⟩ : x.length ≤ 140737488351232 ∧ ∀ y ∈ x, rowsLe 140737488351232 s238 y := rowsLe_row hr
  have hk' : x.length + sumL (szT s238) x + 3 < k + 1 := hk
  have hw : 0 ≤ left - (x.length : Int) → IntKind.i64.wrap (left - (x.length : Int)) = left - x.length := fun _ => wrap_id (by omega) (by omega)
  refine (e302 k x left).trans (sz_rows (α := Int × (List Int) × List Int) (s := szT s238) hl h0 h1 fun hp => ?_)
  rw [hw hp]
  have := szS_loop2 (L := L302_0 k _ _ x) (f := fun y p => F332 k y p) (fun _ _ => rfl) (neg := some (-1)) (fin := fun p => some p) (fun _ _ _ => rfl) (fun _ => rfl) (s := szT s238) (a := x) (fun y hy p q0 q1 => z332 k y p (hr y hy) (by have := sumL_le (f := szT s238) hy; omega) q0 q1) hl x.length k 0 (left - x.length) (by omega) (by omega) (by omega) (by omega)
  exact this
theorem z244 (k : Nat) (x : (Int × Int) × (List (Int × Int)) × List (Int × (List Int) × List Int)) (left : Int) (hr : rowsLe 140737488351232 s259 x) (hk : szT s259 x + 4 < k) (h0 : 0 ≤ left) (h1 : left ≤ 1048576) : F244 k x left = some (szR (szT s259 x) left) := by
  obtain ⟨k, rfl⟩ : ∃ q, k = q + 1 := ⟨k - 1, by omega⟩
  have hk' : (szT s150 x.1 + (szT (.l 330 s150) x.2.1 + szT (.l 328 s238) x.2.2)) + 4 < k + 1 := hk
  obtain ⟨r0, r1, r2⟩ : rowsLe 140737488351232 s150 x.1 ∧ rowsLe 140737488351232 (.l 330 s150) x.2.1 ∧ rowsLe 140737488351232 (.l 328 s238) x.2.2 := hr
  have f0 : szT s150 x.1 = 0 := szT_flat _ _ rfl
  have ht : szT s259 x = szT (.l 330 s150) x.2.1 + (szT (.l 328 s238) x.2.2 + 0) := by
    show (szT s150 x.1 + (szT (.l 330 s150) x.2.1 + szT (.l 328 s238) x.2.2)) = _
    omega
  rw [e244, ht]
  exact sz_step (z301 k _ _ r1 (by omega) h0 h1) h0 h1 fun p1 q1 w1 => sz_step (z302 k _ _ r2 (by omega) q1 w1) q1 w1 fun p2 q2 w2 => szR_zero q2
theorem z147 (k : Nat) (x : List ((Int × Int) × (List (Int × Int)) × List (Int × (List Int) × List Int))) (left : Int) (hr : rowsLe 140737488351232 (.l 260 s259) x) (hk : szT (.l 260 s259) x + 5 < k) (h0 : 0 ≤ left) (h1 : left ≤ 1048576) : F147 k x left = some (szR (szT (.l 260 s259) x) left) := by
  obtain ⟨k, rfl⟩ : ∃ q, k = q + 1 := ⟨k - 1, by omega⟩
  obtain ⟨hl, hr⟩ : x.length ≤ 140737488351232 ∧ ∀ y ∈ x, rowsLe 140737488351232 s259 y := rowsLe_row hr
  have hk' : x.length + sumL (szT s259) x + 5 < k + 1 := hk
  have hw : 0 ≤ left - (x.length : Int) → IntKind.i64.wrap (left - (x.length : Int)) = left - x.length := fun _ => wrap_id (by omega) (by omega)
  refine (e147 k x left).trans (sz_rows (α := (Int × Int) × (List (Int × Int)) × List (Int × (List Int) × List Int)) (s := szT s259) hl h0 h1 fun hp => ?_)
  rw [hw hp]
  have := szS_loop2 (L := L147_0 k _ _ x) (f := fun y p => F244 k y p) (fun _ _ => rfl) (neg := some (-1)) (fin := fun p => some p) (fun _ _ _ => rfl) (fun _ => rfl) (s := szT s259) (a := x) (fun y hy p q0 q1 => z244 k y p (hr y hy) (by have := sumL_le (f := szT s259) hy; omega) q0 q1) hl x.length k 0 (left - x.length) (by omega) (by omega) (by omega) (by omega)
  exact this
theorem z51 (k : Nat) (x : Int × Int × Int × List ((Int × Int) × (List (Int × Int)) × List (Int × (List Int) × List Int))) (left : Int) (hr : rowsLe 140737488351232 s28 x) (hk : szT s28 x + 6 < k) (h0 : 0 ≤ left) (h1 : left ≤ 1048576) : F51 k x left = some (szR (szT s28 x) left) := by
  obtain ⟨k, rfl⟩ : ∃ q, k = q + 1 := ⟨k - 1, by omega⟩
  have hk' : (szT (.i .i64) x.1 + (szT (.i .i64) x.2.1 + (szT (.i .i64) x.2.2.1 + szT (.l 260 s259) x.2.2.2))) + 6 < k + 1 := hk
  obtain ⟨r0, r1, r2, r3⟩ : rowsLe 140737488351232 (.i .i64) x.1 ∧ rowsLe 140737488351232 (.i .i64) x.2.1 ∧ rowsLe 140737488351232 (.i .i64) x.2.2.1 ∧ rowsLe 140737488351232 (.l 260 s259) x.2.2.2 := hr
  have f0 : szT (.i .i64) x.1 = 0 := szT_flat _ _ rfl
  have f1 : szT (.i .i64) x.2.1 = 0 := szT_flat _ _ rfl
  have f2 : szT (.i .i64) x.2.2.1 = 0 := szT_flat _ _ rfl
  have ht : szT s28 x = szT (.l 260 s259) x.2.2.2 + 0 := by
    show (szT (.i .i64) x.1 + (szT (.i .i64) x.2.1 + (szT (.i .i64) x.2.2.1 + szT (.l 260 s259) x.2.2.2))) = _
    omega
  rw [e51, ht]
  exact sz_step (z147 k _ _ r3 (by omega) h0 h1) h0 h1 fun p1 q1 w1 => szR_zero q1
theorem z52 (k : Nat) (x : List Int) (left : Int) (hr : rowsLe 140737488351232 s31 x) (hk : szT s31 x + 2 < k) (h0 : 0 ≤ left) (h1 : left ≤ 1048576) : F52 k x left = some (szR (szT s31 x) left) := by
  obtain ⟨k, rfl⟩ : ∃ q, k = q + 1 := ⟨k - 1, by omega⟩
  have hk' : szT (.l 3 (.i .i64)) x + 2 < k + 1 := hk
  have r0 : rowsLe 140737488351232 (.l 3 (.i .i64)) x := hr
  have ht : szT s31 x = szT (.l 3 (.i .i64)) x + 0 := by
    show szT (.l 3 (.i .i64)) x = _
    omega
  rw [e52, ht]
  exact sz_step (z53 k _ _ r0 (by omega) h0 h1) h0 h1 fun p1 q1 w1 => szR_zero q1
theorem z54 (k : Nat) (x : List (Int × Int × Int × Int × Int × Int)) (left : Int) (hr : rowsLe 140737488351232 (.l 188 s140) x) (hk : szT (.l 188 s140) x + 1 < k) (h0 : 0 ≤ left) (h1 : left ≤ 1048576) : F54 k x left = some (szR (szT (.l 188 s140) x) left) := by
  obtain ⟨k, rfl⟩ : ∃ q, k = q + 1 := ⟨k - 1, by omega⟩
  have hl : x.length ≤ 140737488351232 := (rowsLe_row hr).1
  have hz : szT (.l 188 s140) x = x.length := szT_row (e := 188) (sh := s140) rfl x
  exact (e54 k x left).trans ((sz_leaf hl h0 h1).trans (congrArg (fun n => some (szR n left)) hz.symm))
theorem z59 (k : Nat) (x : List (Int × Int × Int × Int × Int × Int)) (left : Int) (hr : rowsLe 140737488351232 (.l 192 s140) x) (hk : szT (.l 192 s140) x + 1 < k) (h0 : 0 ≤ left) (h1 : left ≤ 1048576) : F59 k x left = some (szR (szT (.l 192 s140) x) left) := by
  obtain ⟨k, rfl⟩ : ∃ q, k = q + 1 := ⟨k - 1, by omega⟩
  have hl : x.length ≤ 140737488351232 := (rowsLe_row hr).1
  have hz : szT (.l 192 s140) x = x.length := szT_row (e := 192) (sh := s140) rfl x
  exact (e59 k x left).trans ((sz_leaf hl h0 h1).trans (congrArg (fun n => some (szR n left)) hz.symm))
theorem z148 (k : Nat) (x : List (Int × Int × Int × Int × Int × Int)) (left : Int) (hr : rowsLe 140737488351232 s179 x) (hk : szT s179 x + 2 < k) (h0 : 0 ≤ left) (h1 : left ≤ 1048576) : F148 k x left = some (szR (szT s179 x) left) := by
  obtain ⟨k, rfl⟩ : ∃ q, k = q + 1 := ⟨k - 1, by omega⟩
  have hk' : szT (.l 192 s140) x + 2 < k + 1 := hk
  have r0 : rowsLe 140737488351232 (.l 192 s140) x := hr
  have ht : szT s179 x = szT (.l 192 s140) x + 0 := by
    show szT (.l 192 s140) x = _
    omega
  rw [e148, ht]
  exact sz_step (z59 k _ _ r0 (by omega) h0 h1) h0 h1 fun p1 q1 w1 => szR_zero q1
theorem z55 (k : Nat) (x : List (List (Int × Int × Int × Int × Int × Int))) (left : Int) (hr : rowsLe 140737488351232 (.l 180 s179) x) (hk : szT (.l 180 s179) x + 3 < k) (h0 : 0 ≤ left) (h1 : left ≤ 1048576) : F55 k x left = some (szR (szT (.l 180 s179) x) left) := by
  obtain ⟨k, rfl⟩ : ∃ q, k = q + 1 := ⟨k - 1, by omega⟩
  obtain ⟨hl, hr⟩ : x.length ≤ 140737488351232 ∧ ∀ y ∈ x, rowsLe 140737488351232 s179 y := rowsLe_row hr
  have hk' : x.length + sumL (szT s179) x + 3 < k + 1 := hk
  have hw : 0 ≤ left - (x.length : Int) → IntKind.i64.wrap (left - (x.length : Int)) = left - x.length := fun _ => wrap_id (by omega) (by omega)
  refine (e55 k x left).trans (sz_rows (α := List (Int × Int × Int × Int × Int × Int)) (s := szT s179) hl h0 h1 fun hp => ?_)
  rw [hw hp]
  have := szS_loop2 (L := L55_0 k _ _ x) (f := fun y p => F148 k y p) (fun _ _ => rfl) (neg := some (-1)) (fin := fun p => some p) (fun _ _ _ => rfl) (fun _ => rfl) (s := szT s179) (a := x) (fun y hy p q0 q1 => z148 k y p (hr y hy) (by have := sumL_le (f := szT s179) hy; omega) q0 q1) hl x.length k 0 (left - x.length) (by omega) (by omega) (by omega) (by omega)
  exact this
theorem z56 (k : Nat) (x : List (Int × Int × Int × Int)) (left : Int) (hr : rowsLe 140737488351232 (.l 84 s75) x) (hk : szT (.l 84 s75) x + 1 < k) (h0 : 0 ≤ left) (h1 : left ≤ 1048576) : F56 k x left = some (szR (szT (.l 84 s75) x) left) := by
  obtain ⟨k, rfl⟩ : ∃ q, k = q + 1 := ⟨k - 1, by omega⟩
  have hl : x.length ≤ 140737488351232 := (rowsLe_row hr).1
  have hz : szT (.l 84 s75) x = x.length := szT_row (e := 84) (sh := s75) rfl x
  exact (e56 k x left).trans ((sz_leaf hl h0 h1).trans (congrArg (fun n => some (szR n left)) hz.symm))
theorem z149 (k : Nat) (x : Int × Int × List Int) (left : Int) (hr : rowsLe 140737488351232 s165 x) (hk : szT s165 x + 2 < k) (h0 : 0 ≤ left) (h1 : left ≤ 1048576) : F149 k x left = some (szR (szT s165 x) left) := by
  obtain ⟨k, rfl⟩ : ∃ q, k = q + 1 := ⟨k - 1, by omega⟩
  have hk' : (szT (.i .i64) x.1 + (szT (.i .i64) x.2.1 + szT (.l 3 (.i .i64)) x.2.2)) + 2 < k + 1 := hk
  obtain ⟨r0, r1, r2⟩ : rowsLe 140737488351232 (.i .i64) x.1 ∧ rowsLe 140737488351232 (.i .i64) x.2.1 ∧ rowsLe 140737488351232 (.l 3 (.i .i64)) x.2.2 := hr
  have f0 : szT (.i .i64) x.1 = 0 := szT_flat _ _ rfl
  have f1 : szT (.i .i64) x.2.1 = 0 := szT_flat _ _ rfl
  have ht : szT s165 x = szT (.l 3 (.i .i64)) x.2.2 + 0 := by
    show (szT (.i .i64) x.1 + (szT (.i .i64) x.2.1 + szT (.l 3 (.i .i64)) x.2.2)) = _
    omega
  rw [e149, ht]
  exact sz_step (z53 k _ _ r2 (by omega) h0 h1) h0 h1 fun p1 q1 w1 => szR_zero q1
theorem z57 (k : Nat) (x : List (Int × Int × List Int)) (left : Int) (hr : rowsLe 140737488351232 (.l 182 s165) x) (hk : szT (.l 182 s165) x + 3 < k) (h0 : 0 ≤ left) (h1 : left ≤ 1048576) : F57 k x left = some (szR (szT (.l 182 s165) x) left) := by
  obtain ⟨k, rfl⟩ : ∃ q, k = q + 1 := ⟨k - 1, by omega⟩
  obtain ⟨hl, hr⟩ : x.length ≤ 140737488351232 ∧ ∀ y ∈ x, rowsLe 140737488351232 s165 y := rowsLe_row hr
  have hk' : x.length + sumL (szT s165) x + 3 < k + 1 := hk
  have hw : 0 ≤ left - (x.length : Int) → IntKind.i64.wrap (left - (x.length : Int)) = left - x.length := fun _ => wrap_id (by omega) (by omega)
  refine (e57 k x left).trans (sz_rows (α := Int × Int × List Int) (s := szT s165) hl h0 h1 fun hp => ?_)
  rw [hw hp]
  have := szS_loop2 (L := L57_0 k _ _ x) (f := fun y p => F149 k y p) (fun _ _ => rfl) (neg := some (-1)) (fin := fun p => some p) (fun _ _ _ => rfl) (fun _ => rfl) (s := szT s165) (a := x) (fun y hy p q0 q1 => z149 k y p (hr y hy) (by have := sumL_le (f := szT s165) hy; omega) q0 q1) hl x.length k 0 (left - x.length) (by omega) (by omega) (by omega) (by omega)
  exact this
theorem z58 (k : Nat) (x : List (Int × Int × Int × Int)) (left : Int) (hr : rowsLe 140737488351232 (.l 76 s75) x) (hk : szT (.l 76 s75) x + 1 < k) (h0 : 0 ≤ left) (h1 : left ≤ 1048576) : F58 k x left = some (szR (szT (.l 76 s75) x) left) := by
  obtain ⟨k, rfl⟩ : ∃ q, k = q + 1 := ⟨k - 1, by omega⟩
  have hl : x.length ≤ 140737488351232 := (rowsLe_row hr).1
  have hz : szT (.l 76 s75) x = x.length := szT_row (e := 76) (sh := s75) rfl x
  exact (e58 k x left).trans ((sz_leaf hl h0 h1).trans (congrArg (fun n => some (szR n left)) hz.symm))
theorem z60 (k : Nat) (x : List (Int × Int × Int × Int)) (left : Int) (hr : rowsLe 140737488351232 (.l 92 s75) x) (hk : szT (.l 92 s75) x + 1 < k) (h0 : 0 ≤ left) (h1 : left ≤ 1048576) : F60 k x left = some (szR (szT (.l 92 s75) x) left) := by
  obtain ⟨k, rfl⟩ : ∃ q, k = q + 1 := ⟨k - 1, by omega⟩
  have hl : x.length ≤ 140737488351232 := (rowsLe_row hr).1
  have hz : szT (.l 92 s75) x = x.length := szT_row (e := 92) (sh := s75) rfl x
  exact (e60 k x left).trans ((sz_leaf hl h0 h1).trans (congrArg (fun n => some (szR n left)) hz.symm))
theorem z14 (k : Nat) (x : (Int × (List (Int × Int × Int × Int)) × (List (Int × Int × Int)) × Int × Int × Int × Int × Int × (List (Int × Int × Int)) × Int) × (Int × Int × Int × List ((Int × Int) × (List (Int × Int)) × List (Int × (List Int) × List Int))) × (List Int) × (List Int) × (List (Int × Int × Int × Int × Int × Int)) × (List (List (Int × Int × Int × Int × Int × Int))) × (List (Int × Int × Int × Int)) × (List Int) × (List (Int × Int × List Int)) × (List (Int × Int × Int × Int)) × Int × Int × (List (Int × Int × Int × Int × Int × Int)) × List (Int × Int × Int × Int)) (left : Int) (hr : rowsLe 140737488351232 s40 x) (hk : szT s40 x + 7 < k) (h0 : 0 ≤ left) (h1 : left ≤ 1048576) : F14 k x left = some (szR (szT s40 x) left) := by
  obtain ⟨k, rfl⟩ : ∃ q, k = q + 1 := ⟨k - 1, by omega⟩
  have hk' : (szT s25 x.1 + (szT s28 x.2.1 + (szT s31 x.2.2.1 + (szT (.l 3 (.i .i64)) x.2.2.2.1 + (szT (.l 188 s140) x.2.2.2.2.1 + (szT (.l 180 s179) x.2.2.2.2.2.1 + (szT (.l 84 s75) x.2.2.2.2.2.2.1 + (szT (.l 3 (.i .i64)) x.2.2.2.2.2.2.2.1 + (szT (.l 182 s165) x.2.2.2.2.2.2.2.2.1 + (szT (.l 76 s75) x.2.2.2.2.2.2.2.2.2.1 + (szT (.i .i64) x.2.2.2.2.2.2.2.2.2.2.1 + (szT (.i .i64) x.2.2.2.2.2.2.2.2.2.2.2.1 + (szT (.l 192 s140) x.2.2.2.2.2.2.2.2.2.2.2.2.1 + szT (.l 92 s75) x.2.2.2.2.2.2.2.2.2.2.2.2.2))))))))))))) + 7 < k + 1 := hk
  obtain ⟨r0, r1, r2, r3, r4, r5, r6, r7, r8, r9, r10, r11, r12, r13⟩ : rowsLe 140737488351232 s25 x.1 ∧ rowsLe 140737488351232 s28 x.2.1 ∧ rowsLe 140737488351232 s31 x.2.2.1 ∧ rowsLe 140737488351232 (.l 3 (.i .i64)) x.2.2.2.1 ∧ rowsLe 140737488351232 (.l 188 s140) x.2.2.2.2.1 ∧ rowsLe 140737488351232 (.l 180 s179) x.2.2.2.2.2.1 ∧ rowsLe 140737488351232 (.l 84 s75) x.2.2.2.2.2.2.1 ∧ rowsLe 140737488351232 (.l 3 (.i .i64)) x.2.2.2.2.2.2.2.1 ∧ rowsLe 140737488351232 (.l 182 s165) x.2.2.2.2.2.2.2.2.1 ∧ rowsLe 140737488351232 (.l 76 s75) x.2.2.2.2.2.2.2.2.2.1 ∧ rowsLe 140737488351232 (.i .i64) x.2.2.2.2.2.2.2.2.2.2.1 ∧ rowsLe 140737488351232 (.i .i64) x.2.2.2.2.2.2.2.2.2.2.2.1 ∧ rowsLe 140737488351232 (.l 192 s140) x.2.2.2.2.2.2.2.2.2.2.2.2.1 ∧ rowsLe 140737488351232 (.l 92 s75) x.2.2.2.2.2.2.2.2.2.2.2.2.2 := hr
  have f10 : szT (.i .i64) x.2.2.2.2.2.2.2.2.2.2.1 = 0 := szT_flat _ _ rfl
  have f11 : szT (.i .i64) x.2.2.2.2.2.2.2.2.2.2.2.1 = 0 := szT_flat _ _ rfl
  have ht : szT s40 x = szT s25 x.1 + (szT s28 x.2.1 + (szT s31 x.2.2.1 + (szT (.l 3 (.i .i64)) x.2.2.2.1 + (szT (.l 188 s140) x.2.2.2.2.1 + (szT (.l 180 s179) x.2.2.2.2.2.1 + (szT (.l 84 s75) x.2.2.2.2.2.2.1 + (szT (.l 3 (.i .i64)) x.2.2.2.2.2.2.2.1 + (szT (.l 182 s165) x.2.2.2.2.2.2.2.2.1 + (szT (.l 76 s75) x.2.2.2.2.2.2.2.2.2.1 + (szT (.l 192 s140) x.2.2.2.2.2.2.2.2.2.2.2.2.1 + (szT (.l 92 s75) x.2.2.2.2.2.2.2.2.2.2.2.2.2 + 0))))))))))) := by
    show (szT s25 x.1 + (szT s28 x.2.1 + (szT s31 x.2.2.1 + (szT (.l 3 (.i .i64)) x.2.2.2.1 + (szT (.l 188 s140) x.2.2.2.2.1 + (szT (.l 180 s179) x.2.2.2.2.2.1 + (szT (.l 84 s75) x.2.2.2.2.2.2.1 + (szT (.l 3 (.i .i64)) x.2.2.2.2.2.2.2.1 + (szT (.l 182 s165) x.2.2.2.2.2.2.2.2.1 + (szT (.l 76 s75) x.2.2.2.2.2.2.2.2.2.1 + (szT (.i .i64) x.2.2.2.2.2.2.2.2.2.2.1 + (szT (.i .i64) x.2.2.2.2.2.2.2.2.2.2.2.1 + (szT (.l 192 s140) x.2.2.2.2.2.2.2.2.2.2.2.2.1 + szT (.l 92 s75) x.2.2.2.2.2.2.2.2.2.2.2.2.2))))))))))))) = _
    omega
  rw [e14, ht]
  exact sz_step (z50 k _ _ r0 (by omega) h0 h1) h0 h1 fun p1 q1 w1 => sz_step (z51 k _ _ r1 (by omega) q1 w1) q1 w1 fun p2 q2 w2 => sz_step (z52 k _ _ r2 (by omega) q2 w2) q2 w2 fun p3 q3 w3 => sz_step (z53 k _ _ r3 (by omega) q3 w3) q3 w3 fun p4 q4 w4 => sz_step (z54 k _ _ r4 (by omega) q4 w4) q4 w4 fun p5 q5 w5 => sz_step (z55 k _ _ r5 (by omega) q5 w5) q5 w5 fun p6 q6 w6 => sz_step (z56 k _ _ r6 (by omega) q6 w6) q6 w6 fun p7 q7 w7 => sz_step (z53 k _ _ r7 (by omega) q7 w7) q7 w7 fun p8 q8 w8 => sz_step (z57 k _ _ r8 (by omega) q8 w8) q8 w8 fun p9 q9 w9 => sz_step (z58 k _ _ r9 (by omega) q9 w9) q9 w9 fun p10 q10 w10 => sz_step (z59 k _ _ r12 (by omega) q10 w10) q10 w10 fun p11 q11 w11 => sz_step (z60 k _ _ r13 (by omega) q11 w11) q11 w11 fun p12 q12 w12 => szR_zero q12
theorem t245 (k : Nat) (x : Int × Int × Int × Int) (hz : szT s75 x ≤ 1048576) (hk : szT s75 x + 1 < k) : F245 k x = some x := by
  obtain ⟨k, rfl⟩ : ∃ q, k = q + 1 := ⟨k - 1, by omega⟩
  have hk' : (szT (.i .i64) x.1 + (szT (.i .i64) x.2.1 + (szT (.i .i64) x.2.2.1 + szT (.i .i64) x.2.2.2))) + 1 < k + 1 := hk
  have hz' : (szT (.i .i64) x.1 + (szT (.i .i64) x.2.1 + (szT (.i .i64) x.2.2.1 + szT (.i .i64) x.2.2.2))) ≤ 1048576 := hz
  exact e245 k x
theorem t150 (k : Nat) (x : List (Int × Int × Int × Int)) (hz : szT (.l 264 s75) x ≤ 1048576) (hk : szT (.l 264 s75) x + 2 < k) : F150 k x = some x := by
  obtain ⟨k, rfl⟩ : ∃ q, k = q + 1 := ⟨k - 1, by omega⟩
  have hk' : x.length + sumL (szT s75) x + 2 < k + 1 := hk
  have hz' : x.length + sumL (szT s75) x ≤ 1048576 := hz
  refine (e150 k x).trans ?_
  rw [if_pos rfl, if_pos (by omega), if_pos (by simp; omega)]
  exact toS_loop2 (α := Int × Int × Int × Int) (L := L150_0 k _ x) (f := fun y => F245 k y) (fun _ _ => rfl) (a := x) (fun y hy => t245 k y (by have := sumL_le (f := szT s75) hy; omega) (by have := sumL_le (f := szT s75) hy; omega)) (by omega) x.length k 0 _ (by omega) (by omega) (by simp) (by simp)
theorem t246 (k : Nat) (x : Int × Int × Int) (hz : szT s265 x ≤ 1048576) (hk : szT s265 x + 1 < k) : F246 k x = some x := by
  obtain ⟨k, rfl⟩ : ∃ q, k = q + 1 := ⟨k - 1, by omega⟩
  have hk' : (szT (.i .i64) x.1 + (szT (.i .i64) x.2.1 + szT (.i .i64) x.2.2)) + 1 < k + 1 := hk
  have hz' : (szT (.i .i64) x.1 + (szT (.i .i64) x.2.1 + szT (.i .i64) x.2.2)) ≤ 1048576 := hz
  exact e246 k x
theorem t151 (k : Nat) (x : List (Int × Int × Int)) (hz : szT (.l 268 s265) x ≤ 1048576) (hk : szT (.l 268 s265) x + 2 < k) : F151 k x = some x := by
  obtain ⟨k, rfl⟩ : ∃ q, k = q + 1 := ⟨k - 1, by omega⟩
  have hk' : x.length + sumL (szT s265) x + 2 < k + 1 := hk
  have hz' : x.length + sumL (szT s265) x ≤ 1048576 := hz
  refine (e151 k x).trans ?_
  rw [if_pos rfl, if_pos (by omega), if_pos (by simp; omega)]
  exact toS_loop2 (α := Int × Int × Int) (L := L151_0 k _ x) (f := fun y => F246 k y) (fun _ _ => rfl) (a := x) (fun y hy => t246 k y (by have := sumL_le (f := szT s265) hy; omega) (by have := sumL_le (f := szT s265) hy; omega)) (by omega) x.length k 0 _ (by omega) (by omega) (by simp) (by simp)
theorem t303 (k : Nat) (x : Int × Int) (hz : szT s150 x ≤ 1048576) (hk : szT s150 x + 1 < k) : F303 k x = some x := by
  obtain ⟨k, rfl⟩ : ∃ q, k = q + 1 := ⟨k - 1, by omega⟩
  have hk' : (szT (.i .i64) x.1 + szT (.i .i64) x.2) + 1 < k + 1 := hk
  have hz' : (szT (.i .i64) x.1 + szT (.i .i64) x.2) ≤ 1048576 := hz
  exact e303 k x
theorem t247 (k : Nat) (x : Int × Int × Int) (hz : szT s271 x ≤ 1048576) (hk : szT s271 x + 2 < k) : F247 k x = some x := by
  obtain ⟨k, rfl⟩ : ∃ q, k = q + 1 := ⟨k - 1, by omega⟩
  have hk' : (szT (.i .i64) x.1 + szT s150 x.2) + 2 < k + 1 := hk
  have hz' : (szT (.i .i64) x.1 + szT s150 x.2) ≤ 1048576 := hz
  have g0 : F303 k x.2 = some x.2 := t303 k x.2 (by omega) (by omega)
  refine (e247 k x).trans ?_
  simp only [g0, Option.bind_some, bne_self_eq_false, beq_self_eq_true, Bool.not_true, Bool.false_eq_true, if_false]
theorem t152 (k : Nat) (x : List (Int × Int × Int)) (hz : szT (.l 276 s271) x ≤ 1048576) (hk : szT (.l 276 s271) x + 3 < k) : F152 k x = some x := by
  obtain ⟨k, rfl⟩ : ∃ q, k = q + 1 := ⟨k - 1, by omega⟩
  have hk' : x.length + sumL (szT s271) x + 3 < k + 1 := hk
  have hz' : x.length + sumL (szT s271) x ≤ 1048576 := hz
  refine (e152 k x).trans ?_
  rw [if_pos rfl, if_pos (by omega), if_pos (by simp; omega)]
  exact toS_loop2 (α := Int × Int × Int) (L := L152_0 k _ x) (f := fun y => F247 k y) (fun _ _ => rfl) (a := x) (fun y hy => t247 k y (by have := sumL_le (f := szT s271) hy; omega) (by have := sumL_le (f := szT s271) hy; omega)) (by omega) x.length k 0 _ (by omega) (by omega) (by simp) (by simp)
theorem t61 (k : Nat) (x : Int × (List (Int × Int × Int × Int)) × (List (Int × Int × Int)) × Int × Int × Int × Int × Int × (List (Int × Int × Int)) × Int) (hz : szT s25 x ≤ 1048576) (hk : szT s25 x + 4 < k) : F61 k x = some x := by
  obtain ⟨k, rfl⟩ : ∃ q, k = q + 1 := ⟨k - 1, by omega⟩
  have hk' : (szT (.i .i64) x.1 + (szT (.l 264 s75) x.2.1 + (szT (.l 268 s265) x.2.2.1 + (szT (.i .i64) x.2.2.2.1 + (szT (.i .i64) x.2.2.2.2.1 + (szT (.i .i64) x.2.2.2.2.2.1 + (szT (.i .i64) x.2.2.2.2.2.2.1 + (szT (.i .i64) x.2.2.2.2.2.2.2.1 + (szT (.l 276 s271) x.2.2.2.2.2.2.2.2.1 + szT (.i .i64) x.2.2.2.2.2.2.2.2.2))))))))) + 4 < k + 1 := hk
  have hz' : (szT (.i .i64) x.1 + (szT (.l 264 s75) x.2.1 + (szT (.l 268 s265) x.2.2.1 + (szT (.i .i64) x.2.2.2.1 + (szT (.i .i64) x.2.2.2.2.1 + (szT (.i .i64) x.2.2.2.2.2.1 + (szT (.i .i64) x.2.2.2.2.2.2.1 + (szT (.i .i64) x.2.2.2.2.2.2.2.1 + (szT (.l 276 s271) x.2.2.2.2.2.2.2.2.1 + szT (.i .i64) x.2.2.2.2.2.2.2.2.2))))))))) ≤ 1048576 := hz
  have g0 : F150 k x.2.1 = some x.2.1 := t150 k x.2.1 (by omega) (by omega)
  have g1 : F151 k x.2.2.1 = some x.2.2.1 := t151 k x.2.2.1 (by omega) (by omega)
  have g2 : F152 k x.2.2.2.2.2.2.2.2.1 = some x.2.2.2.2.2.2.2.2.1 := t152 k x.2.2.2.2.2.2.2.2.1 (by omega) (by omega)
  refine (e61 k x).trans ?_
  simp only [g0, g1, g2, Option.bind_some, bne_self_eq_false, beq_self_eq_true, Bool.not_true, Bool.false_eq_true, if_false]
theorem t304 (k : Nat) (x : Int × Int) (hz : szT s150 x ≤ 1048576) (hk : szT s150 x + 1 < k) : F304 k x = some x := by
  obtain ⟨k, rfl⟩ : ∃ q, k = q + 1 := ⟨k - 1, by omega⟩
  have hk' : (szT (.i .i64) x.1 + szT (.i .i64) x.2) + 1 < k + 1 := hk
  have hz' : (szT (.i .i64) x.1 + szT (.i .i64) x.2) ≤ 1048576 := hz
  exact e304 k x
theorem t333 (k : Nat) (x : Int × Int) (hz : szT s150 x ≤ 1048576) (hk : szT s150 x + 1 < k) : F333 k x = some x := by
  obtain ⟨k, rfl⟩ : ∃ q, k = q + 1 := ⟨k - 1, by omega⟩
  have hk' : (szT (.i .i64) x.1 + szT (.i .i64) x.2) + 1 < k + 1 := hk
  have hz' : (szT (.i .i64) x.1 + szT (.i .i64) x.2) ≤ 1048576 := hz
  exact e333 k x
theorem t305 (k : Nat) (x : List (Int × Int)) (hz : szT (.l 330 s150) x ≤ 1048576) (hk : szT (.l 330 s150) x + 2 < k) : F305 k x = some x := by
  obtain ⟨k, rfl⟩ : ∃ q, k = q + 1 := ⟨k - 1, by omega⟩
  have hk' : x.length + sumL (szT s150) x + 2 < k + 1 := hk
  have hz' : x.length + sumL (szT s150) x ≤ 1048576 := hz
  refine (e305 k x).trans ?_
  rw [if_pos rfl, if_pos (by omega), if_pos (by simp; omega)]
  exact toS_loop2 (α := Int × Int) (L := L305_0 k _ x) (f := fun y => F333 k y) (fun _ _ => rfl) (a := x) (fun y hy => t333 k y (by have := sumL_le (f := szT s150) hy; omega) (by have := sumL_le (f := szT s150) hy; omega)) (by omega) x.length k 0 _ (by omega) (by omega) (by simp) (by simp)
theorem t64 (k : Nat) (x : List Int) (hz : szT (.l 3 (.i .i64)) x ≤ 1048576) (hk : szT (.l 3 (.i .i64)) x + 1 < k) : F64 k x = some x := by
  obtain ⟨k, rfl⟩ : ∃ q, k = q + 1 := ⟨k - 1, by omega⟩
  have hk' : x.length + sumL (szT (.i .i64)) x + 1 < k + 1 := hk
  have hz' : x.length + sumL (szT (.i .i64)) x ≤ 1048576 := hz
  refine (e64 k x).trans ?_
  rw [if_pos rfl, if_pos (by omega), if_pos (by simp; omega)]
  exact toS_loop2 (α := Int) (L := L64_0 k _ x) (f := fun y => some y) (fun _ _ => rfl) (a := x) (fun _ _ => rfl) (by omega) x.length k 0 _ (by omega) (by omega) (by simp) (by simp)
theorem t334 (k : Nat) (x : Int × (List Int) × List Int) (hz : szT s238 x ≤ 1048576) (hk : szT s238 x + 2 < k) : F334 k x = some x := by
  obtain ⟨k, rfl⟩ : ∃ q, k = q + 1 := ⟨k - 1, by omega⟩
  have hk' : (szT (.i .i64) x.1 + (szT (.l 3 (.i .i64)) x.2.1 + szT (.l 3 (.i .i64)) x.2.2)) + 2 < k + 1 := hk
  have hz' : (szT (.i .i64) x.1 + (szT (.l 3 (.i .i64)) x.2.1 + szT (.l 3 (.i .i64)) x.2.2)) ≤ 1048576 := hz
  have g0 : F64 k x.2.1 = some x.2.1 := t64 k x.2.1 (by omega) (by omega)
  have g1 : F64 k x.2.2 = some x.2.2 := t64 k x.2.2 (by omega) (by omega)
  refine (e334 k x).trans ?_
  simp only [g0, g1, Option.bind_some, bne_self_eq_false, beq_self_eq_true, Bool.not_true, Bool.false_eq_true, if_false]
theorem t306 (k : Nat) (x : List (Int × (List Int) × List Int)) (hz : szT (.l 328 s238) x ≤ 1048576) (hk : szT (.l 328 s238) x + 3 < k) : F306 k x = some x := by
  obtain ⟨k, rfl⟩ : ∃ q, k = q + 1 := ⟨k - 1, by omega⟩
  have hk' : x.length + sumL (szT s238) x + 3 < k + 1 := hk
  have hz' : x.length + sumL (szT s238) x ≤ 1048576 := hz
  refine (e306 k x).trans ?_
  rw [if_pos rfl, if_pos (by omega), if_pos (by simp; omega)]
  exact toS_loop2 (α := Int × (List Int) × List Int) (L := L306_0 k _ x) (f := fun y => F334 k y) (fun _ _ => rfl) (a := x) (fun y hy => t334 k y (by have := sumL_le (f := szT s238) hy; omega) (by have := sumL_le (f := szT s238) hy; omega)) (by omega) x.length k 0 _ (by omega) (by omega) (by simp) (by simp)
theorem t248 (k : Nat) (x : (Int × Int) × (List (Int × Int)) × List (Int × (List Int) × List Int)) (hz : szT s259 x ≤ 1048576) (hk : szT s259 x + 4 < k) : F248 k x = some x := by
  obtain ⟨k, rfl⟩ : ∃ q, k = q + 1 := ⟨k - 1, by omega⟩
  have hk' : (szT s150 x.1 + (szT (.l 330 s150) x.2.1 + szT (.l 328 s238) x.2.2)) + 4 < k + 1 := hk
  have hz' : (szT s150 x.1 + (szT (.l 330 s150) x.2.1 + szT (.l 328 s238) x.2.2)) ≤ 1048576 := hz
  have g0 : F304 k x.1 = some x.1 := t304 k x.1 (by omega) (by omega)
  have g1 : F305 k x.2.1 = some x.2.1 := t305 k x.2.1 (by omega) (by omega)
  have g2 : F306 k x.2.2 = some x.2.2 := t306 k x.2.2 (by omega) (by omega)
  refine (e248 k x).trans ?_
  simp only [g0, g1, g2, Option.bind_some, bne_self_eq_false, beq_self_eq_true, Bool.not_true, Bool.false_eq_true, if_false]
theorem t153 (k : Nat) (x : List ((Int × Int) × (List (Int × Int)) × List (Int × (List Int) × List Int))) (hz : szT (.l 260 s259) x ≤ 1048576) (hk : szT (.l 260 s259) x + 5 < k) : F153 k x = some x := by
  obtain ⟨k, rfl⟩ : ∃ q, k = q + 1 := ⟨k - 1, by omega⟩
  have hk' : x.length + sumL (szT s259) x + 5 < k + 1 := hk
  have hz' : x.length + sumL (szT s259) x ≤ 1048576 := hz
  refine (e153 k x).trans ?_
  rw [if_pos rfl, if_pos (by omega), if_pos (by simp; omega)]
  exact toS_loop2 (α := (Int × Int) × (List (Int × Int)) × List (Int × (List Int) × List Int)) (L := L153_0 k _ x) (f := fun y => F248 k y) (fun _ _ => rfl) (a := x) (fun y hy => t248 k y (by have := sumL_le (f := szT s259) hy; omega) (by have := sumL_le (f := szT s259) hy; omega)) (by omega) x.length k 0 _ (by omega) (by omega) (by simp) (by simp)
theorem t62 (k : Nat) (x : Int × Int × Int × List ((Int × Int) × (List (Int × Int)) × List (Int × (List Int) × List Int))) (hz : szT s28 x ≤ 1048576) (hk : szT s28 x + 6 < k) : F62 k x = some x := by
  obtain ⟨k, rfl⟩ : ∃ q, k = q + 1 := ⟨k - 1, by omega⟩
  have hk' : (szT (.i .i64) x.1 + (szT (.i .i64) x.2.1 + (szT (.i .i64) x.2.2.1 + szT (.l 260 s259) x.2.2.2))) + 6 < k + 1 := hk
  have hz' : (szT (.i .i64) x.1 + (szT (.i .i64) x.2.1 + (szT (.i .i64) x.2.2.1 + szT (.l 260 s259) x.2.2.2))) ≤ 1048576 := hz
  have g0 : F153 k x.2.2.2 = some x.2.2.2 := t153 k x.2.2.2 (by omega) (by omega)
  refine (e62 k x).trans ?_
  simp only [g0, Option.bind_some, bne_self_eq_false, beq_self_eq_true, Bool.not_true, Bool.false_eq_true, if_false]
theorem t63 (k : Nat) (x : List Int) (hz : szT s31 x ≤ 1048576) (hk : szT s31 x + 2 < k) : F63 k x = some x := by
  obtain ⟨k, rfl⟩ : ∃ q, k = q + 1 := ⟨k - 1, by omega⟩
  have hk' : szT (.l 3 (.i .i64)) x + 2 < k + 1 := hk
  have hz' : szT (.l 3 (.i .i64)) x ≤ 1048576 := hz
  have g0 : F64 k x = some x := t64 k x (by omega) (by omega)
  refine (e63 k x).trans ?_
  simp only [g0, Option.bind_some, bne_self_eq_false, beq_self_eq_true, Bool.not_true, Bool.false_eq_true, if_false]
theorem t154 (k : Nat) (x : Int × Int × Int × Int × Int × Int) (hz : szT s140 x ≤ 1048576) (hk : szT s140 x + 1 < k) : F154 k x = some x := by
  obtain ⟨k, rfl⟩ : ∃ q, k = q + 1 := ⟨k - 1, by omega⟩
  have hk' : (szT (.i .i64) x.1 + (szT (.i .i64) x.2.1 + (szT (.i .i64) x.2.2.1 + (szT (.i .i64) x.2.2.2.1 + (szT (.i .i64) x.2.2.2.2.1 + szT (.i .i64) x.2.2.2.2.2))))) + 1 < k + 1 := hk
  have hz' : (szT (.i .i64) x.1 + (szT (.i .i64) x.2.1 + (szT (.i .i64) x.2.2.1 + (szT (.i .i64) x.2.2.2.1 + (szT (.i .i64) x.2.2.2.2.1 + szT (.i .i64) x.2.2.2.2.2))))) ≤ 1048576 := hz
  exact e154 k x
theorem t65 (k : Nat) (x : List (Int × Int × Int × Int × Int × Int)) (hz : szT (.l 188 s140) x ≤ 1048576) (hk : szT (.l 188 s140) x + 2 < k) : F65 k x = some x := by
  obtain ⟨k, rfl⟩ : ∃ q, k = q + 1 := ⟨k - 1, by omega⟩
  have hk' : x.length + sumL (szT s140) x + 2 < k + 1 := hk
  have hz' : x.length + sumL (szT s140) x ≤ 1048576 := hz
  refine (e65 k x).trans ?_
  rw [if_pos rfl, if_pos (by omega), if_pos (by simp; omega)]
  exact toS_loop2 (α := Int × Int × Int × Int × Int × Int) (L := L65_0 k _ x) (f := fun y => F154 k y) (fun _ _ => rfl) (a := x) (fun y hy => t154 k y (by have := sumL_le (f := szT s140) hy; omega) (by have := sumL_le (f := szT s140) hy; omega)) (by omega) x.length k 0 _ (by omega) (by omega) (by simp) (by simp)
theorem t157 (k : Nat) (x : Int × Int × Int × Int × Int × Int) (hz : szT s140 x ≤ 1048576) (hk : szT s140 x + 1 < k) : F157 k x = some x := by
  obtain ⟨k, rfl⟩ : ∃ q, k = q + 1 := ⟨k - 1, by omega⟩
  have hk' : (szT (.i .i64) x.1 + (szT (.i .i64) x.2.1 + (szT (.i .i64) x.2.2.1 + (szT (.i .i64) x.2.2.2.1 + (szT (.i .i64) x.2.2.2.2.1 + szT (.i .i64) x.2.2.2.2.2))))) + 1 < k + 1 := hk
  have hz' : (szT (.i .i64) x.1 + (szT (.i .i64) x.2.1 + (szT (.i .i64) x.2.2.1 + (szT (.i .i64) x.2.2.2.1 + (szT (.i .i64) x.2.2.2.2.1 + szT (.i .i64) x.2.2.2.2.2))))) ≤ 1048576 := hz
  exact e157 k x
theorem t70 (k : Nat) (x : List (Int × Int × Int × Int × Int × Int)) (hz : szT (.l 192 s140) x ≤ 1048576) (hk : szT (.l 192 s140) x + 2 < k) : F70 k x = some x := by
  obtain ⟨k, rfl⟩ : ∃ q, k = q + 1 := ⟨k - 1, by omega⟩
  have hk' : x.length + sumL (szT s140) x + 2 < k + 1 := hk
  have hz' : x.length + sumL (szT s140) x ≤ 1048576 := hz
  refine (e70 k x).trans ?_
  rw [if_pos rfl, if_pos (by omega), if_pos (by simp; omega)]
  exact toS_loop2 (α := Int × Int × Int × Int × Int × Int) (L := L70_0 k _ x) (f := fun y => F157 k y) (fun _ _ => rfl) (a := x) (fun y hy => t157 k y (by have := sumL_le (f := szT s140) hy; omega) (by have := sumL_le (f := szT s140) hy; omega)) (by omega) x.length k 0 _ (by omega) (by omega) (by simp) (by simp)
theorem t155 (k : Nat) (x : List (Int × Int × Int × Int × Int × Int)) (hz : szT s179 x ≤ 1048576) (hk : szT s179 x + 3 < k) : F155 k x = some x := by
  obtain ⟨k, rfl⟩ : ∃ q, k = q + 1 := ⟨k - 1, by omega⟩
  have hk' : szT (.l 192 s140) x + 3 < k + 1 := hk
  have hz' : szT (.l 192 s140) x ≤ 1048576 := hz
  have g0 : F70 k x = some x := t70 k x (by omega) (by omega)
  refine (e155 k x).trans ?_
  simp only [g0, Option.bind_some, bne_self_eq_false, beq_self_eq_true, Bool.not_true, Bool.false_eq_true, if_false]
theorem t66 (k : Nat) (x : List (List (Int × Int × Int × Int × Int × Int))) (hz : szT (.l 180 s179) x ≤ 1048576) (hk : szT (.l 180 s179) x + 4 < k) : F66 k x = some x := by
  obtain ⟨k, rfl⟩ : ∃ q, k = q + 1 := ⟨k - 1, by omega⟩
  have hk' : x.length + sumL (szT s179) x + 4 < k + 1 := hk
  have hz' : x.length + sumL (szT s179) x ≤ 1048576 := hz
  refine (e66 k x).trans ?_
  rw [if_pos rfl, if_pos (by omega), if_pos (by simp; omega)]
  exact toS_loop2 (α := List (Int × Int × Int × Int × Int × Int)) (L := L66_0 k _ x) (f := fun y => F155 k y) (fun _ _ => rfl) (a := x) (fun y hy => t155 k y (by have := sumL_le (f := szT s179) hy; omega) (by have := sumL_le (f := szT s179) hy; omega)) (by omega) x.length k 0 _ (by omega) (by omega) (by simp) (by simp)
theorem t43 (k : Nat) (x : Int × Int × Int × Int) (hz : szT s75 x ≤ 1048576) (hk : szT s75 x + 1 < k) : F43 k x = some x := by
  obtain ⟨k, rfl⟩ : ∃ q, k = q + 1 := ⟨k - 1, by omega⟩
  have hk' : (szT (.i .i64) x.1 + (szT (.i .i64) x.2.1 + (szT (.i .i64) x.2.2.1 + szT (.i .i64) x.2.2.2))) + 1 < k + 1 := hk
  have hz' : (szT (.i .i64) x.1 + (szT (.i .i64) x.2.1 + (szT (.i .i64) x.2.2.1 + szT (.i .i64) x.2.2.2))) ≤ 1048576 := hz
  exact e43 k x
theorem t67 (k : Nat) (x : List (Int × Int × Int × Int)) (hz : szT (.l 84 s75) x ≤ 1048576) (hk : szT (.l 84 s75) x + 2 < k) : F67 k x = some x := by
  obtain ⟨k, rfl⟩ : ∃ q, k = q + 1 := ⟨k - 1, by omega⟩
  have hk' : x.length + sumL (szT s75) x + 2 < k + 1 := hk
  have hz' : x.length + sumL (szT s75) x ≤ 1048576 := hz
  refine (e67 k x).trans ?_
  rw [if_pos rfl, if_pos (by omega), if_pos (by simp; omega)]
  exact toS_loop2 (α := Int × Int × Int × Int) (L := L67_0 k _ x) (f := fun y => F43 k y) (fun _ _ => rfl) (a := x) (fun y hy => t43 k y (by have := sumL_le (f := szT s75) hy; omega) (by have := sumL_le (f := szT s75) hy; omega)) (by omega) x.length k 0 _ (by omega) (by omega) (by simp) (by simp)
theorem t156 (k : Nat) (x : Int × Int × List Int) (hz : szT s165 x ≤ 1048576) (hk : szT s165 x + 2 < k) : F156 k x = some x := by
  obtain ⟨k, rfl⟩ : ∃ q, k = q + 1 := ⟨k - 1, by omega⟩
  have hk' : (szT (.i .i64) x.1 + (szT (.i .i64) x.2.1 + szT (.l 3 (.i .i64)) x.2.2)) + 2 < k + 1 := hk
  have hz' : (szT (.i .i64) x.1 + (szT (.i .i64) x.2.1 + szT (.l 3 (.i .i64)) x.2.2)) ≤ 1048576 := hz
  have g0 : F64 k x.2.2 = some x.2.2 := t64 k x.2.2 (by omega) (by omega)
  refine (e156 k x).trans ?_
  simp only [g0, Option.bind_some, bne_self_eq_false, beq_self_eq_true, Bool.not_true, Bool.false_eq_true, if_false]
theorem t68 (k : Nat) (x : List (Int × Int × List Int)) (hz : szT (.l 182 s165) x ≤ 1048576) (hk : szT (.l 182 s165) x + 3 < k) : F68 k x = some x := by
  obtain ⟨k, rfl⟩ : ∃ q, k = q + 1 := ⟨k - 1, by omega⟩
  have hk' : x.length + sumL (szT s165) x + 3 < k + 1 := hk
  have hz' : x.length + sumL (szT s165) x ≤ 1048576 := hz
  refine (e68 k x).trans ?_
  rw [if_pos rfl, if_pos (by omega), if_pos (by simp; omega)]
  exact toS_loop2 (α := Int × Int × List Int) (L := L68_0 k _ x) (f := fun y => F156 k y) (fun _ _ => rfl) (a := x) (fun y hy => t156 k y (by have := sumL_le (f := szT s165) hy; omega) (by have := sumL_le (f := szT s165) hy; omega)) (by omega) x.length k 0 _ (by omega) (by omega) (by simp) (by simp)
theorem t37 (k : Nat) (x : Int × Int × Int × Int) (hz : szT s75 x ≤ 1048576) (hk : szT s75 x + 1 < k) : F37 k x = some x := by
  obtain ⟨k, rfl⟩ : ∃ q, k = q + 1 := ⟨k - 1, by omega⟩
  have hk' : (szT (.i .i64) x.1 + (szT (.i .i64) x.2.1 + (szT (.i .i64) x.2.2.1 + szT (.i .i64) x.2.2.2))) + 1 < k + 1 := hk
  have hz' : (szT (.i .i64) x.1 + (szT (.i .i64) x.2.1 + (szT (.i .i64) x.2.2.1 + szT (.i .i64) x.2.2.2))) ≤ 1048576 := hz
  exact e37 k x
theorem t69 (k : Nat) (x : List (Int × Int × Int × Int)) (hz : szT (.l 76 s75) x ≤ 1048576) (hk : szT (.l 76 s75) x + 2 < k) : F69 k x = some x := by
  obtain ⟨k, rfl⟩ : ∃ q, k = q + 1 := ⟨k - 1, by omega⟩
  have hk' : x.length + sumL (szT s75) x + 2 < k + 1 := hk
  have hz' : x.length + sumL (szT s75) x ≤ 1048576 := hz
  refine (e69 k x).trans ?_
  rw [if_pos rfl, if_pos (by omega), if_pos (by simp; omega)]
  exact toS_loop2 (α := Int × Int × Int × Int) (L := L69_0 k _ x) (f := fun y => F37 k y) (fun _ _ => rfl) (a := x) (fun y hy => t37 k y (by have := sumL_le (f := szT s75) hy; omega) (by have := sumL_le (f := szT s75) hy; omega)) (by omega) x.length k 0 _ (by omega) (by omega) (by simp) (by simp)
theorem t48 (k : Nat) (x : Int × Int × Int × Int) (hz : szT s75 x ≤ 1048576) (hk : szT s75 x + 1 < k) : F48 k x = some x := by
  obtain ⟨k, rfl⟩ : ∃ q, k = q + 1 := ⟨k - 1, by omega⟩
  have hk' : (szT (.i .i64) x.1 + (szT (.i .i64) x.2.1 + (szT (.i .i64) x.2.2.1 + szT (.i .i64) x.2.2.2))) + 1 < k + 1 := hk
  have hz' : (szT (.i .i64) x.1 + (szT (.i .i64) x.2.1 + (szT (.i .i64) x.2.2.1 + szT (.i .i64) x.2.2.2))) ≤ 1048576 := hz
  exact e48 k x
theorem t71 (k : Nat) (x : List (Int × Int × Int × Int)) (hz : szT (.l 92 s75) x ≤ 1048576) (hk : szT (.l 92 s75) x + 2 < k) : F71 k x = some x := by
  obtain ⟨k, rfl⟩ : ∃ q, k = q + 1 := ⟨k - 1, by omega⟩
  have hk' : x.length + sumL (szT s75) x + 2 < k + 1 := hk
  have hz' : x.length + sumL (szT s75) x ≤ 1048576 := hz
  refine (e71 k x).trans ?_
  rw [if_pos rfl, if_pos (by omega), if_pos (by simp; omega)]
  exact toS_loop2 (α := Int × Int × Int × Int) (L := L71_0 k _ x) (f := fun y => F48 k y) (fun _ _ => rfl) (a := x) (fun y hy => t48 k y (by have := sumL_le (f := szT s75) hy; omega) (by have := sumL_le (f := szT s75) hy; omega)) (by omega) x.length k 0 _ (by omega) (by omega) (by simp) (by simp)
theorem t16 (k : Nat) (x : (Int × (List (Int × Int × Int × Int)) × (List (Int × Int × Int)) × Int × Int × Int × Int × Int × (List (Int × Int × Int)) × Int) × (Int × Int × Int × List ((Int × Int) × (List (Int × Int)) × List (Int × (List Int) × List Int))) × (List Int) × (List Int) × (List (Int × Int × Int × Int × Int × Int)) × (List (List (Int × Int × Int × Int × Int × Int))) × (List (Int × Int × Int × Int)) × (List Int) × (List (Int × Int × List Int)) × (List (Int × Int × Int × Int)) × Int × Int × (List (Int × Int × Int × Int × Int × Int)) × List (Int × Int × Int × Int)) (hz : szT s40 x ≤ 1048576) (hk : szT s40 x + 7 < k) : F16 k x = some x := by
  obtain ⟨k, rfl⟩ : ∃ q, k = q + 1 := ⟨k - 1, by omega⟩
  have hk' : (szT s25 x.1 + (szT s28 x.2.1 + (szT s31 x.2.2.1 + (szT (.l 3 (.i .i64)) x.2.2.2.1 + (szT (.l 188 s140) x.2.2.2.2.1 + (szT (.l 180 s179) x.2.2.2.2.2.1 + (szT (.l 84 s75) x.2.2.2.2.2.2.1 + (szT (.l 3 (.i .i64)) x.2.2.2.2.2.2.2.1 + (szT (.l 182 s165) x.2.2.2.2.2.2.2.2.1 + (szT (.l 76 s75) x.2.2.2.2.2.2.2.2.2.1 + (szT (.i .i64) x.2.2.2.2.2.2.2.2.2.2.1 + (szT (.i .i64) x.2.2.2.2.2.2.2.2.2.2.2.1 + (szT (.l 192 s140) x.2.2.2.2.2.2.2.2.2.2.2.2.1 + szT (.l 92 s75) x.2.2.2.2.2.2.2.2.2.2.2.2.2))))))))))))) + 7 < k + 1 := hk
  have hz' : (szT s25 x.1 + (szT s28 x.2.1 + (szT s31 x.2.2.1 + (szT (.l 3 (.i .i64)) x.2.2.2.1 + (szT (.l 188 s140) x.2.2.2.2.1 + (szT (.l 180 s179) x.2.2.2.2.2.1 + (szT (.l 84 s75) x.2.2.2.2.2.2.1 + (szT (.l 3 (.i .i64)) x.2.2.2.2.2.2.2.1 + (szT (.l 182 s165) x.2.2.2.2.2.2.2.2.1 + (szT (.l 76 s75) x.2.2.2.2.2.2.2.2.2.1 + (szT (.i .i64) x.2.2.2.2.2.2.2.2.2.2.1 + (szT (.i .i64) x.2.2.2.2.2.2.2.2.2.2.2.1 + (szT (.l 192 s140) x.2.2.2.2.2.2.2.2.2.2.2.2.1 + szT (.l 92 s75) x.2.2.2.2.2.2.2.2.2.2.2.2.2))))))))))))) ≤ 1048576 := hz
  have g0 : F61 k x.1 = some x.1 := t61 k x.1 (by omega) (by omega)
  have g1 : F62 k x.2.1 = some x.2.1 := t62 k x.2.1 (by omega) (by omega)
  have g2 : F63 k x.2.2.1 = some x.2.2.1 := t63 k x.2.2.1 (by omega) (by omega)
  have g3 : F64 k x.2.2.2.1 = some x.2.2.2.1 := t64 k x.2.2.2.1 (by omega) (by omega)
  have g4 : F65 k x.2.2.2.2.1 = some x.2.2.2.2.1 := t65 k x.2.2.2.2.1 (by omega) (by omega)
  have g5 : F66 k x.2.2.2.2.2.1 = some x.2.2.2.2.2.1 := t66 k x.2.2.2.2.2.1 (by omega) (by omega)
  have g6 : F67 k x.2.2.2.2.2.2.1 = some x.2.2.2.2.2.2.1 := t67 k x.2.2.2.2.2.2.1 (by omega) (by omega)
  have g7 : F64 k x.2.2.2.2.2.2.2.1 = some x.2.2.2.2.2.2.2.1 := t64 k x.2.2.2.2.2.2.2.1 (by omega) (by omega)
  have g8 : F68 k x.2.2.2.2.2.2.2.2.1 = some x.2.2.2.2.2.2.2.2.1 := t68 k x.2.2.2.2.2.2.2.2.1 (by omega) (by omega)
  have g9 : F69 k x.2.2.2.2.2.2.2.2.2.1 = some x.2.2.2.2.2.2.2.2.2.1 := t69 k x.2.2.2.2.2.2.2.2.2.1 (by omega) (by omega)
  have g10 : F70 k x.2.2.2.2.2.2.2.2.2.2.2.2.1 = some x.2.2.2.2.2.2.2.2.2.2.2.2.1 := t70 k x.2.2.2.2.2.2.2.2.2.2.2.2.1 (by omega) (by omega)
  have g11 : F71 k x.2.2.2.2.2.2.2.2.2.2.2.2.2 = some x.2.2.2.2.2.2.2.2.2.2.2.2.2 := t71 k x.2.2.2.2.2.2.2.2.2.2.2.2.2 (by omega) (by omega)
  refine (e16 k x).trans ?_
  simp only [g0, g1, g2, g3, g4, g5, g6, g7, g8, g9, g10, g11, Option.bind_some, bne_self_eq_false, beq_self_eq_true, Bool.not_true, Bool.false_eq_true, if_false]
theorem q18 (k : Nat) (x : List Int) (hz : szT (.l 3 (.i .i64)) x ≤ 1048576) (hk : szT (.l 3 (.i .i64)) x + 1 < k) : F18 k x x = some true := by
  obtain ⟨k, rfl⟩ : ∃ q, k = q + 1 := ⟨k - 1, by omega⟩
  have hk' : x.length + sumL (szT (.i .i64)) x + 1 < k + 1 := hk
  have hz' : x.length + sumL (szT (.i .i64)) x ≤ 1048576 := hz
  refine (e18 k x x).trans ?_
  rw [if_neg (by simp)]
  exact eqI_loop2 (α := Int) (L := L18_0 k _ _ (x, x)) (fun _ _ => rfl) (a := x) (by omega) x.length k 0 (by omega) (by omega)
theorem q249 (k : Nat) (x : Int × Int × Int × Int) (hz : szT s75 x ≤ 1048576) (hk : szT s75 x + 1 < k) : F249 k x x = some true := by
  obtain ⟨k, rfl⟩ : ∃ q, k = q + 1 := ⟨k - 1, by omega⟩
  have hk' : (szT (.i .i64) x.1 + (szT (.i .i64) x.2.1 + (szT (.i .i64) x.2.2.1 + szT (.i .i64) x.2.2.2))) + 1 < k + 1 := hk
  have hz' : (szT (.i .i64) x.1 + (szT (.i .i64) x.2.1 + (szT (.i .i64) x.2.2.1 + szT (.i .i64) x.2.2.2))) ≤ 1048576 := hz
  refine (e249 k x x).trans ?_
  simp only [Option.bind_some, bne_self_eq_false, beq_self_eq_true, Bool.not_true, Bool.false_eq_true, if_false]
theorem q158 (k : Nat) (x : List (Int × Int × Int × Int)) (hz : szT (.l 262 s75) x ≤ 1048576) (hk : szT (.l 262 s75) x + 2 < k) : F158 k x x = some true := by
  obtain ⟨k, rfl⟩ : ∃ q, k = q + 1 := ⟨k - 1, by omega⟩
  have hk' : x.length + sumL (szT s75) x + 2 < k + 1 := hk
  have hz' : x.length + sumL (szT s75) x ≤ 1048576 := hz
  refine (e158 k x x).trans ?_
  rw [if_neg (by simp)]
  exact eqS_loop2 (α := Int × Int × Int × Int) (L := L158_0 k _ _ (x, x)) (f := fun y z => F249 k y z) (fun _ _ => rfl) (a := x) (fun y hy => q249 k y (by have := sumL_le (f := szT s75) hy; omega) (by have := sumL_le (f := szT s75) hy; omega)) (by omega) x.length k 0 (by omega) (by omega)
theorem q250 (k : Nat) (x : Int × Int × Int) (hz : szT s265 x ≤ 1048576) (hk : szT s265 x + 1 < k) : F250 k x x = some true := by
  obtain ⟨k, rfl⟩ : ∃ q, k = q + 1 := ⟨k - 1, by omega⟩
  have hk' : (szT (.i .i64) x.1 + (szT (.i .i64) x.2.1 + szT (.i .i64) x.2.2)) + 1 < k + 1 := hk
  have hz' : (szT (.i .i64) x.1 + (szT (.i .i64) x.2.1 + szT (.i .i64) x.2.2)) ≤ 1048576 := hz
  refine (e250 k x x).trans ?_
  simp only [Option.bind_some, bne_self_eq_false, beq_self_eq_true, Bool.not_true, Bool.false_eq_true, if_false]
theorem q159 (k : Nat) (x : List (Int × Int × Int)) (hz : szT (.l 266 s265) x ≤ 1048576) (hk : szT (.l 266 s265) x + 2 < k) : F159 k x x = some true := by
  obtain ⟨k, rfl⟩ : ∃ q, k = q + 1 := ⟨k - 1, by omega⟩
  have hk' : x.length + sumL (szT s265) x + 2 < k + 1 := hk
  have hz' : x.length + sumL (szT s265) x ≤ 1048576 := hz
  refine (e159 k x x).trans ?_
  rw [if_neg (by simp)]
  exact eqS_loop2 (α := Int × Int × Int) (L := L159_0 k _ _ (x, x)) (f := fun y z => F250 k y z) (fun _ _ => rfl) (a := x) (fun y hy => q250 k y (by have := sumL_le (f := szT s265) hy; omega) (by have := sumL_le (f := szT s265) hy; omega)) (by omega) x.length k 0 (by omega) (by omega)
theorem q307 (k : Nat) (x : Int × Int) (hz : szT s150 x ≤ 1048576) (hk : szT s150 x + 1 < k) : F307 k x x = some true := by
  obtain ⟨k, rfl⟩ : ∃ q, k = q + 1 := ⟨k - 1, by omega⟩
  have hk' : (szT (.i .i64) x.1 + szT (.i .i64) x.2) + 1 < k + 1 := hk
  have hz' : (szT (.i .i64) x.1 + szT (.i .i64) x.2) ≤ 1048576 := hz
  refine (e307 k x x).trans ?_
  simp only [Option.bind_some, bne_self_eq_false, beq_self_eq_true, Bool.not_true, Bool.false_eq_true, if_false]
theorem q251 (k : Nat) (x : Int × Int × Int) (hz : szT s271 x ≤ 1048576) (hk : szT s271 x + 2 < k) : F251 k x x = some true := by
  obtain ⟨k, rfl⟩ : ∃ q, k = q + 1 := ⟨k - 1, by omega⟩
  have hk' : (szT (.i .i64) x.1 + szT s150 x.2) + 2 < k + 1 := hk
  have hz' : (szT (.i .i64) x.1 + szT s150 x.2) ≤ 1048576 := hz
  have g0 : F307 k x.2 x.2 = some true := q307 k x.2 (by omega) (by omega)
  refine (e251 k x x).trans ?_
  simp only [g0, Option.bind_some, bne_self_eq_false, beq_self_eq_true, Bool.not_true, Bool.false_eq_true, if_false]
theorem q160 (k : Nat) (x : List (Int × Int × Int)) (hz : szT (.l 272 s271) x ≤ 1048576) (hk : szT (.l 272 s271) x + 3 < k) : F160 k x x = some true := by
  obtain ⟨k, rfl⟩ : ∃ q, k = q + 1 := ⟨k - 1, by omega⟩
  have hk' : x.length + sumL (szT s271) x + 3 < k + 1 := hk
  have hz' : x.length + sumL (szT s271) x ≤ 1048576 := hz
  refine (e160 k x x).trans ?_
  rw [if_neg (by simp)]
  exact eqS_loop2 (α := Int × Int × Int) (L := L160_0 k _ _ (x, x)) (f := fun y z => F251 k y z) (fun _ _ => rfl) (a := x) (fun y hy => q251 k y (by have := sumL_le (f := szT s271) hy; omega) (by have := sumL_le (f := szT s271) hy; omega)) (by omega) x.length k 0 (by omega) (by omega)
theorem q72 (k : Nat) (x : Int × (List (Int × Int × Int × Int)) × (List (Int × Int × Int)) × Int × Int × Int × Int × Int × (List (Int × Int × Int)) × Int) (hz : szT s47 x ≤ 1048576) (hk : szT s47 x + 4 < k) : F72 k x x = some true := by
  obtain ⟨k, rfl⟩ : ∃ q, k = q + 1 := ⟨k - 1, by omega⟩
  have hk' : (szT (.i .i64) x.1 + (szT (.l 262 s75) x.2.1 + (szT (.l 266 s265) x.2.2.1 + (szT (.i .i64) x.2.2.2.1 + (szT (.i .i64) x.2.2.2.2.1 + (szT (.i .i64) x.2.2.2.2.2.1 + (szT (.i .i64) x.2.2.2.2.2.2.1 + (szT (.i .i64) x.2.2.2.2.2.2.2.1 + (szT (.l 272 s271) x.2.2.2.2.2.2.2.2.1 + szT (.i .i64) x.2.2.2.2.2.2.2.2.2))))))))) + 4 < k + 1 := hk
  have hz' : (szT (.i .i64) x.1 + (szT (.l 262 s75) x.2.1 + (szT (.l 266 s265) x.2.2.1 + (szT (.i .i64) x.2.2.2.1 + (szT (.i .i64) x.2.2.2.2.1 + (szT (.i .i64) x.2.2.2.2.2.1 + (szT (.i .i64) x.2.2.2.2.2.2.1 + (szT (.i .i64) x.2.2.2.2.2.2.2.1 + (szT (.l 272 s271) x.2.2.2.2.2.2.2.2.1 + szT (.i .i64) x.2.2.2.2.2.2.2.2.2))))))))) ≤ 1048576 := hz
  have g0 : F158 k x.2.1 x.2.1 = some true := q158 k x.2.1 (by omega) (by omega)
  have g1 : F159 k x.2.2.1 x.2.2.1 = some true := q159 k x.2.2.1 (by omega) (by omega)
  have g2 : F160 k x.2.2.2.2.2.2.2.2.1 x.2.2.2.2.2.2.2.2.1 = some true := q160 k x.2.2.2.2.2.2.2.2.1 (by omega) (by omega)
  refine (e72 k x x).trans ?_
  simp only [g0, g1, g2, Option.bind_some, bne_self_eq_false, beq_self_eq_true, Bool.not_true, Bool.false_eq_true, if_false]
theorem q107 (k : Nat) (x : Int × Int) (hz : szT s150 x ≤ 1048576) (hk : szT s150 x + 1 < k) : F107 k x x = some true := by
  obtain ⟨k, rfl⟩ : ∃ q, k = q + 1 := ⟨k - 1, by omega⟩
  have hk' : (szT (.i .i64) x.1 + szT (.i .i64) x.2) + 1 < k + 1 := hk
  have hz' : (szT (.i .i64) x.1 + szT (.i .i64) x.2) ≤ 1048576 := hz
  refine (e107 k x x).trans ?_
  simp only [Option.bind_some, bne_self_eq_false, beq_self_eq_true, Bool.not_true, Bool.false_eq_true, if_false]
theorem q335 (k : Nat) (x : Int × Int) (hz : szT s150 x ≤ 1048576) (hk : szT s150 x + 1 < k) : F335 k x x = some true := by
  obtain ⟨k, rfl⟩ : ∃ q, k = q + 1 := ⟨k - 1, by omega⟩
  have hk' : (szT (.i .i64) x.1 + szT (.i .i64) x.2) + 1 < k + 1 := hk
  have hz' : (szT (.i .i64) x.1 + szT (.i .i64) x.2) ≤ 1048576 := hz
  refine (e335 k x x).trans ?_
  simp only [Option.bind_some, bne_self_eq_false, beq_self_eq_true, Bool.not_true, Bool.false_eq_true, if_false]
theorem q308 (k : Nat) (x : List (Int × Int)) (hz : szT (.l 317 s150) x ≤ 1048576) (hk : szT (.l 317 s150) x + 2 < k) : F308 k x x = some true := by
  obtain ⟨k, rfl⟩ : ∃ q, k = q + 1 := ⟨k - 1, by omega⟩
  have hk' : x.length + sumL (szT s150) x + 2 < k + 1 := hk
  have hz' : x.length + sumL (szT s150) x ≤ 1048576 := hz
  refine (e308 k x x).trans ?_
  rw [if_neg (by simp)]
  exact eqS_loop2 (α := Int × Int) (L := L308_0 k _ _ (x, x)) (f := fun y z => F335 k y z) (fun _ _ => rfl) (a := x) (fun y hy => q335 k y (by have := sumL_le (f := szT s150) hy; omega) (by have := sumL_le (f := szT s150) hy; omega)) (by omega) x.length k 0 (by omega) (by omega)
theorem q336 (k : Nat) (x : Int × (List Int) × List Int) (hz : szT s238 x ≤ 1048576) (hk : szT s238 x + 2 < k) : F336 k x x = some true := by
  obtain ⟨k, rfl⟩ : ∃ q, k = q + 1 := ⟨k - 1, by omega⟩
  have hk' : (szT (.i .i64) x.1 + (szT (.l 3 (.i .i64)) x.2.1 + szT (.l 3 (.i .i64)) x.2.2)) + 2 < k + 1 := hk
  have hz' : (szT (.i .i64) x.1 + (szT (.l 3 (.i .i64)) x.2.1 + szT (.l 3 (.i .i64)) x.2.2)) ≤ 1048576 := hz
  have g0 : F18 k x.2.1 x.2.1 = some true := q18 k x.2.1 (by omega) (by omega)
  have g1 : F18 k x.2.2 x.2.2 = some true := q18 k x.2.2 (by omega) (by omega)
  refine (e336 k x x).trans ?_
  simp only [g0, g1, Option.bind_some, bne_self_eq_false, beq_self_eq_true, Bool.not_true, Bool.false_eq_true, if_false]
theorem q309 (k : Nat) (x : List (Int × (List Int) × List Int)) (hz : szT (.l 239 s238) x ≤ 1048576) (hk : szT (.l 239 s238) x + 3 < k) : F309 k x x = some true := by
  obtain ⟨k, rfl⟩ : ∃ q, k = q + 1 := ⟨k - 1, by omega⟩
  have hk' : x.length + sumL (szT s238) x + 3 < k + 1 := hk
  have hz' : x.length + sumL (szT s238) x ≤ 1048576 := hz
  refine (e309 k x x).trans ?_
  rw [if_neg (by simp)]
  exact eqS_loop2 (α := Int × (List Int) × List Int) (L := L309_0 k _ _ (x, x)) (f := fun y z => F336 k y z) (fun _ _ => rfl) (a := x) (fun y hy => q336 k y (by have := sumL_le (f := szT s238) hy; omega) (by have := sumL_le (f := szT s238) hy; omega)) (by omega) x.length k 0 (by omega) (by omega)
theorem q252 (k : Nat) (x : (Int × Int) × (List (Int × Int)) × List (Int × (List Int) × List Int)) (hz : szT s246 x ≤ 1048576) (hk : szT s246 x + 4 < k) : F252 k x x = some true := by
  obtain ⟨k, rfl⟩ : ∃ q, k = q + 1 := ⟨k - 1, by omega⟩
  have hk' : (szT s150 x.1 + (szT (.l 317 s150) x.2.1 + szT (.l 239 s238) x.2.2)) + 4 < k + 1 := hk
  have hz' : (szT s150 x.1 + (szT (.l 317 s150) x.2.1 + szT (.l 239 s238) x.2.2)) ≤ 1048576 := hz
  have g0 : F107 k x.1 x.1 = some true := q107 k x.1 (by omega) (by omega)
  have g1 : F308 k x.2.1 x.2.1 = some true := q308 k x.2.1 (by omega) (by omega)
  have g2 : F309 k x.2.2 x.2.2 = some true := q309 k x.2.2 (by omega) (by omega)
  refine (e252 k x x).trans ?_
  simp only [g0, g1, g2, Option.bind_some, bne_self_eq_false, beq_self_eq_true, Bool.not_true, Bool.false_eq_true, if_false]
theorem q161 (k : Nat) (x : List ((Int × Int) × (List (Int × Int)) × List (Int × (List Int) × List Int))) (hz : szT (.l 247 s246) x ≤ 1048576) (hk : szT (.l 247 s246) x + 5 < k) : F161 k x x = some true := by
  obtain ⟨k, rfl⟩ : ∃ q, k = q + 1 := ⟨k - 1, by omega⟩
  have hk' : x.length + sumL (szT s246) x + 5 < k + 1 := hk
  have hz' : x.length + sumL (szT s246) x ≤ 1048576 := hz
  refine (e161 k x x).trans ?_
  rw [if_neg (by simp)]
  exact eqS_loop2 (α := (Int × Int) × (List (Int × Int)) × List (Int × (List Int) × List Int)) (L := L161_0 k _ _ (x, x)) (f := fun y z => F252 k y z) (fun _ _ => rfl) (a := x) (fun y hy => q252 k y (by have := sumL_le (f := szT s246) hy; omega) (by have := sumL_le (f := szT s246) hy; omega)) (by omega) x.length k 0 (by omega) (by omega)
theorem q73 (k : Nat) (x : Int × Int × Int × List ((Int × Int) × (List (Int × Int)) × List (Int × (List Int) × List Int))) (hz : szT s50 x ≤ 1048576) (hk : szT s50 x + 6 < k) : F73 k x x = some true := by
  obtain ⟨k, rfl⟩ : ∃ q, k = q + 1 := ⟨k - 1, by omega⟩
  have hk' : (szT (.i .i64) x.1 + (szT (.i .i64) x.2.1 + (szT (.i .i64) x.2.2.1 + szT (.l 247 s246) x.2.2.2))) + 6 < k + 1 := hk
  have hz' : (szT (.i .i64) x.1 + (szT (.i .i64) x.2.1 + (szT (.i .i64) x.2.2.1 + szT (.l 247 s246) x.2.2.2))) ≤ 1048576 := hz
  have g0 : F161 k x.2.2.2 x.2.2.2 = some true := q161 k x.2.2.2 (by omega) (by omega)
  refine (e73 k x x).trans ?_
  simp only [g0, Option.bind_some, bne_self_eq_false, beq_self_eq_true, Bool.not_true, Bool.false_eq_true, if_false]
theorem q74 (k : Nat) (x : List Int) (hz : szT s31 x ≤ 1048576) (hk : szT s31 x + 2 < k) : F74 k x x = some true := by
  obtain ⟨k, rfl⟩ : ∃ q, k = q + 1 := ⟨k - 1, by omega⟩
  have hk' : szT (.l 3 (.i .i64)) x + 2 < k + 1 := hk
  have hz' : szT (.l 3 (.i .i64)) x ≤ 1048576 := hz
  have g0 : F18 k x x = some true := q18 k x (by omega) (by omega)
  refine (e74 k x x).trans ?_
  simp only [g0, Option.bind_some, bne_self_eq_false, beq_self_eq_true, Bool.not_true, Bool.false_eq_true, if_false]
theorem q162 (k : Nat) (x : Int × Int × Int × Int × Int × Int) (hz : szT s140 x ≤ 1048576) (hk : szT s140 x + 1 < k) : F162 k x x = some true := by
  obtain ⟨k, rfl⟩ : ∃ q, k = q + 1 := ⟨k - 1, by omega⟩
  have hk' : (szT (.i .i64) x.1 + (szT (.i .i64) x.2.1 + (szT (.i .i64) x.2.2.1 + (szT (.i .i64) x.2.2.2.1 + (szT (.i .i64) x.2.2.2.2.1 + szT (.i .i64) x.2.2.2.2.2))))) + 1 < k + 1 := hk
  have hz' : (szT (.i .i64) x.1 + (szT (.i .i64) x.2.1 + (szT (.i .i64) x.2.2.1 + (szT (.i .i64) x.2.2.2.1 + (szT (.i .i64) x.2.2.2.2.1 + szT (.i .i64) x.2.2.2.2.2))))) ≤ 1048576 := hz
  refine (e162 k x x).trans ?_
  simp only [Option.bind_some, bne_self_eq_false, beq_self_eq_true, Bool.not_true, Bool.false_eq_true, if_false]
theorem q75 (k : Nat) (x : List (Int × Int × Int × Int × Int × Int)) (hz : szT (.l 141 s140) x ≤ 1048576) (hk : szT (.l 141 s140) x + 2 < k) : F75 k x x = some true := by
  obtain ⟨k, rfl⟩ : ∃ q, k = q + 1 := ⟨k - 1, by omega⟩
  have hk' : x.length + sumL (szT s140) x + 2 < k + 1 := hk
  have hz' : x.length + sumL (szT s140) x ≤ 1048576 := hz
  refine (e75 k x x).trans ?_
  rw [if_neg (by simp)]
  exact eqS_loop2 (α := Int × Int × Int × Int × Int × Int) (L := L75_0 k _ _ (x, x)) (f := fun y z => F162 k y z) (fun _ _ => rfl) (a := x) (fun y hy => q162 k y (by have := sumL_le (f := szT s140) hy; omega) (by have := sumL_le (f := szT s140) hy; omega)) (by omega) x.length k 0 (by omega) (by omega)
theorem q167 (k : Nat) (x : Int × Int × Int × Int × Int × Int) (hz : szT s140 x ≤ 1048576) (hk : szT s140 x + 1 < k) : F167 k x x = some true := by
  obtain ⟨k, rfl⟩ : ∃ q, k = q + 1 := ⟨k - 1, by omega⟩
  have hk' : (szT (.i .i64) x.1 + (szT (.i .i64) x.2.1 + (szT (.i .i64) x.2.2.1 + (szT (.i .i64) x.2.2.2.1 + (szT (.i .i64) x.2.2.2.2.1 + szT (.i .i64) x.2.2.2.2.2))))) + 1 < k + 1 := hk
  have hz' : (szT (.i .i64) x.1 + (szT (.i .i64) x.2.1 + (szT (.i .i64) x.2.2.1 + (szT (.i .i64) x.2.2.2.1 + (szT (.i .i64) x.2.2.2.2.1 + szT (.i .i64) x.2.2.2.2.2))))) ≤ 1048576 := hz
  refine (e167 k x x).trans ?_
  simp only [Option.bind_some, bne_self_eq_false, beq_self_eq_true, Bool.not_true, Bool.false_eq_true, if_false]
theorem q80 (k : Nat) (x : List (Int × Int × Int × Int × Int × Int)) (hz : szT (.l 155 s140) x ≤ 1048576) (hk : szT (.l 155 s140) x + 2 < k) : F80 k x x = some true := by
  obtain ⟨k, rfl⟩ : ∃ q, k = q + 1 := ⟨k - 1, by omega⟩
  have hk' : x.length + sumL (szT s140) x + 2 < k + 1 := hk
  have hz' : x.length + sumL (szT s140) x ≤ 1048576 := hz
  refine (e80 k x x).trans ?_
  rw [if_neg (by simp)]
  exact eqS_loop2 (α := Int × Int × Int × Int × Int × Int) (L := L80_0 k _ _ (x, x)) (f := fun y z => F167 k y z) (fun _ _ => rfl) (a := x) (fun y hy => q167 k y (by have := sumL_le (f := szT s140) hy; omega) (by have := sumL_le (f := szT s140) hy; omega)) (by omega) x.length k 0 (by omega) (by omega)
theorem q163 (k : Nat) (x : List (Int × Int × Int × Int × Int × Int)) (hz : szT s157 x ≤ 1048576) (hk : szT s157 x + 3 < k) : F163 k x x = some true := by
  obtain ⟨k, rfl⟩ : ∃ q, k = q + 1 := ⟨k - 1, by omega⟩
  have hk' : szT (.l 155 s140) x + 3 < k + 1 := hk
  have hz' : szT (.l 155 s140) x ≤ 1048576 := hz
  have g0 : F80 k x x = some true := q80 k x (by omega) (by omega)
  refine (e163 k x x).trans ?_
  simp only [g0, Option.bind_some, bne_self_eq_false, beq_self_eq_true, Bool.not_true, Bool.false_eq_true, if_false]
theorem q76 (k : Nat) (x : List (List (Int × Int × Int × Int × Int × Int))) (hz : szT (.l 158 s157) x ≤ 1048576) (hk : szT (.l 158 s157) x + 4 < k) : F76 k x x = some true := by
  obtain ⟨k, rfl⟩ : ∃ q, k = q + 1 := ⟨k - 1, by omega⟩
  have hk' : x.length + sumL (szT s157) x + 4 < k + 1 := hk
  have hz' : x.length + sumL (szT s157) x ≤ 1048576 := hz
  refine (e76 k x x).trans ?_
  rw [if_neg (by simp)]
  exact eqS_loop2 (α := List (Int × Int × Int × Int × Int × Int)) (L := L76_0 k _ _ (x, x)) (f := fun y z => F163 k y z) (fun _ _ => rfl) (a := x) (fun y hy => q163 k y (by have := sumL_le (f := szT s157) hy; omega) (by have := sumL_le (f := szT s157) hy; omega)) (by omega) x.length k 0 (by omega) (by omega)
theorem q164 (k : Nat) (x : Int × Int × Int × Int) (hz : szT s75 x ≤ 1048576) (hk : szT s75 x + 1 < k) : F164 k x x = some true := by
  obtain ⟨k, rfl⟩ : ∃ q, k = q + 1 := ⟨k - 1, by omega⟩
  have hk' : (szT (.i .i64) x.1 + (szT (.i .i64) x.2.1 + (szT (.i .i64) x.2.2.1 + szT (.i .i64) x.2.2.2))) + 1 < k + 1 := hk
  have hz' : (szT (.i .i64) x.1 + (szT (.i .i64) x.2.1 + (szT (.i .i64) x.2.2.1 + szT (.i .i64) x.2.2.2))) ≤ 1048576 := hz
  refine (e164 k x x).trans ?_
  simp only [Option.bind_some, bne_self_eq_false, beq_self_eq_true, Bool.not_true, Bool.false_eq_true, if_false]
theorem q77 (k : Nat) (x : List (Int × Int × Int × Int)) (hz : szT (.l 86 s75) x ≤ 1048576) (hk : szT (.l 86 s75) x + 2 < k) : F77 k x x = some true := by
  obtain ⟨k, rfl⟩ : ∃ q, k = q + 1 := ⟨k - 1, by omega⟩
  have hk' : x.length + sumL (szT s75) x + 2 < k + 1 := hk
  have hz' : x.length + sumL (szT s75) x ≤ 1048576 := hz
  refine (e77 k x x).trans ?_
  rw [if_neg (by simp)]
  exact eqS_loop2 (α := Int × Int × Int × Int) (L := L77_0 k _ _ (x, x)) (f := fun y z => F164 k y z) (fun _ _ => rfl) (a := x) (fun y hy => q164 k y (by have := sumL_le (f := szT s75) hy; omega) (by have := sumL_le (f := szT s75) hy; omega)) (by omega) x.length k 0 (by omega) (by omega)
theorem q165 (k : Nat) (x : Int × Int × List Int) (hz : szT s165 x ≤ 1048576) (hk : szT s165 x + 2 < k) : F165 k x x = some true := by
  obtain ⟨k, rfl⟩ : ∃ q, k = q + 1 := ⟨k - 1, by omega⟩
  have hk' : (szT (.i .i64) x.1 + (szT (.i .i64) x.2.1 + szT (.l 3 (.i .i64)) x.2.2)) + 2 < k + 1 := hk
  have hz' : (szT (.i .i64) x.1 + (szT (.i .i64) x.2.1 + szT (.l 3 (.i .i64)) x.2.2)) ≤ 1048576 := hz
  have g0 : F18 k x.2.2 x.2.2 = some true := q18 k x.2.2 (by omega) (by omega)
  refine (e165 k x x).trans ?_
  simp only [g0, Option.bind_some, bne_self_eq_false, beq_self_eq_true, Bool.not_true, Bool.false_eq_true, if_false]
theorem q78 (k : Nat) (x : List (Int × Int × List Int)) (hz : szT (.l 166 s165) x ≤ 1048576) (hk : szT (.l 166 s165) x + 3 < k) : F78 k x x = some true := by
  obtain ⟨k, rfl⟩ : ∃ q, k = q + 1 := ⟨k - 1, by omega⟩
  have hk' : x.length + sumL (szT s165) x + 3 < k + 1 := hk
  have hz' : x.length + sumL (szT s165) x ≤ 1048576 := hz
  refine (e78 k x x).trans ?_
  rw [if_neg (by simp)]
  exact eqS_loop2 (α := Int × Int × List Int) (L := L78_0 k _ _ (x, x)) (f := fun y z => F165 k y z) (fun _ _ => rfl) (a := x) (fun y hy => q165 k y (by have := sumL_le (f := szT s165) hy; omega) (by have := sumL_le (f := szT s165) hy; omega)) (by omega) x.length k 0 (by omega) (by omega)
theorem q166 (k : Nat) (x : Int × Int × Int × Int) (hz : szT s75 x ≤ 1048576) (hk : szT s75 x + 1 < k) : F166 k x x = some true := by
  obtain ⟨k, rfl⟩ : ∃ q, k = q + 1 := ⟨k - 1, by omega⟩
  have hk' : (szT (.i .i64) x.1 + (szT (.i .i64) x.2.1 + (szT (.i .i64) x.2.2.1 + szT (.i .i64) x.2.2.2))) + 1 < k + 1 := hk
  have hz' : (szT (.i .i64) x.1 + (szT (.i .i64) x.2.1 + (szT (.i .i64) x.2.2.1 + szT (.i .i64) x.2.2.2))) ≤ 1048576 := hz
  refine (e166 k x x).trans ?_
  simp only [Option.bind_some, bne_self_eq_false, beq_self_eq_true, Bool.not_true, Bool.false_eq_true, if_false]
theorem q79 (k : Nat) (x : List (Int × Int × Int × Int)) (hz : szT (.l 79 s75) x ≤ 1048576) (hk : szT (.l 79 s75) x + 2 < k) : F79 k x x = some true := by
  obtain ⟨k, rfl⟩ : ∃ q, k = q + 1 := ⟨k - 1, by omega⟩
  have hk' : x.length + sumL (szT s75) x + 2 < k + 1 := hk
  have hz' : x.length + sumL (szT s75) x ≤ 1048576 := hz
  refine (e79 k x x).trans ?_
  rw [if_neg (by simp)]
  exact eqS_loop2 (α := Int × Int × Int × Int) (L := L79_0 k _ _ (x, x)) (f := fun y z => F166 k y z) (fun _ _ => rfl) (a := x) (fun y hy => q166 k y (by have := sumL_le (f := szT s75) hy; omega) (by have := sumL_le (f := szT s75) hy; omega)) (by omega) x.length k 0 (by omega) (by omega)
theorem q168 (k : Nat) (x : Int × Int × Int × Int) (hz : szT s75 x ≤ 1048576) (hk : szT s75 x + 1 < k) : F168 k x x = some true := by
  obtain ⟨k, rfl⟩ : ∃ q, k = q + 1 := ⟨k - 1, by omega⟩
  have hk' : (szT (.i .i64) x.1 + (szT (.i .i64) x.2.1 + (szT (.i .i64) x.2.2.1 + szT (.i .i64) x.2.2.2))) + 1 < k + 1 := hk
  have hz' : (szT (.i .i64) x.1 + (szT (.i .i64) x.2.1 + (szT (.i .i64) x.2.2.1 + szT (.i .i64) x.2.2.2))) ≤ 1048576 := hz
  refine (e168 k x x).trans ?_
  simp only [Option.bind_some, bne_self_eq_false, beq_self_eq_true, Bool.not_true, Bool.false_eq_true, if_false]
theorem q81 (k : Nat) (x : List (Int × Int × Int × Int)) (hz : szT (.l 94 s75) x ≤ 1048576) (hk : szT (.l 94 s75) x + 2 < k) : F81 k x x = some true := by
  obtain ⟨k, rfl⟩ : ∃ q, k = q + 1 := ⟨k - 1, by omega⟩
  have hk' : x.length + sumL (szT s75) x + 2 < k + 1 := hk
  have hz' : x.length + sumL (szT s75) x ≤ 1048576 := hz
  refine (e81 k x x).trans ?_
  rw [if_neg (by simp)]
  exact eqS_loop2 (α := Int × Int × Int × Int) (L := L81_0 k _ _ (x, x)) (f := fun y z => F168 k y z) (fun _ _ => rfl) (a := x) (fun y hy => q168 k y (by have := sumL_le (f := szT s75) hy; omega) (by have := sumL_le (f := szT s75) hy; omega)) (by omega) x.length k 0 (by omega) (by omega)
theorem q19 (k : Nat) (x : (Int × (List (Int × Int × Int × Int)) × (List (Int × Int × Int)) × Int × Int × Int × Int × Int × (List (Int × Int × Int)) × Int) × (Int × Int × Int × List ((Int × Int) × (List (Int × Int)) × List (Int × (List Int) × List Int))) × (List Int) × (List Int) × (List (Int × Int × Int × Int × Int × Int)) × (List (List (Int × Int × Int × Int × Int × Int))) × (List (Int × Int × Int × Int)) × (List Int) × (List (Int × Int × List Int)) × (List (Int × Int × Int × Int)) × Int × Int × (List (Int × Int × Int × Int × Int × Int)) × List (Int × Int × Int × Int)) (hz : szT s60 x ≤ 1048576) (hk : szT s60 x + 7 < k) : F19 k x x = some true := by
  obtain ⟨k, rfl⟩ : ∃ q, k = q + 1 := ⟨k - 1, by omega⟩
  have hk' : (szT s47 x.1 + (szT s50 x.2.1 + (szT s31 x.2.2.1 + (szT (.l 3 (.i .i64)) x.2.2.2.1 + (szT (.l 141 s140) x.2.2.2.2.1 + (szT (.l 158 s157) x.2.2.2.2.2.1 + (szT (.l 86 s75) x.2.2.2.2.2.2.1 + (szT (.l 3 (.i .i64)) x.2.2.2.2.2.2.2.1 + (szT (.l 166 s165) x.2.2.2.2.2.2.2.2.1 + (szT (.l 79 s75) x.2.2.2.2.2.2.2.2.2.1 + (szT (.i .i64) x.2.2.2.2.2.2.2.2.2.2.1 + (szT (.i .i64) x.2.2.2.2.2.2.2.2.2.2.2.1 + (szT (.l 155 s140) x.2.2.2.2.2.2.2.2.2.2.2.2.1 + szT (.l 94 s75) x.2.2.2.2.2.2.2.2.2.2.2.2.2))))))))))))) + 7 < k + 1 := hk
  have hz' : (szT s47 x.1 + (szT s50 x.2.1 + (szT s31 x.2.2.1 + (szT (.l 3 (.i .i64)) x.2.2.2.1 + (szT (.l 141 s140) x.2.2.2.2.1 + (szT (.l 158 s157) x.2.2.2.2.2.1 + (szT (.l 86 s75) x.2.2.2.2.2.2.1 + (szT (.l 3 (.i .i64)) x.2.2.2.2.2.2.2.1 + (szT (.l 166 s165) x.2.2.2.2.2.2.2.2.1 + (szT (.l 79 s75) x.2.2.2.2.2.2.2.2.2.1 + (szT (.i .i64) x.2.2.2.2.2.2.2.2.2.2.1 + (szT (.i .i64) x.2.2.2.2.2.2.2.2.2.2.2.1 + (szT (.l 155 s140) x.2.2.2.2.2.2.2.2.2.2.2.2.1 + szT (.l 94 s75) x.2.2.2.2.2.2.2.2.2.2.2.2.2))))))))))))) ≤ 1048576 := hz
  have g0 : F72 k x.1 x.1 = some true := q72 k x.1 (by omega) (by omega)
  have g1 : F73 k x.2.1 x.2.1 = some true := q73 k x.2.1 (by omega) (by omega)
  have g2 : F74 k x.2.2.1 x.2.2.1 = some true := q74 k x.2.2.1 (by omega) (by omega)
  have g3 : F18 k x.2.2.2.1 x.2.2.2.1 = some true := q18 k x.2.2.2.1 (by omega) (by omega)
  have g4 : F75 k x.2.2.2.2.1 x.2.2.2.2.1 = some true := q75 k x.2.2.2.2.1 (by omega) (by omega)
  have g5 : F76 k x.2.2.2.2.2.1 x.2.2.2.2.2.1 = some true := q76 k x.2.2.2.2.2.1 (by omega) (by omega)
  have g6 : F77 k x.2.2.2.2.2.2.1 x.2.2.2.2.2.2.1 = some true := q77 k x.2.2.2.2.2.2.1 (by omega) (by omega)
  have g7 : F18 k x.2.2.2.2.2.2.2.1 x.2.2.2.2.2.2.2.1 = some true := q18 k x.2.2.2.2.2.2.2.1 (by omega) (by omega)
  have g8 : F78 k x.2.2.2.2.2.2.2.2.1 x.2.2.2.2.2.2.2.2.1 = some true := q78 k x.2.2.2.2.2.2.2.2.1 (by omega) (by omega)
  have g9 : F79 k x.2.2.2.2.2.2.2.2.2.1 x.2.2.2.2.2.2.2.2.2.1 = some true := q79 k x.2.2.2.2.2.2.2.2.2.1 (by omega) (by omega)
  have g10 : F80 k x.2.2.2.2.2.2.2.2.2.2.2.2.1 x.2.2.2.2.2.2.2.2.2.2.2.2.1 = some true := q80 k x.2.2.2.2.2.2.2.2.2.2.2.2.1 (by omega) (by omega)
  have g11 : F81 k x.2.2.2.2.2.2.2.2.2.2.2.2.2 x.2.2.2.2.2.2.2.2.2.2.2.2.2 = some true := q81 k x.2.2.2.2.2.2.2.2.2.2.2.2.2 (by omega) (by omega)
  refine (e19 k x x).trans ?_
  simp only [g0, g1, g2, g3, g4, g5, g6, g7, g8, g9, g10, g11, Option.bind_some, bne_self_eq_false, beq_self_eq_true, Bool.not_true, Bool.false_eq_true, if_false]
end Go.Proofs.YtonfioejmldhcaaGreat.World
