/- 'laws.FnExactSentBy' returns true for every input. No condition. -/
import Derived.Test.YtmkkoalilmgpcaaWp
import Derived.Test.YtmkkoalilmgpcaaRows
import Derived.Test.YtmkkoalilmgpcaaChecked
import Derived.KernelRfl
namespace Go.Proofs.Ytmkkoalilmgpcaa.World
open Go Go.V Go.Proofs
set_option linter.unusedVariables false
set_option linter.unusedSimpArgs false
set_option maxRecDepth 100000
abbrev TW := (Int × (List (Int × Int × Int × Int)) × (List (Int × Int × Int)) × Int × Int × Int × Int × Int × (List (Int × Int × Int)) × Int) × (Int × Int × Int × List ((Int × Int) × (List (Int × Int)) × List (Int × (List Int) × List Int))) × (List Int) × (List Int) × (List (Int × Int × Int × Int × Int × Int)) × (List (List (Int × Int × Int × Int × Int × Int))) × (List (Int × Int × Int × Int)) × (List Int) × (List (Int × Int × List Int)) × (List (Int × Int × Int × Int)) × Int × Int × (List (Int × Int × Int × Int × Int × Int)) × List (Int × Int × Int × Int)
def waiting (w : TW) : Int := w.2.2.2.2.2.1.foldl (fun s x => IntKind.i64.wrap (s + (x.length : Int))) 0
theorem w12 (k : Nat) (w : TW) (hl : w.2.2.2.2.2.1.length ≤ 1048576) (hk : w.2.2.2.2.2.1.length < k) : F12 (k + 1) w = some (waiting w) :=
  (e12 k w).trans (fold_loop (S := Int) (L := L12_0 k _) (X := fun v => some v.1) (a := w.2.2.2.2.2.1) (fun s i => (s, i, w.1.1, w.1.2.1, w.1.2.2.1, w.1.2.2.2.1, w.1.2.2.2.2.1, w.1.2.2.2.2.2.1, w.1.2.2.2.2.2.2.1, w.1.2.2.2.2.2.2.2.1, w.1.2.2.2.2.2.2.2.2.1, w.1.2.2.2.2.2.2.2.2.2, w.2.1.1, w.2.1.2.1, w.2.1.2.2.1, w.2.1.2.2.2, w.2.2.1, w.2.2.2.1, w.2.2.2.2.1, w.2.2.2.2.2.1, w.2.2.2.2.2.2.1, w.2.2.2.2.2.2.2.1, w.2.2.2.2.2.2.2.2.1, w.2.2.2.2.2.2.2.2.2.1, w.2.2.2.2.2.2.2.2.2.2.1, w.2.2.2.2.2.2.2.2.2.2.2.1, w.2.2.2.2.2.2.2.2.2.2.2.2.1, w.2.2.2.2.2.2.2.2.2.2.2.2.2)) (fun s x => IntKind.i64.wrap (s + (x.length : Int))) (fun _ _ _ => rfl) hl _ k 0 0 (by simp) hk)
theorem w14 (k : Nat) (w : TW) (hl : w.2.2.2.2.2.1.length ≤ 1048576) (hk : w.2.2.2.2.2.1.length < k) : F14 (k + 1) w = some (waiting w) :=
  (e14 k w).trans (fold_loop (S := Int) (L := L14_0 k _) (X := fun v => some v.1) (a := w.2.2.2.2.2.1) (fun s i => (s, w.2.2.2.2.2.1, (w.2.2.2.2.2.1.length : Int), i)) (fun s x => IntKind.i64.wrap (s + (x.length : Int))) (fun _ _ _ => rfl) hl _ k 0 0 (by simp) hk)
theorem law3 (w : TW) (hr : rowsLe 140737488351232 s40 w) : ∃ k, F3 k w = some true := by
  refine ⟨szT s40 w + 20, ?_⟩
  rw [e3, z11 _ w 1048576 hr (by omega) (by omega) (by omega), Option.bind_some]
  by_cases hz : szT s40 w ≤ 1048576
  · rw [szR_pos (by omega), if_neg (by simp; omega)]
    have hq : w.2.2.2.2.2.1.length ≤ szT s40 w := by
      have := rows_le s40 w _ (Nat.le_refl _)
      exact (rowsLe_row this.2.2.2.2.2.1).1
    rw [t13 _ w hz (by omega), Option.bind_some, w12 _ w (by omega) (by omega), Option.bind_some, Option.bind_some, w14 _ w (by omega) (by omega), Option.bind_some]
    have e60 : szT s60 w = szT s40 w := rfl
    rw [if_neg (by simp), Option.bind_some, q15 _ w (by rw [e60]; exact hz) (by rw [e60]; omega), Option.bind_some]
    rfl
  · rw [szR_neg (by omega), if_pos (by decide)]
end Go.Proofs.Ytmkkoalilmgpcaa.World
namespace Go.Proofs.Ytmkkoalilmgpcaa.World
open Go Go.V Go.Proofs
set_option linter.unusedVariables false
set_option linter.unusedSimpArgs false
set_option maxRecDepth 100000
def powered (w : TW) : Bool := w.2.2.2.2.1.all fun b => !decide (b.1 < b.2.2.1)
theorem w16 (k : Nat) (w : TW) (hl : w.2.2.2.2.1.length ≤ 1048576) (hk : w.2.2.2.2.1.length < k) : F16 (k + 1) w = some (powered w) :=
  (e16 k w).trans (row_loop0 (L := L16_0 k _ _) (S := Unit) (X := fun _ => some true) (a := w.2.2.2.2.1) (fun (s : Unit) (i : Int) => (i, w.1.1, w.1.2.1, w.1.2.2.1, w.1.2.2.2.1, w.1.2.2.2.2.1, w.1.2.2.2.2.2.1, w.1.2.2.2.2.2.2.1, w.1.2.2.2.2.2.2.2.1, w.1.2.2.2.2.2.2.2.2.1, w.1.2.2.2.2.2.2.2.2.2, w.2.1.1, w.2.1.2.1, w.2.1.2.2.1, w.2.1.2.2.2, w.2.2.1, w.2.2.2.1, w.2.2.2.2.1, w.2.2.2.2.2.1, w.2.2.2.2.2.2.1, w.2.2.2.2.2.2.2.1, w.2.2.2.2.2.2.2.2.1, w.2.2.2.2.2.2.2.2.2.1, w.2.2.2.2.2.2.2.2.2.2.1, w.2.2.2.2.2.2.2.2.2.2.2.1, w.2.2.2.2.2.2.2.2.2.2.2.2.1, w.2.2.2.2.2.2.2.2.2.2.2.2.2)) (fun _ _ l => some (l.all fun b => !decide (b.1 < b.2.2.1)))
    (fun _ _ _ => rfl) (Nat.le_trans hl (by decide)) (fun _ => rfl)
    (fun n i s x r hw hi hx ih => by
      have hn : ((i : Int)).toNat = i := by simp
      have h0 : (0 : Int) ≤ i := by omega
      have ih := ih ()
      dsimp only
      simp only [hn, if_pos h0, ix_some hx]
      cases hq : decide (x.1 < x.2.2.1)
      · simp only [hq, hw, List.all_cons, Bool.not_false, Bool.true_and, Bool.false_eq_true, if_false]
        exact ih
      · simp [hq]) hk ())
theorem w17 (k : Nat) (w : TW) (hl : w.2.2.2.2.1.length ≤ 1048576) (hk : w.2.2.2.2.1.length < k) : F17 (k + 1) w = some (powered w) :=
  (e17 k w).trans (row_loop0 (L := L17_0 k _ _) (S := Unit) (X := fun _ => some true) (a := w.2.2.2.2.1) (fun (s : Unit) (i : Int) => (w.2.2.2.2.1, (w.2.2.2.2.1.length : Int), i)) (fun _ _ l => some (l.all fun b => !decide (b.1 < b.2.2.1)))
    (fun _ _ _ => rfl) (Nat.le_trans hl (by decide)) (fun _ => rfl)
    (fun n i s x r hw hi hx ih => by
      have hn : ((i : Int)).toNat = i := by simp
      have h0 : (0 : Int) ≤ i := by omega
      have ih := ih ()
      dsimp only
      skip
      cases hq : decide (x.1 < x.2.2.1)
      · simp only [hq, hw, List.all_cons, Bool.not_false, Bool.true_and, Bool.false_eq_true, if_false]
        exact ih
      · simp [hq]) hk ())
def arrivedStep (c : Int) (s : Int) (x : Int × Int × Int × Int × Int × Int) : Int := if (x.2.1 == c) = true then IntKind.i64.wrap (s + 1) else s
def arrived (w : TW) (c : Int) : Int := w.2.2.2.2.2.2.2.2.2.2.2.2.1.foldl (arrivedStep c) 0
theorem w18 (k : Nat) (w : TW) (c : Int) (hl : w.2.2.2.2.2.2.2.2.2.2.2.2.1.length ≤ 1048576) (hk : w.2.2.2.2.2.2.2.2.2.2.2.2.1.length < k) : F18 (k + 1) w c = some (arrived w c) :=
  (e18 k w c).trans (row_loop0 (L := L18_0 k _) (S := (Int)) (X := fun v => some v.2.1) (a := w.2.2.2.2.2.2.2.2.2.2.2.2.1) (fun (s : (Int)) (i : Int) => (c, s, i, w.1.1, w.1.2.1, w.1.2.2.1, w.1.2.2.2.1, w.1.2.2.2.2.1, w.1.2.2.2.2.2.1, w.1.2.2.2.2.2.2.1, w.1.2.2.2.2.2.2.2.1, w.1.2.2.2.2.2.2.2.2.1, w.1.2.2.2.2.2.2.2.2.2, w.2.1.1, w.2.1.2.1, w.2.1.2.2.1, w.2.1.2.2.2, w.2.2.1, w.2.2.2.1, w.2.2.2.2.1, w.2.2.2.2.2.1, w.2.2.2.2.2.2.1, w.2.2.2.2.2.2.2.1, w.2.2.2.2.2.2.2.2.1, w.2.2.2.2.2.2.2.2.2.1, w.2.2.2.2.2.2.2.2.2.2.1, w.2.2.2.2.2.2.2.2.2.2.2.1, w.2.2.2.2.2.2.2.2.2.2.2.2.1, w.2.2.2.2.2.2.2.2.2.2.2.2.2)) (fun s _ l => some (l.foldl (arrivedStep c) s))
    (fun _ _ _ => rfl) (Nat.le_trans hl (by decide)) (fun _ => rfl)
    (fun n i s x r hw hi hx ih => by
      have hn : ((i : Int)).toNat = i := by simp
      have h0 : (0 : Int) ≤ i := by omega
      have ih1 := ih (arrivedStep c s x)
      dsimp only
      show _ = some (r.foldl (arrivedStep c) (arrivedStep c s x))
      refine Eq.trans ?_ ih1
      unfold arrivedStep
      split <;> simp only [hw]) hk 0)
theorem w19 (k : Nat) (w : TW) (c : Int) (hl : w.2.2.2.2.2.2.2.2.2.2.2.2.1.length ≤ 1048576) (hk : w.2.2.2.2.2.2.2.2.2.2.2.2.1.length < k) : F19 (k + 1) w c = some (arrived w c) :=
  (e19 k w c).trans (row_loop0 (L := L19_0 k _) (S := (Int)) (X := fun v => some v.2.1) (a := w.2.2.2.2.2.2.2.2.2.2.2.2.1) (fun (s : (Int)) (i : Int) => (c, s, w.2.2.2.2.2.2.2.2.2.2.2.2.1, (w.2.2.2.2.2.2.2.2.2.2.2.2.1.length : Int), i)) (fun s _ l => some (l.foldl (arrivedStep c) s))
    (fun _ _ _ => rfl) (Nat.le_trans hl (by decide)) (fun _ => rfl)
    (fun n i s x r hw hi hx ih => by
      have hn : ((i : Int)).toNat = i := by simp
      have h0 : (0 : Int) ≤ i := by omega
      have ih1 := ih (arrivedStep c s x)
      dsimp only
      show _ = some (r.foldl (arrivedStep c) (arrivedStep c s x))
      refine Eq.trans ?_ ih1
      unfold arrivedStep
      split <;> simp only [hw]) hk 0)
def hopsStep (c : Int) (s : Int) (x : Int × Int × Int × Int) : Int := if (x.2.2.2 == c) = true then IntKind.i64.wrap (s + 1) else s
def hops (w : TW) (c : Int) : Int := w.2.2.2.2.2.2.2.2.2.2.2.2.2.foldl (hopsStep c) 0
theorem w20 (k : Nat) (w : TW) (c : Int) (hl : w.2.2.2.2.2.2.2.2.2.2.2.2.2.length ≤ 1048576) (hk : w.2.2.2.2.2.2.2.2.2.2.2.2.2.length < k) : F20 (k + 1) w c = some (hops w c) :=
  (e20 k w c).trans (row_loop0 (L := L20_0 k _) (S := (Int)) (X := fun v => some v.2.1) (a := w.2.2.2.2.2.2.2.2.2.2.2.2.2) (fun (s : (Int)) (i : Int) => (c, s, i, w.1.1, w.1.2.1, w.1.2.2.1, w.1.2.2.2.1, w.1.2.2.2.2.1, w.1.2.2.2.2.2.1, w.1.2.2.2.2.2.2.1, w.1.2.2.2.2.2.2.2.1, w.1.2.2.2.2.2.2.2.2.1, w.1.2.2.2.2.2.2.2.2.2, w.2.1.1, w.2.1.2.1, w.2.1.2.2.1, w.2.1.2.2.2, w.2.2.1, w.2.2.2.1, w.2.2.2.2.1, w.2.2.2.2.2.1, w.2.2.2.2.2.2.1, w.2.2.2.2.2.2.2.1, w.2.2.2.2.2.2.2.2.1, w.2.2.2.2.2.2.2.2.2.1, w.2.2.2.2.2.2.2.2.2.2.1, w.2.2.2.2.2.2.2.2.2.2.2.1, w.2.2.2.2.2.2.2.2.2.2.2.2.1, w.2.2.2.2.2.2.2.2.2.2.2.2.2)) (fun s _ l => some (l.foldl (hopsStep c) s))
    (fun _ _ _ => rfl) (Nat.le_trans hl (by decide)) (fun _ => rfl)
    (fun n i s x r hw hi hx ih => by
      have hn : ((i : Int)).toNat = i := by simp
      have h0 : (0 : Int) ≤ i := by omega
      have ih1 := ih (hopsStep c s x)
      dsimp only
      show _ = some (r.foldl (hopsStep c) (hopsStep c s x))
      refine Eq.trans ?_ ih1
      unfold hopsStep
      split <;> simp only [hw]) hk 0)
theorem w21 (k : Nat) (w : TW) (c : Int) (hl : w.2.2.2.2.2.2.2.2.2.2.2.2.2.length ≤ 1048576) (hk : w.2.2.2.2.2.2.2.2.2.2.2.2.2.length < k) : F21 (k + 1) w c = some (hops w c) :=
  (e21 k w c).trans (row_loop0 (L := L21_0 k _) (S := (Int)) (X := fun v => some v.2.1) (a := w.2.2.2.2.2.2.2.2.2.2.2.2.2) (fun (s : (Int)) (i : Int) => (c, s, w.2.2.2.2.2.2.2.2.2.2.2.2.2, (w.2.2.2.2.2.2.2.2.2.2.2.2.2.length : Int), i)) (fun s _ l => some (l.foldl (hopsStep c) s))
    (fun _ _ _ => rfl) (Nat.le_trans hl (by decide)) (fun _ => rfl)
    (fun n i s x r hw hi hx ih => by
      have hn : ((i : Int)).toNat = i := by simp
      have h0 : (0 : Int) ≤ i := by omega
      have ih1 := ih (hopsStep c s x)
      dsimp only
      show _ = some (r.foldl (hopsStep c) (hopsStep c s x))
      refine Eq.trans ?_ ih1
      unfold hopsStep
      split <;> simp only [hw]) hk 0)
def sentByStep (c : Int) (s : Int) (x : Int × Int × Int × Int) : Int := if (x.2.1 == c) = true then IntKind.i64.wrap (s + 1) else s
def sentBy (w : TW) (c : Int) : Int := w.2.2.2.2.2.2.2.2.2.2.2.2.2.foldl (sentByStep c) 0
theorem w22 (k : Nat) (w : TW) (c : Int) (hl : w.2.2.2.2.2.2.2.2.2.2.2.2.2.length ≤ 1048576) (hk : w.2.2.2.2.2.2.2.2.2.2.2.2.2.length < k) : F22 (k + 1) w c = some (sentBy w c) :=
  (e22 k w c).trans (row_loop0 (L := L22_0 k _) (S := (Int)) (X := fun v => some v.2.1) (a := w.2.2.2.2.2.2.2.2.2.2.2.2.2) (fun (s : (Int)) (i : Int) => (c, s, i, w.1.1, w.1.2.1, w.1.2.2.1, w.1.2.2.2.1, w.1.2.2.2.2.1, w.1.2.2.2.2.2.1, w.1.2.2.2.2.2.2.1, w.1.2.2.2.2.2.2.2.1, w.1.2.2.2.2.2.2.2.2.1, w.1.2.2.2.2.2.2.2.2.2, w.2.1.1, w.2.1.2.1, w.2.1.2.2.1, w.2.1.2.2.2, w.2.2.1, w.2.2.2.1, w.2.2.2.2.1, w.2.2.2.2.2.1, w.2.2.2.2.2.2.1, w.2.2.2.2.2.2.2.1, w.2.2.2.2.2.2.2.2.1, w.2.2.2.2.2.2.2.2.2.1, w.2.2.2.2.2.2.2.2.2.2.1, w.2.2.2.2.2.2.2.2.2.2.2.1, w.2.2.2.2.2.2.2.2.2.2.2.2.1, w.2.2.2.2.2.2.2.2.2.2.2.2.2)) (fun s _ l => some (l.foldl (sentByStep c) s))
    (fun _ _ _ => rfl) (Nat.le_trans hl (by decide)) (fun _ => rfl)
    (fun n i s x r hw hi hx ih => by
      have hn : ((i : Int)).toNat = i := by simp
      have h0 : (0 : Int) ≤ i := by omega
      have ih1 := ih (sentByStep c s x)
      dsimp only
      show _ = some (r.foldl (sentByStep c) (sentByStep c s x))
      refine Eq.trans ?_ ih1
      unfold sentByStep
      split <;> simp only [hw]) hk 0)
theorem w23 (k : Nat) (w : TW) (c : Int) (hl : w.2.2.2.2.2.2.2.2.2.2.2.2.2.length ≤ 1048576) (hk : w.2.2.2.2.2.2.2.2.2.2.2.2.2.length < k) : F23 (k + 1) w c = some (sentBy w c) :=
  (e23 k w c).trans (row_loop0 (L := L23_0 k _) (S := (Int)) (X := fun v => some v.2.1) (a := w.2.2.2.2.2.2.2.2.2.2.2.2.2) (fun (s : (Int)) (i : Int) => (c, s, w.2.2.2.2.2.2.2.2.2.2.2.2.2, (w.2.2.2.2.2.2.2.2.2.2.2.2.2.length : Int), i)) (fun s _ l => some (l.foldl (sentByStep c) s))
    (fun _ _ _ => rfl) (Nat.le_trans hl (by decide)) (fun _ => rfl)
    (fun n i s x r hw hi hx ih => by
      have hn : ((i : Int)).toNat = i := by simp
      have h0 : (0 : Int) ≤ i := by omega
      have ih1 := ih (sentByStep c s x)
      dsimp only
      show _ = some (r.foldl (sentByStep c) (sentByStep c s x))
      refine Eq.trans ?_ ih1
      unfold sentByStep
      split <;> simp only [hw]) hk 0)
set_option maxHeartbeats 4000000
def mean (w : TW) : Int := w.2.2.2.2.2.2.2.2.2.2.2.2.1.foldl (fun s x => IntKind.i64.wrap (s + hops w x.1)) 0
theorem w24 (k : Nat) (w : TW) (hl : w.2.2.2.2.2.2.2.2.2.2.2.2.1.length ≤ 1048576) (hg : w.2.2.2.2.2.2.2.2.2.2.2.2.2.length ≤ 1048576) (hk : w.2.2.2.2.2.2.2.2.2.2.2.2.1.length < k + 1) (hk2 : w.2.2.2.2.2.2.2.2.2.2.2.2.2.length < k) : F24 (k + 2) w = some (mean w, (w.2.2.2.2.2.2.2.2.2.2.2.2.1.length : Int)) :=
  (e24 (k + 1) w).trans (row_loop0 (L := L24_0 (k + 1) _) (S := (Int)) (X := fun v => some (v.1, (w.2.2.2.2.2.2.2.2.2.2.2.2.1.length : Int))) (a := w.2.2.2.2.2.2.2.2.2.2.2.2.1) (fun (s : (Int)) (i : Int) => (s, i, w.1.1, w.1.2.1, w.1.2.2.1, w.1.2.2.2.1, w.1.2.2.2.2.1, w.1.2.2.2.2.2.1, w.1.2.2.2.2.2.2.1, w.1.2.2.2.2.2.2.2.1, w.1.2.2.2.2.2.2.2.2.1, w.1.2.2.2.2.2.2.2.2.2, w.2.1.1, w.2.1.2.1, w.2.1.2.2.1, w.2.1.2.2.2, w.2.2.1, w.2.2.2.1, w.2.2.2.2.1, w.2.2.2.2.2.1, w.2.2.2.2.2.2.1, w.2.2.2.2.2.2.2.1, w.2.2.2.2.2.2.2.2.1, w.2.2.2.2.2.2.2.2.2.1, w.2.2.2.2.2.2.2.2.2.2.1, w.2.2.2.2.2.2.2.2.2.2.2.1, w.2.2.2.2.2.2.2.2.2.2.2.2.1, w.2.2.2.2.2.2.2.2.2.2.2.2.2)) (fun s _ l => some (l.foldl (fun s x => IntKind.i64.wrap (s + hops w x.1)) s, (w.2.2.2.2.2.2.2.2.2.2.2.2.1.length : Int)))
    (fun _ _ _ => rfl) (Nat.le_trans hl (by decide)) (fun _ => rfl)
    (fun n i s x r hw hi hx ih => by
      have hn : ((i : Int)).toNat = i := by simp
      have h0 : (0 : Int) ≤ i := by omega
      have ih1 := ih (IntKind.i64.wrap (s + hops w x.1))
      dsimp only
      have h20 := w20 k w x.1 hg (by omega)
      rw [h20, Option.bind_some, hw]
      exact ih1) hk 0)
theorem w25 (k : Nat) (w : TW) (hl : w.2.2.2.2.2.2.2.2.2.2.2.2.1.length ≤ 1048576) (hg : w.2.2.2.2.2.2.2.2.2.2.2.2.2.length ≤ 1048576) (hk : w.2.2.2.2.2.2.2.2.2.2.2.2.1.length < k + 1) (hk2 : w.2.2.2.2.2.2.2.2.2.2.2.2.2.length < k) : F25 (k + 2) w = some (mean w, (w.2.2.2.2.2.2.2.2.2.2.2.2.1.length : Int)) :=
  (e25 (k + 1) w).trans (row_loop0 (L := L25_0 (k + 1) _) (S := (Int)) (X := fun v => some (v.1, (w.2.2.2.2.2.2.2.2.2.2.2.2.1.length : Int))) (a := w.2.2.2.2.2.2.2.2.2.2.2.2.1) (fun (s : (Int)) (i : Int) => (s, w.2.2.2.2.2.2.2.2.2.2.2.2.1, (w.2.2.2.2.2.2.2.2.2.2.2.2.1.length : Int), i, w.1.1, w.1.2.1, w.1.2.2.1, w.1.2.2.2.1, w.1.2.2.2.2.1, w.1.2.2.2.2.2.1, w.1.2.2.2.2.2.2.1, w.1.2.2.2.2.2.2.2.1, w.1.2.2.2.2.2.2.2.2.1, w.1.2.2.2.2.2.2.2.2.2, w.2.1.1, w.2.1.2.1, w.2.1.2.2.1, w.2.1.2.2.2, w.2.2.1, w.2.2.2.1, w.2.2.2.2.1, w.2.2.2.2.2.1, w.2.2.2.2.2.2.1, w.2.2.2.2.2.2.2.1, w.2.2.2.2.2.2.2.2.1, w.2.2.2.2.2.2.2.2.2.1, w.2.2.2.2.2.2.2.2.2.2.1, w.2.2.2.2.2.2.2.2.2.2.2.1, w.2.2.2.2.2.2.2.2.2.2.2.2.1, w.2.2.2.2.2.2.2.2.2.2.2.2.2)) (fun s _ l => some (l.foldl (fun s x => IntKind.i64.wrap (s + hops w x.1)) s, (w.2.2.2.2.2.2.2.2.2.2.2.2.1.length : Int)))
    (fun _ _ _ => rfl) (Nat.le_trans hl (by decide)) (fun _ => rfl)
    (fun n i s x r hw hi hx ih => by
      have hn : ((i : Int)).toNat = i := by simp
      have h0 : (0 : Int) ≤ i := by omega
      have ih1 := ih (IntKind.i64.wrap (s + hops w x.1))
      dsimp only
      have h20 := w21 k w x.1 hg (by omega)
      rw [h20, Option.bind_some, hw]
      exact ih1) hk 0)
def flowFrom (c : Int) : Nat → List (Int × Int × Int × Int) → Int
  | _, [] => -1
  | i, x :: r => if (x.1 == c) = true then (i : Int) else flowFrom c (i + 1) r
def flow (w : TW) (c : Int) : Int := flowFrom c 0 w.2.2.2.2.2.2.1
theorem w63 (k : Nat) (w : TW) (c : Int) (hl : w.2.2.2.2.2.2.1.length ≤ 1048576) (hk : w.2.2.2.2.2.2.1.length < k) : F63 (k + 1) w c = some (flow w c) :=
  (e63 k w c).trans (row_loop0 (L := L63_0 k _ _) (S := Unit) (X := fun _ => some (-1)) (a := w.2.2.2.2.2.2.1) (fun (s : Unit) (i : Int) => (c, i, w.1.1, w.1.2.1, w.1.2.2.1, w.1.2.2.2.1, w.1.2.2.2.2.1, w.1.2.2.2.2.2.1, w.1.2.2.2.2.2.2.1, w.1.2.2.2.2.2.2.2.1, w.1.2.2.2.2.2.2.2.2.1, w.1.2.2.2.2.2.2.2.2.2, w.2.1.1, w.2.1.2.1, w.2.1.2.2.1, w.2.1.2.2.2, w.2.2.1, w.2.2.2.1, w.2.2.2.2.1, w.2.2.2.2.2.1, w.2.2.2.2.2.2.1, w.2.2.2.2.2.2.2.1, w.2.2.2.2.2.2.2.2.1, w.2.2.2.2.2.2.2.2.2.1, w.2.2.2.2.2.2.2.2.2.2.1, w.2.2.2.2.2.2.2.2.2.2.2.1, w.2.2.2.2.2.2.2.2.2.2.2.2.1, w.2.2.2.2.2.2.2.2.2.2.2.2.2)) (fun _ i l => some (flowFrom c i l))
    (fun _ _ _ => rfl) (Nat.le_trans hl (by decide)) (fun _ => rfl)
    (fun n i s x r hw hi hx ih => by
      have hn : ((i : Int)).toNat = i := by simp
      have h0 : (0 : Int) ≤ i := by omega
      have ih := ih ()
      dsimp only
      show _ = some (if (x.1 == c) = true then (i : Int) else flowFrom c (i + 1) r)
      split
      · rename_i h; simp only [h, if_true]
      · rename_i h; rw [hw]; first | exact ih | (simp only [h, Bool.false_eq_true, if_false]; exact ih)) hk ())
theorem w98 (k : Nat) (a : List (Int × Int × Int × Int)) (c : Int) (hl : a.length ≤ 1048576) (hk : a.length < k + 1) : F98v0 (k + 2) a c = some (flowFrom c 0 a) :=
  (e98v0 (k + 1) a c).trans (row_loop0 (L := L98v0_0 (k + 1) _ _) (S := Unit) (X := fun _ => some (-1)) (a := a) (fun (s : Unit) (i : Int) => (a, c, (a.length : Int), i)) (fun _ i l => some (flowFrom c i l))
    (fun _ _ _ => rfl) (Nat.le_trans hl (by decide)) (fun _ => rfl)
    (fun n i s x r hw hi hx ih => by
      have hn : ((i : Int)).toNat = i := by simp
      have h0 : (0 : Int) ≤ i := by omega
      have ih := ih ()
      dsimp only
      rw [e99v0, Option.bind_some]
      show _ = some (if (x.1 == c) = true then (i : Int) else flowFrom c (i + 1) r)
      split
      · rename_i h; simp only [h, if_true]
      · rename_i h; rw [hw]; first | exact ih | (simp only [h, Bool.false_eq_true, if_false]; exact ih)) hk ())
def given (w : TW) (c : Int) : Int := if flow w c < 0 then -1 else match w.2.2.2.2.2.2.2.2.1[(flow w c).toNat]? with
  | some s => s.2.1
  | none => -1
theorem w26 (k : Nat) (w : TW) (c : Int) (hl : w.2.2.2.2.2.2.1.length ≤ 1048576) (hk : w.2.2.2.2.2.2.1.length < k) : F26 (k + 2) w c = some (given w c) := by
  rw [e26, w63 k w c hl hk, Option.bind_some]
  unfold given
  by_cases h : flow w c < 0
  · rw [if_pos h, if_neg (by simp; omega)]
  · rw [if_neg h, if_pos (by simp; omega)]
    by_cases h2 : flow w c ≥ (w.2.2.2.2.2.2.2.2.1.length : Int)
    · rw [if_pos (by simpa using h2), List.getElem?_eq_none (by omega)]
    · rw [if_neg (by simpa using h2), if_pos (by omega), ix_at (by omega), List.getElem?_eq_getElem (by omega)]
theorem w27 (k : Nat) (w : TW) (c : Int) (hl : w.2.2.2.2.2.2.1.length ≤ 1048576) (hk : w.2.2.2.2.2.2.1.length < k) : F27 (k + 4) w c = some (given w c) := by
  rw [e27, e64, w98 k _ c hl (by omega), Option.bind_some, Option.bind_some, e65]
  show (Option.bind (if ((decide (flow w c ≥ 0)) == true) = true then some (decide (flow w c < _)) else some false) _) = _
  unfold given
  by_cases h : flow w c < 0
  · have h1 : decide (flow w c ≥ 0) = false := by simp; omega
    rw [if_pos h, h1]
    rfl
  · have h1 : decide (flow w c ≥ 0) = true := by simp; omega
    rw [if_neg h, h1]
    simp only [beq_self_eq_true, if_true, Option.bind_some]
    by_cases h2 : flow w c < (w.2.2.2.2.2.2.2.2.1.length : Int)
    · have h4 : 0 ≤ flowFrom c 0 w.2.2.2.2.2.2.1 := by have : flow w c = flowFrom c 0 w.2.2.2.2.2.2.1 := rfl; omega
      rw [if_neg (by simp; omega), if_pos h4]
      have h3 : flow w c = flowFrom c 0 w.2.2.2.2.2.2.1 := rfl
      refine (ix_at (n := (flow w c).toNat) (by omega) _).trans ?_
      rw [List.getElem?_eq_getElem (by omega)]
    · rw [if_pos (by simp; omega), List.getElem?_eq_none (by omega)]
theorem law4 (w : TW) (hr : rowsLe 140737488351232 s40 w) : ∃ k, F4 k w = some true := by
  refine ⟨szT s40 w + 20, ?_⟩
  rw [e4, z11 _ w 1048576 hr (by omega) (by omega) (by omega), Option.bind_some]
  by_cases hz : szT s40 w ≤ 1048576
  · rw [szR_pos (by omega), if_neg (by simp; omega)]
    have hrow := rows_le s40 w _ (Nat.le_refl _)
    have hq0 : w.2.2.2.2.1.length ≤ szT s40 w := (rowsLe_row hrow.2.2.2.2.1).1
    have e60 : szT s60 w = szT s40 w := rfl
    rw [t13 _ w hz (by omega), Option.bind_some, w16 _ w (by omega) (by omega), Option.bind_some, Option.bind_some, w17 _ w (by omega) (by omega), Option.bind_some]
    rw [if_neg (by simp), Option.bind_some, q15 _ w (by rw [e60]; exact hz) (by rw [e60]; omega), Option.bind_some]
    rfl
  · rw [szR_neg (by omega), if_pos (by decide)]
theorem law5 (w : TW) (c : Int) (hr : rowsLe 140737488351232 s40 w) : ∃ k, F5 k w c = some true := by
  refine ⟨szT s40 w + 20, ?_⟩
  rw [e5, z11 _ w 1048576 hr (by omega) (by omega) (by omega), Option.bind_some]
  by_cases hz : szT s40 w ≤ 1048576
  · rw [szR_pos (by omega), if_neg (by simp; omega)]
    have hrow := rows_le s40 w _ (Nat.le_refl _)
    have hq0 : w.2.2.2.2.2.2.2.2.2.2.2.2.1.length ≤ szT s40 w := (rowsLe_row hrow.2.2.2.2.2.2.2.2.2.2.2.2.1).1
    have e60 : szT s60 w = szT s40 w := rfl
    rw [t13 _ w hz (by omega), Option.bind_some, w18 _ w c (by omega) (by omega), Option.bind_some, Option.bind_some, w19 _ w c (by omega) (by omega), Option.bind_some]
    rw [if_neg (by simp), Option.bind_some, q15 _ w (by rw [e60]; exact hz) (by rw [e60]; omega), Option.bind_some]
    rfl
  · rw [szR_neg (by omega), if_pos (by decide)]
theorem law6 (w : TW) (c : Int) (hr : rowsLe 140737488351232 s40 w) : ∃ k, F6 k w c = some true := by
  refine ⟨szT s40 w + 20, ?_⟩
  rw [e6, z11 _ w 1048576 hr (by omega) (by omega) (by omega), Option.bind_some]
  by_cases hz : szT s40 w ≤ 1048576
  · rw [szR_pos (by omega), if_neg (by simp; omega)]
    have hrow := rows_le s40 w _ (Nat.le_refl _)
    have hq0 : w.2.2.2.2.2.2.2.2.2.2.2.2.2.length ≤ szT s40 w := (rowsLe_row hrow.2.2.2.2.2.2.2.2.2.2.2.2.2).1
    have e60 : szT s60 w = szT s40 w := rfl
    rw [t13 _ w hz (by omega), Option.bind_some, w20 _ w c (by omega) (by omega), Option.bind_some, Option.bind_some, w21 _ w c (by omega) (by omega), Option.bind_some]
    rw [if_neg (by simp), Option.bind_some, q15 _ w (by rw [e60]; exact hz) (by rw [e60]; omega), Option.bind_some]
    rfl
  · rw [szR_neg (by omega), if_pos (by decide)]
theorem law7 (w : TW) (c : Int) (hr : rowsLe 140737488351232 s40 w) : ∃ k, F7 k w c = some true := by
  refine ⟨szT s40 w + 20, ?_⟩
  rw [e7, z11 _ w 1048576 hr (by omega) (by omega) (by omega), Option.bind_some]
  by_cases hz : szT s40 w ≤ 1048576
  · rw [szR_pos (by omega), if_neg (by simp; omega)]
    have hrow := rows_le s40 w _ (Nat.le_refl _)
    have hq0 : w.2.2.2.2.2.2.2.2.2.2.2.2.2.length ≤ szT s40 w := (rowsLe_row hrow.2.2.2.2.2.2.2.2.2.2.2.2.2).1
    have e60 : szT s60 w = szT s40 w := rfl
    rw [t13 _ w hz (by omega), Option.bind_some, w22 _ w c (by omega) (by omega), Option.bind_some, Option.bind_some, w23 _ w c (by omega) (by omega), Option.bind_some]
    rw [if_neg (by simp), Option.bind_some, q15 _ w (by rw [e60]; exact hz) (by rw [e60]; omega), Option.bind_some]
    rfl
  · rw [szR_neg (by omega), if_pos (by decide)]
theorem law8 (w : TW) (hr : rowsLe 140737488351232 s40 w) : ∃ k, F8 k w = some true := by
  refine ⟨szT s40 w + 20, ?_⟩
  rw [e8, z11 _ w 1048576 hr (by omega) (by omega) (by omega), Option.bind_some]
  by_cases hz : szT s40 w ≤ 1048576
  · rw [szR_pos (by omega), if_neg (by simp; omega)]
    have hrow := rows_le s40 w _ (Nat.le_refl _)
    have hq0 : w.2.2.2.2.2.2.2.2.2.2.2.2.1.length ≤ szT s40 w := (rowsLe_row hrow.2.2.2.2.2.2.2.2.2.2.2.2.1).1
    have hq1 : w.2.2.2.2.2.2.2.2.2.2.2.2.2.length ≤ szT s40 w := (rowsLe_row hrow.2.2.2.2.2.2.2.2.2.2.2.2.2).1
    have e60 : szT s60 w = szT s40 w := rfl
    rw [t13 _ w hz (by omega), Option.bind_some, w24 _ w (by omega) (by omega) (by omega) (by omega), Option.bind_some, Option.bind_some, w25 _ w (by omega) (by omega) (by omega) (by omega), Option.bind_some]
    rw [if_pos (by simp), if_neg (by simp), Option.bind_some, q15 _ w (by rw [e60]; exact hz) (by rw [e60]; omega), Option.bind_some]
    rfl
  · rw [szR_neg (by omega), if_pos (by decide)]
theorem law9 (w : TW) (c : Int) (hr : rowsLe 140737488351232 s40 w) : ∃ k, F9 k w c = some true := by
  refine ⟨szT s40 w + 20, ?_⟩
  rw [e9, z11 _ w 1048576 hr (by omega) (by omega) (by omega), Option.bind_some]
  by_cases hz : szT s40 w ≤ 1048576
  · rw [szR_pos (by omega), if_neg (by simp; omega)]
    have hrow := rows_le s40 w _ (Nat.le_refl _)
    have hq0 : w.2.2.2.2.2.2.1.length ≤ szT s40 w := (rowsLe_row hrow.2.2.2.2.2.2.1).1
    have e60 : szT s60 w = szT s40 w := rfl
    rw [t13 _ w hz (by omega), Option.bind_some, w26 _ w c (by omega) (by omega), Option.bind_some, Option.bind_some, w27 _ w c (by omega) (by omega), Option.bind_some]
    rw [if_neg (by simp), Option.bind_some, q15 _ w (by rw [e60]; exact hz) (by rw [e60]; omega), Option.bind_some]
    rfl
  · rw [szR_neg (by omega), if_pos (by decide)]
end Go.Proofs.Ytmkkoalilmgpcaa.World
namespace Go.Proofs.Ytmkkoalilmgpcaa.World
open Go Go.V Go.Proofs
open Go.ChangeShapes Go.WideShapes Go.ChangeAt Go.RowKit
set_option linter.unusedVariables false
set_option maxRecDepth 100000
theorem tyOk : ∀ t i, E.ty t = some i → TyOk E.P t i := by
  intro t i h
  replace h : ty t = some i := h
  unfold ty at h
  split at h <;> first | (cases h; done) | (cases h; exact ⟨by kernel_rfl, by kernel_rfl⟩)
theorem fnOk : ∀ f F, E.fn f = some F → E.P.funcs[f]? = some F ∧ F.name ≠ "runtime.NumGoroutine" ∧ ∀ c, F.body = some c → codeOk c = true := by
  intro f F h
  replace h : fn f = some F := h
  unfold fn at h
  split at h <;> first | (cases h; done) | (cases h; exact ⟨by kernel_rfl, of_decide_eq_true (by kernel_rfl), fun c hc => by cases hc; kernel_rfl⟩)
theorem envOk : EnvOk E := ⟨tyOk, fun f F h => (fnOk f F h).1, fun f F h => (fnOk f F h).2.1, by kernel_rfl⟩
theorem sound (k : Nat) : CallOk E (den E k) := den_sound envOk (fun f F c h => (fnOk f F h).2.2 c) (fun f g h => by cases h) k
end Go.Proofs.Ytmkkoalilmgpcaa.World
namespace Go.Proofs.Ytmkkoalilmgpcaa.World
open Go Go.V Go.Proofs
open Go.ChangeShapes Go.WideShapes Go.ChangeAt Go.RowKit
set_option linter.unusedVariables false
set_option maxRecDepth 100000
theorem walk7 {k : Nat} {y0 : TW} {y1 : Int} (h : F7 k y0 y1 = some true) {W : World} {v0 v1 : Value} (h0 : VA W (fun _ => True) (fun _ => undef) (argAV s40 y0) v0) (l0 : (argAV s40 y0).lt 0) (h1 : VA W (fun _ => True) (fun _ => undef) (argAV (.i .i64) y1) v1) (l1 : (argAV (.i .i64) y1).lt 0) :
    Calls Try.prog 7 #[v0, v1] W fun e W' => e = .returned (.bool true) ∧ Go.RowKit.Below W.heap.size W W' := by
  have hs := (sound k) 7 [argAV s40 y0, argAV (.i .i64) y1] true h
  refine (hs.2 (fun _ => True) W [v0, v1] (by intro x hx; simp at hx; rcases hx with rfl | rfl; exact l0; exact l1) ⟨h0, h1, trivial⟩).mono ?_
  rintro e W' ⟨v, rfl, hb, hr⟩
  exact ⟨by rw [resOk_bool hr], hb⟩
theorem own : ownKnob Try.prog.godebug = none := by kernel_rfl
theorem lifted (os : Os) (started : os.Started) (H : Type) (enc : TypeId × Value → H) :
    ReturnsInHanded {} Try.checked os 7 .any (Ytmkkoalilmgpcaa.Rows.fnExactSentBySpec.pre6 enc Try.prog Try.f7 Ytmkkoalilmgpcaa.Rows.fnExactSentByRow.domain false) (Ytmkkoalilmgpcaa.Rows.fnExactSentBySpec.post enc Try.prog Try.f7 false true false false) := by
  refine returnsInHanded_of_change_sized (C := Try.checked) own started (by kernel_rfl) Try.func7
    (ChangeSpec.witness6 (enc := enc) (C := Try.checked) false ⟨#[], #[.agg #[(.int .i64 0), (.slice none 0 0), (.slice none 0 0), (.int .i64 0), (.int .i64 0), (.int .i64 0), (.int .i64 0), (.int .i64 0), (.slice none 0 0), (.int .i64 0), (.int .i64 0), (.int .i64 0), (.int .i64 0), (.slice none 0 0), (.slice none 0 0), (.slice none 0 0), (.slice none 0 0), (.slice none 0 0), (.slice none 0 0), (.slice none 0 0), (.slice none 0 0), (.slice none 0 0), (.int .i64 0), (.int .i64 0), (.slice none 0 0), (.slice none 0 0)], .int .i64 0], []⟩ 8 (by kernel_rfl) (by kernel_rfl) (by kernel_rfl) (by kernel_rfl)) ?_
  intro W base args ds gs before hval0 hW hcnd hsz0 _
  have hsz : (DataW.weightsEach Try.prog (Try.f7.params.toList ++ Ytmkkoalilmgpcaa.Rows.fnExactSentBySpec.plain.varTypes Try.prog) (ds ++ gs)).all (· ≤ reachBytes) = true := hsz0
  have hval : ∀ (j : Nat) t v, Try.f7.params[j]? = some t → args[j]? = some v → Value.okWide Try.prog W .any base t v := hval0
  have hW' := hW
  obtain ⟨p, q, hA0, hV, rfl, hfz, hnd⟩ := hW
  have hA : DataW.TrodAll enc Try.prog W 0 (fun _ => true) true Try.f7.params.toList args.toList ds p := hA0
  have hAA := hA
  rw [Try.params7] at hA hval hsz
  obtain ⟨v0, vs0, d0, ds0, p0, q0, hargs, rfl, rfl, h0, r0⟩ := trodAll_cons hA
  obtain ⟨v1, vs1, d1, ds1, p1, q1, rfl, rfl, rfl, h1, r1⟩ := trodAll_cons r0
  obtain ⟨rfl, rfl, rfl⟩ := trodAll_nil r1
  obtain rfl : args = #[v0, v1] := by cases args; simp_all
  obtain ⟨rfl, rfl⟩ := trodVars_none hV
  have hwt0 : ∀ n ∈ d0.weights Try.prog 41, n ≤ reachBytes := by
    intro n hn
    have := List.all_eq_true.1 hsz n (by simp [DataW.weightsEach, hn])
    simpa using this
  have hwt1 : ∀ n ∈ d1.weights Try.prog 3, n ≤ reachBytes := by
    intro n hn
    have := List.all_eq_true.1 hsz n (by simp [DataW.weightsEach, hn])
    simpa using this
  obtain ⟨y0, a0, b0, w0⟩ := arg_VA (sh := s40) (by kernel_rfl) (hval 0 41 v0 rfl rfl) h0 hwt0
  obtain ⟨y1, a1, b1, w1⟩ := arg_VA (sh := (.i .i64)) (by kernel_rfl) (hval 1 3 v1 rfl rfl) h1 hwt1
  obtain ⟨k, hk⟩ := law7 y0 y1 (rows_wf (P := Try.prog) s40 y0 (by kernel_rfl) w0)
  have hlt : ∀ x ∈ p0 ++ (p1 ++ []), x.block < W.heap.size := fun x hx => hW'.lt x (by simpa using hx)
  refine (walk7 hk a0 b0 a1 b1).mono fun e W' ⟨he, bel⟩ => ?_
  subst he
  exact ⟨_, rfl, _, _, _, [], _, [], hW', trodAll_mk1 (shut_bool Try.underlying4 _), below_trodAll (by kernel_rfl) bel _ _ _ _ (by kernel_rfl) hAA hlt, rfl, bel.frame _, fun h => by cases h⟩
theorem over : Ytmkkoalilmgpcaa.Rows.fnExactSentByRow.holds Ytmkkoalilmgpcaa.Try.pinned (OpenSpec.ofChange Ytmkkoalilmgpcaa.Rows.fnExactSentBySpec) :=
  OpenClaim.holds_of_wide 7 Try.f7 rfl rfl rfl rfl rfl rfl rfl ⟨rfl, rfl, rfl, rfl, rfl⟩ rfl rfl rfl rfl rfl (by kernel_rfl) Try.func7 (by kernel_rfl)
    (of_decide_eq_true (by kernel_rfl)) (by unfold Func.isWrapper; first | (rw [if_pos (by decide +kernel)]; kernel_rfl) | (rw [if_neg (by decide +kernel)]; exact ⟨rfl, rfl⟩))
    (fun os started H enc _ => lifted os started H enc)
end Go.Proofs.Ytmkkoalilmgpcaa.World
namespace Go.Proofs.Ytmkkoalilmgpcaa
/-- The row, under a short name. -/
theorem fnExactSentBy_holds : Rows.FnExactSentBySaid := World.over
end Go.Proofs.Ytmkkoalilmgpcaa
