/- 'laws.FnExactLitOf' returns true for every input. No condition. -/
import Derived.Test.YtonfioejmldhcaaGreatWp
import Derived.Test.YtonfioejmldhcaaGreatRows
import Derived.Test.YtonfioejmldhcaaGreatChecked
import Derived.KernelRfl
namespace Go.Proofs.YtonfioejmldhcaaGreat.World
open Go Go.V Go.Proofs
set_option linter.unusedVariables false
set_option linter.unusedSimpArgs false
set_option maxRecDepth 100000
abbrev TW := TWorld
theorem pred {k d : Nat} (h : d + 1 ≤ k) : ∃ q, k = q + 1 := ⟨k - 1, by omega⟩
/-! ### numbers, rows -/
def isIdx (a b : Int) : Bool := decide (a ≥ 0) && decide (a < b)
def inR (n a b : Int) : Bool := decide (a ≤ n) && decide (n ≤ b)
theorem fiisIndex {k : Nat} (a b : Int) (hk : 1 ≤ k) : FiisIndex k a b = some (isIdx a b) := by
  obtain ⟨k, rfl⟩ := pred (d := 0) hk
  rw [eiisIndex]
  unfold isIdx
  cases decide (a ≥ 0) <;> rfl
theorem fiInRange {k : Nat} (n a b : Int) (hk : 1 ≤ k) : FiInRange k n a b = some (inR n a b) := by
  obtain ⟨k, rfl⟩ := pred (d := 0) hk
  rw [eiInRange]
  unfold inR
  cases decide (a ≤ n) <;> rfl
theorem fsl1In {k : Nat} (n a b : Int) (hk : 1 ≤ k) : Fsl1In k n a b = some (inR n a b) := by
  obtain ⟨k, rfl⟩ := pred (d := 0) hk
  rw [esl1In]
  unfold inR
  show (if ((decide (a ≤ n)) == true) = true then _ else _) = _
  cases decide (a ≤ n) <;> rfl
/-! ### skies, laws -/
def nodes (s : TSky) : Int := IntKind.i64.wrap ((s.2.1.length : Int) + (s.2.2.1.length : Int))
def site (s : TSky) (n : Int) : Bool := inR n (s.2.1.length : Int) (IntKind.i64.wrap (nodes s - 1))
theorem fiNodesOf {k : Nat} (s : TSky) (hk : 1 ≤ k) : FiNodesOf k s = some (nodes s) := by
  obtain ⟨k, rfl⟩ := pred (d := 0) hk
  exact eiNodesOf k s
theorem fsNodesOf {k : Nat} (s : TSky) (hk : 1 ≤ k) : FsNodesOf k s = some (nodes s) := by
  obtain ⟨k, rfl⟩ := pred (d := 0) hk
  exact esNodesOf k s
theorem fiIsSite {k : Nat} (s : TSky) (n : Int) (hk : 2 ≤ k) : FiIsSite k s n = some (site s n) := by
  obtain ⟨k, rfl⟩ := pred (d := 1) hk
  rw [eiIsSite, fiNodesOf s (by omega), Option.bind_some, fiInRange _ _ _ (by omega)]
  rfl
theorem fsIsSite {k : Nat} (s : TSky) (n : Int) (hk : 2 ≤ k) : FsIsSite k s n = some (site s n) := by
  obtain ⟨k, rfl⟩ := pred (d := 1) hk
  rw [esIsSite, fsNodesOf s (by omega), Option.bind_some, fsl1In _ _ _ (by omega)]
  rfl
/-! ### IsLawful -/
abbrev qDone (w : TW) := w.2.2.2.2.2.2.2.2.2.2.2.2.1
abbrev qLog (w : TW) := w.2.2.2.2.2.2.2.2.2.2.2.2.2
abbrev qQueues (w : TW) := w.2.2.2.2.2.1
theorem inR_last {len : Nat} (n : Int) (h : len ≤ 140737488351232) : inR n 0 (IntKind.i64.wrap ((len : Int) - 1)) = isIdx n (len : Int) := by
  rw [wrap_id (by omega) (by omega)]
  unfold inR isIdx
  have e : decide (n ≤ (len : Int) - 1) = decide (n < (len : Int)) := by
    by_cases h : n < (len : Int)
    · rw [decide_eq_true h, decide_eq_true (by omega)]
    · rw [decide_eq_false h, decide_eq_false (by omega)]
  rw [e]
theorem isIdx_pos {n : Int} {len : Nat} (h : isIdx n (len : Int) = true) : 0 ≤ n ∧ n.toNat < len := by
  unfold isIdx at h
  simp only [Bool.and_eq_true, decide_eq_true_eq] at h
  omega
/-! ### spans -/
def isSpan (s : Int × Int) : Bool := decide (s.1 ≥ 0) && (decide (s.2 ≤ 1000) && decide (s.1 < s.2))
def inSpan (s : Int × Int) (t : Int) : Bool := isSpan s && (decide (s.1 ≤ t) && decide (t < s.2))
theorem fsIsSpan {k : Nat} (s : Int × Int) (hk : 1 ≤ k) : FsIsSpan k s = some (isSpan s) := by
  obtain ⟨k, rfl⟩ := pred (d := 0) hk
  rw [esIsSpan]
  unfold isSpan
  cases decide (s.1 ≥ 0)
  · rfl
  · cases decide (s.2 ≤ 1000) <;> rfl
theorem fiIsSpan {k : Nat} (s : Int × Int) (hk : 1 ≤ k) : FiIsSpan k s = some (isSpan s) := by
  obtain ⟨k, rfl⟩ := pred (d := 0) hk
  rw [eiIsSpan]
  unfold isSpan
  cases decide (s.1 ≥ 0)
  · rfl
  · cases decide (s.2 ≤ 1000) <;> rfl
theorem fsInSpan {k : Nat} (s : Int × Int) (t : Int) (hk : 2 ≤ k) : FsInSpan k s t = some (inSpan s t) := by
  obtain ⟨k, rfl⟩ := pred (d := 1) hk
  rw [esInSpan, fsIsSpan s (by omega), Option.bind_some]
  unfold inSpan
  cases isSpan s
  · rfl
  · cases decide (s.1 ≤ t) <;> rfl
theorem fiInSpan {k : Nat} (s : Int × Int) (t : Int) (hk : 2 ≤ k) : FiInSpan k s t = some (inSpan s t) := by
  obtain ⟨k, rfl⟩ := pred (d := 1) hk
  rw [eiInSpan, fiIsSpan s (by omega), Option.bind_some]
  unfold inSpan
  cases isSpan s
  · rfl
  · cases decide (s.1 ≤ t) <;> rfl
/-! ### pieces, links -/
/-! ### faults -/
def downAt (n t : Int) (x : Int × Int × Int × Int) : Bool := x.1 == n && (x.2.1 == -1 && inSpan x.2.2 t)
def down (l : List (Int × Int × Int × Int)) (n t : Int) : Bool := l.any (downAt n t)
theorem fsl31Now {k : Nat} (x : Int × Int × Int × Int) (t : Int) (hk : 3 ≤ k) : Fsl31Now k x t = some (inSpan x.2.2 t) := by
  obtain ⟨k, rfl⟩ := pred (d := 2) hk
  rw [esl31Now, fsInSpan _ _ (by omega)]
  rfl
theorem fsIsDown {k : Nat} (l : List (Int × Int × Int × Int)) (n t : Int) (hl : l.length ≤ 140737488351232) (hk : l.length + 5 ≤ k) : FsIsDown k l n t = some (down l n t) := by
  obtain ⟨k, rfl⟩ := pred (d := 0) (show 1 ≤ k by omega)
  refine (esIsDown k l n t).trans (row_i (a := l) (fun _ l => some (l.any (downAt n t))) (fun _ _ => rfl) hl rfl (fun m i x r h0 hn hw hi hx ih => ?_) (by omega))
  dsimp only
  simp only [hw, ih, hn, ix_some hx, if_pos h0, List.any_cons, fsl31Now x t (show 3 ≤ k by omega), Option.bind_some]
  unfold downAt
  cases x.1 == n <;> cases x.2.1 == -1 <;> cases inSpan x.2.2 t <;> rfl
theorem fiIsDown {k : Nat} (l : List (Int × Int × Int × Int)) (n t : Int) (hl : l.length ≤ 140737488351232) (hk : l.length + 5 ≤ k) : FiIsDown k l n t = some (down l n t) := by
  obtain ⟨k, rfl⟩ := pred (d := 0) (show 1 ≤ k by omega)
  refine (eiIsDown k l n t).trans (row_i (a := l) (fun _ l => some (l.any (downAt n t))) (fun _ _ => rfl) hl rfl (fun m i x r h0 hn hw hi hx ih => ?_) (by omega))
  dsimp only
  simp only [hw, ih, List.any_cons, fiInSpan x.2.2 t (show 2 ≤ k by omega), Option.bind_some]
  unfold downAt
  cases x.1 == n <;> cases x.2.1 == -1 <;> cases inSpan x.2.2 t <;> rfl
/-! ### IsInContact -/
abbrev qFaults (w : TW) := w.2.2.2.2.2.2.2.2.2.1
/-! ### angles -/
theorem tmod_neg' (a : Int) (h : a < 0) : a.tmod 360 = -((-a) % 360) := by
  have : a = -(-a) := by omega
  rw [this, Int.neg_tmod, Int.tmod_eq_emod_of_nonneg (by omega)]
  simp
def angle (n : Int) : Int := n % 360
theorem angle_range (n : Int) : 0 ≤ angle n ∧ angle n < 360 := by unfold angle; omega
theorem fsMod {k : Nat} (n : Int) (hk : 2 ≤ k) : FsMod k n 360 = some (angle n) := by
  obtain ⟨k, rfl⟩ := pred (d := 1) hk
  rw [esMod, fsl1In _ _ _ (by omega)]
  have e : inR 360 1 1000000000000 = true := by decide
  rw [e, Option.bind_some, if_neg (by decide), if_neg (by decide), if_neg (by decide)]
  congr 1
  unfold angle
  by_cases h : 0 ≤ n
  · rw [Int.tmod_eq_emod_of_nonneg h, wrap_id (by omega) (by omega), Int.tmod_eq_emod_of_nonneg (by omega)]
    omega
  · rw [tmod_neg' n (by omega), wrap_id (by omega) (by omega), Int.tmod_eq_emod_of_nonneg (by omega)]
    omega
theorem fiMod {k : Nat} (n : Int) (hk : 2 ≤ k) : FiMod k n 360 = some (angle n) := by
  obtain ⟨k, rfl⟩ := pred (d := 1) hk
  rw [eiMod, fiInRange _ _ _ (by omega)]
  have e : inR 360 1 1000000000000 = true := by decide
  rw [e, Option.bind_some, if_neg (by decide), if_neg (by decide)]
  unfold angle
  by_cases h : 0 ≤ n
  · rw [Int.tmod_eq_emod_of_nonneg h, if_neg (by simp; omega)]
  · rw [tmod_neg' n (by omega)]
    split
    · rename_i h2
      simp only [decide_eq_true_eq] at h2
      rw [wrap_id (by omega) (by omega)]
      congr 1
      omega
    · rename_i h2
      simp only [decide_eq_true_eq] at h2
      congr 1
      omega
theorem fsAngleOf {k : Nat} (n : Int) (hk : 3 ≤ k) : FsAngleOf k n = some (angle n) := by
  obtain ⟨k, rfl⟩ := pred (d := 2) hk
  rw [esAngleOf, fsMod _ (by omega)]
  rfl
theorem fiAngleOf {k : Nat} (n : Int) (hk : 3 ≤ k) : FiAngleOf k n = some (angle n) := by
  obtain ⟨k, rfl⟩ := pred (d := 2) hk
  rw [eiAngleOf, fiMod _ (by omega)]
  rfl
/-! ### arcs -/
def inArc (x : Int × Int) (a : Int) : Bool := decide (angle (angle a - angle x.1) ≤ x.2)
theorem angle_sub (a b : Int) : IntKind.i64.wrap (angle a - angle b) = angle a - angle b := by
  have := angle_range a
  have := angle_range b
  exact wrap_id (by omega) (by omega)
/-! ### places -/
def speed (v : Int) : Int := if inR v (-60) 60 then v else 0
theorem fsl6Speed {k : Nat} (v : Int) (hk : 2 ≤ k) : Fsl6Speed k v = some (speed v) := by
  obtain ⟨k, rfl⟩ := pred (d := 1) hk
  rw [esl6Speed, fsl1In _ _ _ (by omega), Option.bind_some]
  unfold speed
  cases inR v (-60) 60 <;> rfl
theorem fispeedOf {k : Nat} (s : Int × Int × Int × Int) (hk : 2 ≤ k) : FispeedOf k s = some (speed s.2.2.1) := by
  obtain ⟨k, rfl⟩ := pred (d := 1) hk
  rw [eispeedOf, fiInRange _ _ _ (by omega), Option.bind_some]
  unfold speed
  cases inR s.2.2.1 (-60) 60 <;> rfl
def placeAt (s : Int × Int × Int × Int) (t : Int) : Int := angle (IntKind.i64.wrap (angle s.2.1 + IntKind.i64.wrap (speed s.2.2.1 * (if inR t 0 1000 then t else 0))))
theorem fsPlaceAt {k : Nat} (s : Int × Int × Int × Int) (t : Int) (hk : 4 ≤ k) : FsPlaceAt k s t = some (placeAt s t) := by
  obtain ⟨k, rfl⟩ := pred (d := 3) hk
  simp only [esPlaceAt, fsl1In t 0 1000 (show 1 ≤ k by omega), Option.bind_some, fsAngleOf s.2.1 (show 3 ≤ k by omega), fsl6Speed s.2.2.1 (show 2 ≤ k by omega)]
  unfold placeAt
  cases inR t 0 1000
  · simp only [Bool.not_false, if_true, Bool.false_eq_true, if_false]
    rw [fsAngleOf _ (by omega)]
    rfl
  · simp only [Bool.not_true, if_true, Bool.false_eq_true, if_false]
    rw [fsAngleOf _ (by omega)]
    rfl
theorem fiPlaceAt {k : Nat} (s : Int × Int × Int × Int) (t : Int) (hk : 4 ≤ k) : FiPlaceAt k s t = some (placeAt s t) := by
  obtain ⟨k, rfl⟩ := pred (d := 3) hk
  simp only [eiPlaceAt, fiInRange t 0 1000 (show 1 ≤ k by omega), Option.bind_some, fiAngleOf s.2.1 (show 3 ≤ k by omega), fispeedOf s (show 2 ≤ k by omega)]
  unfold placeAt
  cases inR t 0 1000
  · simp only [Bool.not_false, if_true, Bool.false_eq_true, if_false]
    rw [fiAngleOf _ (by omega)]
    rfl
  · simp only [Bool.not_true, if_true, Bool.false_eq_true, if_false]
    rw [fiAngleOf _ (by omega)]
    rfl
def widen (x : Int × Int) (by_ : Int) : Int × Int := if inR by_ 0 360 && inR x.2 0 359 then (angle (IntKind.i64.wrap (angle x.1 - by_)), mn (IntKind.i64.wrap (x.2 + IntKind.i64.wrap (2 * by_))) 359) else (angle x.1, x.2)
theorem fsWidenArc {k : Nat} (x : Int × Int) (n : Int) (hk : 4 ≤ k) : FsWidenArc k x n = some (widen x n) := by
  obtain ⟨k, rfl⟩ := pred (d := 3) hk
  simp only [esWidenArc, fsl1In n 0 360 (show 1 ≤ k by omega), fsl1In x.2 0 359 (show 1 ≤ k by omega), Option.bind_some, fsAngleOf x.1 (show 3 ≤ k by omega), fsAngleOf (IntKind.i64.wrap (angle x.1 - n)) (show 3 ≤ k by omega)]
  obtain ⟨k, rfl⟩ := pred (d := 2) (show 3 ≤ k by omega)
  rw [esMin]
  unfold widen mn
  cases inR n 0 360
  · rfl
  · cases inR x.2 0 359
    · rfl
    · simp only [Bool.not_true, beq_self_eq_true, if_true, Bool.false_eq_true, if_false, Bool.and_self]
      generalize IntKind.i64.wrap (x.2 + IntKind.i64.wrap (2 * n)) = z
      by_cases h1 : z < 359
      · rw [if_pos (by simpa using h1), Option.bind_some, if_neg (by omega)]
      · rw [if_neg (by simpa using h1), Option.bind_some]
        by_cases h2 : 359 < z
        · rw [if_pos h2]
        · rw [if_neg h2]
          have : z = 359 := by omega
          rw [this]
theorem fiisWidth {k : Nat} (n : Int) (hk : 2 ≤ k) : FiisWidth k n = some (inR n 0 359) := by
  obtain ⟨k, rfl⟩ := pred (d := 1) hk
  rw [eiisWidth, fiInRange _ _ _ (by omega)]
  rfl
theorem fiWidenArc {k : Nat} (x : Int × Int) (n : Int) (hk : 4 ≤ k) : FiWidenArc k x n = some (widen x n) := by
  obtain ⟨k, rfl⟩ := pred (d := 3) hk
  simp only [eiWidenArc, fiInRange n 0 360 (show 1 ≤ k by omega), fiisWidth x.2 (show 2 ≤ k by omega), Option.bind_some, fiAngleOf x.1 (show 3 ≤ k by omega), fiAngleOf (IntKind.i64.wrap (angle x.1 - n)) (show 3 ≤ k by omega)]
  unfold widen
  cases inR n 0 360
  · rfl
  · cases inR x.2 0 359 <;> rfl
def placesAt (s : Int × Int × Int × Int) (t : Int) : Int × Int := widen (placeAt s t, 0) s.2.2.2
theorem fsPlacesAt {k : Nat} (s : Int × Int × Int × Int) (t : Int) (hk : 5 ≤ k) : FsPlacesAt k s t = some (placesAt s t) := by
  obtain ⟨k, rfl⟩ := pred (d := 4) hk
  rw [esPlacesAt, fsPlaceAt _ _ (by omega), Option.bind_some, fsWidenArc _ _ (by omega)]
  rfl
theorem fiPlacesAt {k : Nat} (s : Int × Int × Int × Int) (t : Int) (hk : 5 ≤ k) : FiPlacesAt k s t = some (placesAt s t) := by
  obtain ⟨k, rfl⟩ := pred (d := 4) hk
  rw [eiPlacesAt, fiPlaceAt _ _ (by omega), Option.bind_some, fiWidenArc _ _ (by omega)]
  rfl
/-- Where a satellite may be. -/
def satAt (s : TSky) (n t : Int) : Int × Int := match s.2.1[n.toNat]? with
  | some x => placesAt x t
  | none => (0, 0)
def isSat (s : TSky) (n : Int) : Bool := isIdx n (s.2.1.length : Int)
theorem fsNodeAt {k : Nat} (s : TSky) (n t : Int) (hl : s.2.1.length ≤ 140737488351232) (h : isSat s n = true) (hk : 6 ≤ k) : FsNodeAt k s n t = some (satAt s n t) := by
  obtain ⟨k, rfl⟩ := pred (d := 5) hk
  have h' : isIdx n (s.2.1.length : Int) = true := h
  obtain ⟨h0, h1⟩ := isIdx_pos h'
  rw [esNodeAt, fsl1In _ _ _ (by omega), inR_last _ hl, h', Option.bind_some, if_pos rfl, if_pos h0, ix_at h1, fsPlacesAt _ _ (by omega)]
  unfold satAt
  rw [List.getElem?_eq_getElem h1]
  rfl
theorem fiisSatellite {k : Nat} (s : TSky) (n : Int) (hl : s.2.1.length ≤ 140737488351232) (hk : 2 ≤ k) : FiisSatellite k s n = some (isSat s n) := by
  obtain ⟨k, rfl⟩ := pred (d := 1) hk
  rw [eiisSatellite, fiInRange _ _ _ (by omega), inR_last _ hl]
  rfl
theorem fiNodeAt {k : Nat} (s : TSky) (n t : Int) (hl : s.2.1.length ≤ 140737488351232) (h : isSat s n = true) (hk : 6 ≤ k) : FiNodeAt k s n t = some (satAt s n t) := by
  obtain ⟨k, rfl⟩ := pred (d := 5) hk
  have h' : isIdx n (s.2.1.length : Int) = true := h
  obtain ⟨h0, h1⟩ := isIdx_pos h'
  rw [eiNodeAt, fiisSatellite _ _ hl (by omega), h, Option.bind_some, if_pos rfl, if_pos h0, ix_at h1, fiPlacesAt _ _ (by omega)]
  unfold satAt
  rw [List.getElem?_eq_getElem h1]
  rfl
/-! ### MayDisturb, IsQuiet -/
/-! ### shadow -/
theorem fsMin {k : Nat} (a b : Int) (hk : 1 ≤ k) : FsMin k a b = some (mn a b) := by
  obtain ⟨k, rfl⟩ := pred (d := 0) hk
  rw [esMin]
  unfold mn
  by_cases h : b < a
  · rw [if_pos (by simpa using h), if_pos h]
  · rw [if_neg (by simpa using h), if_neg h]
theorem fsMax {k : Nat} (a b : Int) (hk : 1 ≤ k) : FsMax k a b = some (mx a b) := by
  obtain ⟨k, rfl⟩ := pred (d := 0) hk
  rw [esMax]
  unfold mx
  by_cases h : a < b
  · rw [if_pos (by simpa using h), if_pos h]
  · rw [if_neg (by simpa using h), if_neg h]
def middle (x : Int × Int) : Int := if inR x.2 0 359 then angle (IntKind.i64.wrap (angle x.1 + IntKind.i64.wrap (x.2.tdiv 2))) else angle x.1
theorem fsMiddleOf {k : Nat} (x : Int × Int) (hk : 4 ≤ k) : FsMiddleOf k x = some (middle x) := by
  obtain ⟨k, rfl⟩ := pred (d := 3) hk
  simp only [esMiddleOf, fsl1In x.2 0 359 (show 1 ≤ k by omega), Option.bind_some, fsAngleOf x.1 (show 3 ≤ k by omega)]
  unfold middle
  cases inR x.2 0 359
  · rfl
  · simp only [Bool.not_true, Bool.false_eq_true, if_false, if_true]
    rw [fsAngleOf _ (by omega)]
    rfl
theorem fiMiddleOf {k : Nat} (x : Int × Int) (hk : 4 ≤ k) : FiMiddleOf k x = some (middle x) := by
  obtain ⟨k, rfl⟩ := pred (d := 3) hk
  simp only [eiMiddleOf, fiisWidth x.2 (show 2 ≤ k by omega), Option.bind_some, fiAngleOf x.1 (show 3 ≤ k by omega)]
  unfold middle
  cases inR x.2 0 359
  · rfl
  · simp only [Bool.not_true, Bool.false_eq_true, if_false, if_true]
    rw [fiAngleOf _ (by omega)]
    rfl
def sunAt (s : TSky) (t : Int) : Int := placeAt (0, 0, s.2.2.2.2.2.2.1, 0) t
theorem fsSunAt {k : Nat} (s : TSky) (t : Int) (hk : 5 ≤ k) : FsSunAt k s t = some (sunAt s t) := by
  obtain ⟨k, rfl⟩ := pred (d := 4) hk
  rw [esSunAt, fsPlaceAt _ _ (by omega)]
  rfl
theorem fiSunAt {k : Nat} (s : TSky) (t : Int) (hk : 5 ≤ k) : FiSunAt k s t = some (sunAt s t) := by
  obtain ⟨k, rfl⟩ := pred (d := 4) hk
  rw [eiSunAt, fiPlaceAt _ _ (by omega)]
  rfl
def gap (a b : Int) : Int := mn (angle (IntKind.i64.wrap (angle a - angle b))) (IntKind.i64.wrap (360 - angle (IntKind.i64.wrap (angle a - angle b))))
theorem fsGapOf {k : Nat} (a b : Int) (hk : 4 ≤ k) : FsGapOf k a b = some (gap a b) := by
  obtain ⟨k, rfl⟩ := pred (d := 3) hk
  rw [esGapOf, fsAngleOf _ (by omega), Option.bind_some, fsAngleOf _ (by omega), Option.bind_some, fsAngleOf _ (by omega), Option.bind_some, fsMin _ _ (by omega)]
  rfl
theorem fiGapOf {k : Nat} (a b : Int) (hk : 4 ≤ k) : FiGapOf k a b = some (gap a b) := by
  obtain ⟨k, rfl⟩ := pred (d := 3) hk
  rw [eiGapOf, fiAngleOf _ (by omega), Option.bind_some, fiAngleOf _ (by omega), Option.bind_some, fiAngleOf _ (by omega), Option.bind_some]
  rfl
/-- 0: in the sun; 2: dark. -/
def shade (lim g w : Int) : Int := if decide (IntKind.i64.wrap (g - IntKind.i64.wrap (w.tdiv 2)) > lim) = true then 0 else if decide (IntKind.i64.wrap (g + IntKind.i64.wrap (w.tdiv 2)) ≤ lim) = true then 2 else 1
def shadow (s : TSky) (n t : Int) : Int := if isSat s n then shade s.2.2.2.2.2.2.2.1 (gap (middle (satAt s n t)) (IntKind.i64.wrap (sunAt s t + 180))) (satAt s n t).2 else 0
theorem fsShadowAt {k : Nat} (s : TSky) (n t : Int) (hl : s.2.1.length ≤ 140737488351232) (hk : 8 ≤ k) : FsShadowAt k s n t = some (shadow s n t) := by
  obtain ⟨k, rfl⟩ := pred (d := 7) hk
  rw [esShadowAt, fsl1In _ _ _ (by omega), inR_last _ hl, Option.bind_some]
  unfold shadow
  cases h : isSat s n with
  | false =>
    have h' : isIdx n (s.2.1.length : Int) = false := h
    rw [h']
    rfl
  | true =>
    have h' : isIdx n (s.2.1.length : Int) = true := h
    rw [h']
    simp only [Bool.not_true, Bool.false_eq_true, if_false, if_true]
    rw [fsNodeAt s n t hl h (by omega), Option.bind_some, fsMiddleOf _ (by omega), Option.bind_some, fsSunAt _ _ (by omega), Option.bind_some, fsGapOf _ _ (by omega), Option.bind_some]
    unfold shade
    split
    · rfl
    · split <;> rfl
theorem fiShadowAt {k : Nat} (s : TSky) (n t : Int) (hl : s.2.1.length ≤ 140737488351232) (hk : 8 ≤ k) : FiShadowAt k s n t = some (shadow s n t) := by
  obtain ⟨k, rfl⟩ := pred (d := 7) hk
  rw [eiShadowAt, fiisSatellite s n hl (by omega), Option.bind_some]
  unfold shadow
  cases h : isSat s n with
  | false => rfl
  | true =>
    simp only [Bool.not_true, Bool.false_eq_true, if_false, if_true]
    rw [fiNodeAt s n t hl h (by omega), Option.bind_some, fiMiddleOf _ (by omega), Option.bind_some, fiSunAt _ _ (by omega), Option.bind_some, fiGapOf _ _ (by omega), Option.bind_some]
    unfold shade
    split
    · rfl
    · split <;> rfl
/-! ### spans of light -/
def sput (xs : List (Int × Int)) (t : Int) : List (Int × Int) := match xs[xs.length - 1]? with
  | none => [(t, IntKind.i64.wrap (t + 1))]
  | some y => if y.2 == t then xs.set (xs.length - 1) (y.1, IntKind.i64.wrap (t + 1)) else xs ++ [(t, IntKind.i64.wrap (t + 1))]
theorem sput_len (xs : List (Int × Int)) (t : Int) : (sput xs t).length ≤ xs.length + 1 := by
  unfold sput
  split
  · simp
  · split <;> simp
theorem last_at {xs : List (Int × Int)} (h0 : 0 < xs.length) (h : xs.length ≤ 1048576) : IntKind.i64.wrap ((xs.length : Int) - 1) = ((xs.length - 1 : Nat) : Int) := by
  rw [wrap_id (by omega) (by omega)]
  omega
theorem fsl4Put {k : Nat} (xs : List (Int × Int)) (t : Int) (hl : xs.length ≤ 1048576) (hk : 1 ≤ k) : Fsl4Put k xs t = some (sput xs t) := by
  obtain ⟨k, rfl⟩ := pred (d := 0) hk
  rw [esl4Put]
  unfold sput
  by_cases h : 0 < xs.length
  · have e1 : decide ((xs.length : Int) > 0) = true := by simp; omega
    have e2 : ((xs.length - 1 : Nat) : Int).toNat = xs.length - 1 := by simp
    have h1 : xs.length - 1 < xs.length := by omega
    rw [e1, if_pos (show (true == true) = true from rfl), last_at h hl, if_pos (by omega), if_pos (by omega), e2, ix_at h1, List.getElem?_eq_getElem h1]
    simp only
    by_cases hq : (xs[xs.length - 1].2 == t) = true
    · rw [if_pos hq, if_pos hq, if_pos (by omega), if_pos (by omega), ix_at h1]
    · rw [if_neg hq, if_neg hq, if_pos (by simp; omega)]
  · have e1 : decide ((xs.length : Int) > 0) = false := decide_eq_false (by omega)
    have e0 : xs = [] := List.eq_nil_of_length_eq_zero (by omega)
    subst e0
    rfl
/-- The spans of the ticks i, i + 1, .. (m of them) where p holds. -/
def litFrom (p : Int → Bool) : List (Int × Int) → Nat → Nat → List (Int × Int)
  | xs, _, 0 => xs
  | xs, i, m + 1 => litFrom p (if p (i : Int) then sput xs (i : Int) else xs) (i + 1) m
theorem lit_len (p : Int → Bool) : ∀ (m i : Nat) (xs : List (Int × Int)), (litFrom p xs i m).length ≤ xs.length + m
  | 0, i, xs => by simp [litFrom]
  | m + 1, i, xs => by
    have := lit_len p m (i + 1) (if p (i : Int) then sput xs (i : Int) else xs)
    have h2 := sput_len xs (i : Int)
    simp only [litFrom]
    split at this <;> rename_i h <;> simp only [h] at * <;> simp at * <;> omega
def lit (s : TSky) (n T : Int) : List (Int × Int) := litFrom (fun t => shadow s n t == 0) [] 0 (mn T 1000).toNat
theorem lit_le (s : TSky) (n T : Int) : (lit s n T).length ≤ 1000 := by
  have h := lit_len (fun t => shadow s n t == 0) (mn T 1000).toNat 0 []
  have : mn T 1000 ≤ 1000 := by unfold mn; split <;> omega
  simp only [List.length_nil] at h
  unfold lit
  omega
theorem loop105 {k : Nat} (s : TSky) (n : Int) (hl : s.2.1.length ≤ 140737488351232) (hk : 8 ≤ k) (N : Nat) (hN : N ≤ 1000) : ∀ (m q i : Nat) (xs : List (Int × Int)), i + m = N → m < q → xs.length + m ≤ 1048576 →
    LsLitSpans_0 k (fun (v0 : Int × (List (Int × Int))) => some v0.2) (n, (N : Int), s) q ((i : Int), xs) = some (litFrom (fun t => shadow s n t == 0) xs i m)
  | 0, q + 1, i, xs, h, _, _ => by
    show (if decide ((i : Int) < (N : Int)) = true then _ else _) = _
    rw [if_neg (by simp; omega)]
    rfl
  | m + 1, q + 1, i, xs, h, hq, hx => by
    show (if decide ((i : Int) < (N : Int)) = true then (FsShadowAt k s n (i : Int)).bind _ else _) = _
    rw [if_pos (by simp; omega), fsShadowAt s n _ hl hk, Option.bind_some]
    have hw : IntKind.i64.wrap ((i : Int) + 1) = ((i + 1 : Nat) : Int) := by rw [wrap_id (by omega) (by omega)]; omega
    have h2 := sput_len xs (i : Int)
    simp only [litFrom]
    split
    · rw [fsl4Put xs _ (by omega) (by omega), Option.bind_some]
      simp only [hw]
      exact loop105 s n hl hk N hN m q (i + 1) _ (by omega) (by omega) (by omega)
    · simp only [hw]
      exact loop105 s n hl hk N hN m q (i + 1) _ (by omega) (by omega) (by omega)
theorem fsl8Ticks {k : Nat} (T : Int) (hk : 1 ≤ k) : Fsl8Ticks (k + 1) 0 T = some (0, ((mn T 1000).toNat : Int)) := by
  rw [esl8Ticks, fsMax _ _ hk, Option.bind_some, fsMin _ _ hk, Option.bind_some, fsMin _ _ hk, Option.bind_some, fsMax _ _ hk, Option.bind_some]
  congr 1
  refine Prod.ext ?_ ?_
  · rfl
  · show mx 0 (mn 1000 T) = _
    unfold mx mn
    split <;> split <;> (try split) <;> omega
theorem fsLitSpans {k : Nat} (s : TSky) (n T : Int) (hl : s.2.1.length ≤ 140737488351232) (hk : 1010 ≤ k) : FsLitSpans k s n 0 T = some (lit s n T) := by
  obtain ⟨k, rfl⟩ := pred (d := 1009) hk
  have hN : (mn T 1000).toNat ≤ 1000 := by
    have : mn T 1000 ≤ 1000 := by unfold mn; split <;> omega
    omega
  obtain ⟨k, rfl⟩ := pred (d := 1008) (show 1009 ≤ k by omega)
  rw [esLitSpans, fsl8Ticks _ (by omega), Option.bind_some]
  exact loop105 s n hl (by omega) _ hN (mn T 1000).toNat (k + 1) 0 [] (by omega) (by omega) (by simp; omega)
theorem fiLitSpans_1v {k : Nat} (s : TSky) (n t : Int) (hl : s.2.1.length ≤ 140737488351232) (hk : 9 ≤ k) : FiLitSpans_1v k t s.1 s.2.1 s.2.2.1 s.2.2.2.1 s.2.2.2.2.1 s.2.2.2.2.2.1 s.2.2.2.2.2.2.1 s.2.2.2.2.2.2.2.1 s.2.2.2.2.2.2.2.2.1 s.2.2.2.2.2.2.2.2.2 n = some (shadow s n t == 0) := by
  obtain ⟨k, rfl⟩ := pred (d := 8) hk
  rw [eiLitSpans_1v, fiShadowAt _ _ _ hl (by omega)]
  rfl
theorem loop191 {k : Nat} (s : TSky) (n T : Int) (hl : s.2.1.length ≤ 140737488351232) (hk : 9 ≤ k) (N : Nat) (hN : N ≤ 1000) (hT : (mn T 1000).toNat = N) : ∀ (m q i : Nat) (xs : List (Int × Int)), i + m = N → m < q → xs.length + m ≤ 1048576 →
    LispansWherev_iLitSpans_1_0 k (fun (v0 : Int × (List (Int × Int))) => some v0.2) (T, s.1, s.2.1, s.2.2.1, s.2.2.2.1, s.2.2.2.2.1, s.2.2.2.2.2.1, s.2.2.2.2.2.2.1, s.2.2.2.2.2.2.2.1, s.2.2.2.2.2.2.2.2.1, s.2.2.2.2.2.2.2.2.2, n) q ((i : Int), xs) = some (litFrom (fun t => shadow s n t == 0) xs i m)
  | 0, q + 1, i, xs, h, _, _ => by
    show (if decide ((i : Int) < mn T 1000) = true then _ else _) = _
    rw [if_neg (by simp; omega)]
    rfl
  | m + 1, q + 1, i, xs, h, hq, hx => by
    show (if decide ((i : Int) < mn T 1000) = true then (FiLitSpans_1v k (i : Int) s.1 s.2.1 s.2.2.1 s.2.2.2.1 s.2.2.2.2.1 s.2.2.2.2.2.1 s.2.2.2.2.2.2.1 s.2.2.2.2.2.2.2.1 s.2.2.2.2.2.2.2.2.1 s.2.2.2.2.2.2.2.2.2 n).bind _ else _) = _
    rw [if_pos (by simp; omega), fiLitSpans_1v s n _ hl hk, Option.bind_some]
    have hw : IntKind.i64.wrap ((i : Int) + 1) = ((i + 1 : Nat) : Int) := by rw [wrap_id (by omega) (by omega)]; omega
    have h2 := sput_len xs (i : Int)
    simp only [litFrom]
    by_cases hs : (shadow s n (i : Int) == 0) = true
    · rw [if_pos hs, hs, if_neg (by decide)]
      have ih := loop191 s n T hl hk N hN hT m q (i + 1) (sput xs (i : Int)) (by omega) (by omega) (by omega)
      rw [← ih]
      unfold sput
      by_cases h0 : 0 < xs.length
      · have h1 : xs.length - 1 < xs.length := by omega
        have e2 : ((xs.length - 1 : Nat) : Int).toNat = xs.length - 1 := by simp
        have e1 : decide (((xs.length - 1 : Nat) : Int) ≥ 0) = true := by simp
        rw [last_at h0 (by omega), e1, if_pos (show (true == true) = true from rfl), if_pos (by omega), if_pos (by omega), e2, ix_at h1, List.getElem?_eq_getElem h1]
        simp only
        by_cases hq : (xs[xs.length - 1].2 == (i : Int)) = true
        · rw [if_pos hq, if_pos (by omega), if_pos (by omega), ix_at h1, if_pos (by omega), if_pos (by omega), ix_at h1, if_pos hq, hw]
          have : xs[xs.length - 1].2 = (i : Int) := by simpa using hq
          rw [this, hw]
        · rw [if_neg hq, if_neg hq, if_pos (by simp; omega), hw]
      · have e0 : xs = [] := List.eq_nil_of_length_eq_zero (by omega)
        subst e0
        rw [if_neg (show ¬ (decide (IntKind.i64.wrap ((([] : List (Int × Int)).length : Int) - 1) ≥ 0) == true) = true from by decide), if_pos (by simp), hw]
        rfl
    · have hs' : (shadow s n (i : Int) == 0) = false := by simpa using hs
      rw [if_neg hs, hs', if_pos (by decide), hw]
      exact loop191 s n T hl hk N hN hT m q (i + 1) xs (by omega) (by omega) (by omega)
theorem fiLitSpans {k : Nat} (s : TSky) (n T : Int) (hl : s.2.1.length ≤ 140737488351232) (hk : 1011 ≤ k) : FiLitSpans k s n 0 T = some (lit s n T) := by
  obtain ⟨k, rfl⟩ := pred (d := 1010) hk
  have hN : (mn T 1000).toNat ≤ 1000 := by
    have : mn T 1000 ≤ 1000 := by unfold mn; split <;> omega
    omega
  obtain ⟨k, rfl⟩ := pred (d := 1009) (show 1010 ≤ k by omega)
  rw [eiLitSpans, eispansWherev_iLitSpans_1]
  have e : mx 0 0 = ((0 : Nat) : Int) := rfl
  rw [e, loop191 s n T hl (by omega) _ hN rfl (mn T 1000).toNat k 0 [] (by omega) (by omega) (by simp; omega)]
  rfl
def litOf (w : TW) (n : Int) : List (Int × Int) := lit w.1 n w.2.2.2.2.2.2.2.2.2.2.2.1
theorem fsLitOf {k : Nat} (w : TW) (n : Int) (hl : w.1.2.1.length ≤ 140737488351232) (hk : 1011 ≤ k) : FsLitOf k w n = some (litOf w n) := by
  obtain ⟨k, rfl⟩ := pred (d := 1010) hk
  rw [esLitOf, fsLitSpans _ _ _ hl (by omega)]
  rfl
theorem fiLitOf {k : Nat} (w : TW) (n : Int) (hl : w.1.2.1.length ≤ 140737488351232) (hk : 1012 ≤ k) : FiLitOf k w n = some (litOf w n) := by
  obtain ⟨k, rfl⟩ := pred (d := 1011) hk
  rw [eiLitOf, fiLitSpans _ _ _ hl (by omega)]
  rfl
/-! ### is it light -/
def inSpans (xs : List (Int × Int)) (t : Int) : Bool := xs.any fun s => inSpan s t
theorem fsInSpans {k : Nat} (xs : List (Int × Int)) (t : Int) (hl : xs.length ≤ 140737488351232) (hk : xs.length + 4 ≤ k) : FsInSpans k xs t = some (inSpans xs t) := by
  obtain ⟨k, rfl⟩ := pred (d := 0) (show 1 ≤ k by omega)
  refine (esInSpans k xs t).trans (row_i (a := xs) (fun _ l => some (inSpans l t)) (fun _ _ => rfl) hl rfl (fun m i x r h0 hn hw hi hx ih => ?_) (by omega))
  dsimp only
  rw [hw, ih, fsInSpan _ _ (by omega), Option.bind_some]
  unfold inSpans
  rw [List.any_cons]
  cases inSpan x t <;> rfl
def tickRow (p : Nat → Bool) : List Bool := (List.range 1000).map p
theorem tick_set (p : Nat → Bool) {j : Nat} (hj : j < 1000) : (tickRow p).set j true = tickRow fun u => p u || u == j := by
  unfold tickRow
  apply List.ext_getElem
  · simp
  · intro u h1 h2
    simp only [List.length_set, List.length_map, List.length_range] at h1
    rw [List.getElem_set]
    simp only [List.getElem_map, List.getElem_range]
    by_cases e : j = u
    · subst e; simp
    · rw [if_neg e]
      have : (u == j) = false := by simp; omega
      rw [this, Bool.or_false]
theorem loop256_1 {k : Nat} {R : Type} (X : Viticks_1 → Option R) (c : Citicks_1) (N : Nat) (hN : N ≤ 1000) (hc : c.2.2.2.2 = (N : Int)) : ∀ (m q i : Nat) (p : Nat → Bool), i + m = N → m < q →
    Liticks_1 k X c q ((i : Int), tickRow p) = X ((N : Int), tickRow fun u => p u || (decide (i ≤ u) && decide (u < N)))
  | 0, q + 1, i, p, h, _ => by
    show (if decide ((i : Int) < c.2.2.2.2) = true then _ else _) = _
    rw [hc, if_neg (by simp; omega)]
    have e : (fun u => p u || (decide (i ≤ u) && decide (u < N))) = p := by
      funext u
      have : (decide (i ≤ u) && decide (u < N)) = false := by simp; omega
      rw [this, Bool.or_false]
    have hi : i = N := by omega
    rw [e, hi]
  | m + 1, q + 1, i, p, h, hq => by
    show (if decide ((i : Int) < c.2.2.2.2) = true then (if 0 ≤ (i : Int) then (if (i : Int) < ((tickRow p).length : Int) then ix (tickRow p) (i : Int).toNat fun _ => Liticks_1 k X c q ((IntKind.i64.wrap ((i : Int) + 1)), ((tickRow p).set (i : Int).toNat true)) else none) else none) else _) = _
    have hlen : (tickRow p).length = 1000 := by simp [tickRow]
    have hn : (i : Int).toNat = i := by simp
    rw [hc, if_pos (by simp; omega), if_pos (by omega), if_pos (by omega), hn, ix_at (by omega), tick_set p (by omega)]
    have hw : IntKind.i64.wrap ((i : Int) + 1) = ((i + 1 : Nat) : Int) := by rw [wrap_id (by omega) (by omega)]; omega
    rw [hw, loop256_1 X c N hN hc m q (i + 1) _ (by omega) (by omega)]
    congr 2
    refine congrArg tickRow (funext fun u => ?_)
    by_cases e : u = i
    · subst e
      have : decide (u < N) = true := by simp; omega
      simp [this]
    · have e1 : (u == i) = false := by simp [e]
      have e2 : decide (i + 1 ≤ u) = decide (i ≤ u) := by
        by_cases h : i ≤ u
        · rw [decide_eq_true h, decide_eq_true (by omega)]
        · rw [decide_eq_false h, decide_eq_false (by omega)]
      rw [e1, e2, Bool.or_false]
theorem fiticks {k : Nat} (xs : List (Int × Int)) (hl : xs.length ≤ 140737488351232) (hk : xs.length + 1010 ≤ k) : Fiticks k xs = some (tickRow fun u => inSpans xs (u : Int)) := by
  obtain ⟨k, rfl⟩ := pred (d := 0) (show 1 ≤ k by omega)
  have e0 : List.replicate (1000 : Int).toNat false = tickRow fun _ => false := by
    unfold tickRow
    rw [List.map_const']
    simp
  refine (eiticks k xs).trans ?_
  rw [e0]
  refine (row_s0 (S := Nat → Bool) (a := xs) (fun p i => (i, tickRow p)) (fun p _ l => some (tickRow fun u => p u || inSpans l (u : Int))) (fun _ _ _ => rfl) hl (fun p => by simp [inSpans]) (fun m i p x r h0 hn hw hi hx ih => ?_) (by omega) (fun _ => false)).trans ?_
  · dsimp only
    rw [fiIsSpan _ (by omega), Option.bind_some, hw]
    cases hs : isSpan x with
    | false =>
      rw [if_neg (by decide), ih]
      have e : ∀ u : Int, inSpan x u = false := fun u => by unfold inSpan; rw [hs]; rfl
      simp [inSpans, e]
    | true =>
      have hs' := hs
      unfold isSpan at hs'
      simp only [Bool.and_eq_true, decide_eq_true_eq] at hs'
      rw [if_pos rfl]
      obtain ⟨a, ha⟩ : ∃ a : Nat, x.1 = (a : Int) := ⟨x.1.toNat, by omega⟩
      obtain ⟨b, hb⟩ : ∃ b : Nat, x.2 = (b : Int) := ⟨x.2.toNat, by omega⟩
      rw [ha, loop256_1 _ _ b (by omega) hb (b - a) _ a p (by omega) (by omega)]
      simp only
      rw [ih]
      congr 1
      refine congrArg tickRow (funext fun u => ?_)
      have e : inSpan x (u : Int) = (decide (a ≤ u) && decide (u < b)) := by
        unfold inSpan
        rw [hs, ha, hb, Bool.true_and]
        congr 1
        · by_cases h : a ≤ u
          · rw [decide_eq_true h, decide_eq_true (by omega)]
          · rw [decide_eq_false h, decide_eq_false (by omega)]
        · by_cases h : u < b
          · rw [decide_eq_true h, decide_eq_true (by omega)]
          · rw [decide_eq_false h, decide_eq_false (by omega)]
      unfold inSpans
      rw [List.any_cons, e, Bool.or_assoc]
  · simp
end Go.Proofs.YtonfioejmldhcaaGreat.World
namespace Go.Proofs.YtonfioejmldhcaaGreat.World
open Go Go.V Go.Proofs
set_option linter.unusedVariables false
set_option linter.unusedSimpArgs false
set_option maxRecDepth 100000
/-! ### TrailOf -/
def trailStep (id : Int) (out : List Int) (x : Int × Int × Int × Int) : List Int := if x.2.2.2 != id then out else if out.length = 0 then [x.2.1, x.2.2.1] else out ++ [x.2.2.1]
def trail (w : TW) (id : Int) : List Int := (qLog w).foldl (trailStep id) []
theorem trail_len (id : Int) (x : Int × Int × Int × Int) (out : List Int) : (trailStep id out x).length ≤ out.length + 2 := by
  unfold trailStep
  split
  · omega
  · split
    · simp
    · simp
theorem trails_len (id : Int) : ∀ (l : List (Int × Int × Int × Int)) (out : List Int), (l.foldl (trailStep id) out).length ≤ out.length + 2 * l.length
  | [], out => by simp
  | x :: l, out => by
    have := trails_len id l (trailStep id out x)
    have := trail_len id x out
    simp only [List.foldl_cons, List.length_cons]
    omega
theorem fsTrailOf {k : Nat} (w : TW) (id : Int) (hl : (qLog w).length ≤ 1048576) (hk : (qLog w).length + 2 ≤ k) : FsTrailOf k w id = some (trail w id) := by
  obtain ⟨k, rfl⟩ := pred (d := 0) (show 1 ≤ k by omega)
  refine (esTrailOf k w id).trans (row_inv0 (a := qLog w) (fun (s : List Int) i => (i, s)) (fun s _ l => some (l.foldl (trailStep id) s)) (fun s i => s.length ≤ 2 * i) (fun _ _ _ => rfl) (by omega) (fun _ _ => rfl) (fun m i s x r hI h0 hn hw hi hx ih => ?_) (by omega) [] (by simp))
  have hs := ih (trailStep id s x) (by have := trail_len id x s; omega)
  dsimp only
  simp only [hw, hn, ix_some hx, if_pos h0, List.foldl_cons]
  unfold trailStep at hs ⊢
  by_cases h1 : (x.2.2.2 != id) = true
  · rw [if_pos h1] at hs ⊢
    rw [if_pos h1, hs]
  · rw [if_neg h1] at hs ⊢
    rw [if_neg h1]
    by_cases h2 : s.length = 0
    · obtain rfl : s = [] := List.eq_nil_of_length_eq_zero h2
      simp only [List.length_nil, if_true] at hs ⊢
      rw [if_pos (by decide), if_pos (by simp), if_pos (by simp)]
      exact hs
    · rw [if_neg h2] at hs ⊢
      rw [if_neg (by simpa using h2), if_pos (by simp; omega)]
      exact hs
theorem fiTrailOf {k : Nat} (w : TW) (id : Int) (hl : (qLog w).length ≤ 1048576) (hk : (qLog w).length + 2 ≤ k) : FiTrailOf k w id = some (trail w id) := by
  obtain ⟨k, rfl⟩ := pred (d := 0) (show 1 ≤ k by omega)
  refine (eiTrailOf k w id).trans (row_inv0 (a := qLog w) (fun (s : List Int) i => (i, s)) (fun s _ l => some (l.foldl (trailStep id) s)) (fun s i => s.length ≤ 2 * i) (fun _ _ _ => rfl) (by omega) (fun _ _ => rfl) (fun m i s x r hI h0 hn hw hi hx ih => ?_) (by omega) [] (by simp))
  have hs := ih (trailStep id s x) (by have := trail_len id x s; omega)
  dsimp only
  simp only [hw, List.foldl_cons]
  unfold trailStep at hs ⊢
  by_cases h1 : (x.2.2.2 != id) = true
  · rw [if_pos h1] at hs ⊢
    rw [if_pos h1, hs]
  · rw [if_neg h1] at hs ⊢
    rw [if_neg h1]
    by_cases h2 : s.length = 0
    · obtain rfl : s = [] := List.eq_nil_of_length_eq_zero h2
      simp only [List.length_nil, if_true] at hs ⊢
      rw [if_pos (by decide), if_pos (by simp), if_pos (by simp)]
      exact hs
    · rw [if_neg h2] at hs ⊢
      rw [if_neg (by simpa using h2), if_pos (by simp; omega)]
      exact hs
/-! ### DeadNow -/
def cutAt (a b t : Int) (x : Int × Int × Int × Int) : Bool := ((x.1 == a && x.2.1 == b) || (x.1 == b && x.2.1 == a)) && inSpan x.2.2 t
def cut (l : List (Int × Int × Int × Int)) (a b t : Int) : Bool := l.any (cutAt a b t) || (down l a t || down l b t)
theorem fsIsCut {k : Nat} (l : List (Int × Int × Int × Int)) (a b t : Int) (hl : l.length ≤ 140737488351232) (hk : l.length + 6 ≤ k) : FsIsCut k l a b t = some (cut l a b t) := by
  obtain ⟨k, rfl⟩ := pred (d := 0) (show 1 ≤ k by omega)
  rw [esIsCut, fsIsDown l a t hl (by omega), fsIsDown l b t hl (by omega)]
  simp only [Option.bind_some]
  refine (row_i (a := l) (fun _ m => some (m.any (cutAt a b t) || (down l a t || down l b t))) (fun _ _ => rfl) hl ?_ (fun m i x r h0 hn hw hi hx ih => ?_) (by omega))
  · cases down l a t <;> cases down l b t <;> rfl
  · dsimp only
    simp only [hw, ih, hn, ix_some hx, if_pos h0, List.any_cons, fsl31Now x t (show 3 ≤ k by omega), Option.bind_some]
    unfold cutAt
    cases x.1 == a <;> cases x.2.1 == b <;> cases x.1 == b <;> cases x.2.1 == a <;> cases inSpan x.2.2 t <;> rfl
theorem fiIsCut {k : Nat} (l : List (Int × Int × Int × Int)) (a b t : Int) (hl : l.length ≤ 140737488351232) (hk : l.length + 6 ≤ k) : FiIsCut k l a b t = some (cut l a b t) := by
  obtain ⟨k, rfl⟩ := pred (d := 0) (show 1 ≤ k by omega)
  rw [eiIsCut, fiIsDown l a t hl (by omega), fiIsDown l b t hl (by omega)]
  simp only [Option.bind_some]
  refine (row_i (a := l) (fun _ m => some (m.any (cutAt a b t) || (down l a t || down l b t))) (fun _ _ => rfl) hl ?_ (fun m i x r h0 hn hw hi hx ih => ?_) (by omega))
  · cases down l a t <;> cases down l b t <;> rfl
  · dsimp only
    simp only [hw, ih, List.any_cons, fiInSpan x.2.2 t (show 2 ≤ k by omega), Option.bind_some]
    unfold cutAt
    cases x.1 == a <;> cases x.2.1 == b <;> cases x.1 == b <;> cases x.2.1 == a <;> cases inSpan x.2.2 t <;> rfl
/-- The nodes from i on, m of them, that node n is cut from. -/
def deadFrom (l : List (Int × Int × Int × Int)) (n t : Int) : Nat → Nat → List Int → List Int
  | 0, _, out => out
  | m + 1, i, out => deadFrom l n t m (i + 1) (if ((i : Int) != n && cut l n (i : Int) t) = true then out ++ [(i : Int)] else out)
def dead (l : List (Int × Int × Int × Int)) (n t nodes : Int) : List Int := if inR nodes 1 12 then deadFrom l n t nodes.toNat 0 [] else []
theorem deadFrom_len (l : List (Int × Int × Int × Int)) (n t : Int) : ∀ (m i : Nat) (out : List Int), (deadFrom l n t m i out).length ≤ out.length + m
  | 0, i, out => by simp [deadFrom]
  | m + 1, i, out => by
    have := deadFrom_len l n t m (i + 1) (if ((i : Int) != n && cut l n (i : Int) t) = true then out ++ [(i : Int)] else out)
    simp only [deadFrom]
    split at this
    · rename_i h; rw [if_pos h]; simp at this; omega
    · rename_i h; rw [if_neg h]; omega
theorem dead_len (l : List (Int × Int × Int × Int)) (n t nodes : Int) : (dead l n t nodes).length ≤ 12 := by
  unfold dead
  split
  · rename_i h
    have := deadFrom_len l n t nodes.toNat 0 []
    unfold inR at h
    simp at h this
    omega
  · simp
theorem inR_bd {n a b : Int} (h : inR n a b = true) : a ≤ n ∧ n ≤ b := by unfold inR at h; simpa using h
theorem fiisNumber {k : Nat} (n : Int) (hk : 2 ≤ k) : FiisNumber k n = some (inR n 1 12) := by
  obtain ⟨k, rfl⟩ := pred (d := 1) hk
  rw [eiisNumber, fiInRange _ _ _ (by omega)]
  rfl
theorem fsDeadFor {k : Nat} (l : List (Int × Int × Int × Int)) (n t nodes : Int) (hl : l.length ≤ 140737488351232) (hk : l.length + 30 ≤ k) : FsDeadFor k l n t nodes = some (dead l n t nodes) := by
  obtain ⟨k, rfl⟩ := pred (d := 0) (show 1 ≤ k by omega)
  rw [esDeadFor, fsl1In _ _ _ (by omega), Option.bind_some]
  unfold dead
  cases h : inR nodes 1 12 with
  | false => rfl
  | true =>
    obtain ⟨h1, h2⟩ := inR_bd h
    rw [if_neg (by decide), if_pos rfl]
    have hN : ((nodes.toNat : Nat) : Int) = nodes := by omega
    refine up_inv0 (len := nodes.toNat) (fun (s : List Int) i => (i, s)) (fun s i => some (deadFrom l n t (nodes.toNat - i) i s)) (fun s i => s.length ≤ i) (by omega) (fun m i s hI hi h0 hn hw ih => ?_) (by omega) [] (by simp)
    show BsDeadFor_0 k _ _ _ _ = _
    unfold BsDeadFor_0
    dsimp only
    by_cases hlt : i < nodes.toNat
    · have hm : nodes.toNat - i = (nodes.toNat - (i + 1)) + 1 := by omega
      rw [if_pos (by simp; omega), fsIsCut l n (i : Int) t hl (by omega), hw, hm, deadFrom]
      cases hc : ((i : Int) != n) with
      | false =>
        rw [if_neg (by decide), Bool.false_and, if_neg (by decide)]
        exact ih hlt s (by omega)
      | true =>
        rw [if_pos (by decide), Option.bind_some, Bool.true_and]
        cases cut l n (i : Int) t with
        | false =>
          rw [if_neg (by decide), if_neg (by decide)]
          exact ih hlt s (by omega)
        | true =>
          rw [if_pos rfl, if_pos rfl, if_pos (by simp; omega)]
          exact ih hlt _ (by simp; omega)
    · have : i = nodes.toNat := by omega
      subst this
      rw [if_neg (by simp; omega), Nat.sub_self]
      rfl
theorem fiDeadFor {k : Nat} (l : List (Int × Int × Int × Int)) (n t nodes : Int) (hl : l.length ≤ 140737488351232) (hk : l.length + 30 ≤ k) : FiDeadFor k l n t nodes = some (dead l n t nodes) := by
  obtain ⟨k, rfl⟩ := pred (d := 0) (show 1 ≤ k by omega)
  rw [eiDeadFor, fiisNumber _ (by omega), Option.bind_some]
  unfold dead
  cases h : inR nodes 1 12 with
  | false => rfl
  | true =>
    obtain ⟨h1, h2⟩ := inR_bd h
    rw [if_neg (by decide), if_pos rfl]
    have hN : ((nodes.toNat : Nat) : Int) = nodes := by omega
    refine up_inv0 (len := nodes.toNat) (fun (s : List Int) i => (i, s)) (fun s i => some (deadFrom l n t (nodes.toNat - i) i s)) (fun s i => s.length ≤ i) (by omega) (fun m i s hI hi h0 hn hw ih => ?_) (by omega) [] (by simp)
    show BiDeadFor_0 k _ _ _ _ = _
    unfold BiDeadFor_0
    dsimp only
    by_cases hlt : i < nodes.toNat
    · have hm : nodes.toNat - i = (nodes.toNat - (i + 1)) + 1 := by omega
      rw [if_pos (by simp; omega), fiIsCut l n (i : Int) t hl (by omega), hw, hm, deadFrom]
      cases hc : ((i : Int) != n) with
      | false =>
        rw [if_neg (by decide), Bool.false_and, if_neg (by decide)]
        exact ih hlt s (by omega)
      | true =>
        rw [if_pos (by decide), Option.bind_some, Bool.true_and]
        cases cut l n (i : Int) t with
        | false =>
          rw [if_neg (by decide), if_neg (by decide)]
          exact ih hlt s (by omega)
        | true =>
          rw [if_pos rfl, if_pos rfl, if_pos (by simp; omega)]
          exact ih hlt _ (by simp; omega)
    · have : i = nodes.toNat := by omega
      subst this
      rw [if_neg (by simp; omega), Nat.sub_self]
      rfl
def deadNow (w : TW) (n : Int) : List Int := dead w.2.2.2.2.2.2.2.2.2.1 n w.2.2.2.2.2.2.2.2.2.2.1 w.2.1.1
theorem fsDeadNow {k : Nat} (w : TW) (n : Int) (hl : w.2.2.2.2.2.2.2.2.2.1.length ≤ 140737488351232) (hk : w.2.2.2.2.2.2.2.2.2.1.length + 31 ≤ k) : FsDeadNow k w n = some (deadNow w n) := by
  obtain ⟨k, rfl⟩ := pred (d := 0) (show 1 ≤ k by omega)
  rw [esDeadNow, fsDeadFor _ _ _ _ hl (by omega)]
  rfl
theorem fiDeadNow {k : Nat} (w : TW) (n : Int) (hl : w.2.2.2.2.2.2.2.2.2.1.length ≤ 140737488351232) (hk : w.2.2.2.2.2.2.2.2.2.1.length + 31 ≤ k) : FiDeadNow k w n = some (deadNow w n) := by
  obtain ⟨k, rfl⟩ := pred (d := 0) (show 1 ≤ k by omega)
  rw [eiDeadNow, fiDeadFor _ _ _ _ hl (by omega)]
  rfl
/-! ### laws whose result is a row -/
theorem lFnExactTrailOf (w : TW) (n : Int) (hr : rowsLe 140737488351232 sLWorld w) : ∃ k, FlFnExactTrailOf k w n = some true := by
  refine ⟨3 * szT sLWorld w + 3000, ?_⟩
  rw [elFnExactTrailOf, zlszWorld _ w 1048576 hr (by omega) (by omega) (by omega), Option.bind_some]
  by_cases hz : szT sLWorld w ≤ 1048576
  · rw [szR_pos (by omega), if_neg (by simp; omega)]
    have hrow := rows_le sLWorld w _ (Nat.le_refl _)
    have h1 : (qLog w).length ≤ szT sLWorld w := (rowsLe_row hrow.2.2.2.2.2.2.2.2.2.2.2.2.2).1
    have e60 : szT sWorld w = szT sLWorld w := rfl
    have hres : (trail w n).length ≤ 2 * (qLog w).length := by have := trails_len n (qLog w) []; simp at this; exact this
    have er : szT (.l 3 (.i .i64)) (trail w n) = (trail w n).length := szT_row (e := 3) (sh := .i .i64) rfl _
    have tw := tltoWorld (3 * szT sLWorld w + 2999) w hz (by omega)
    have hs := fsTrailOf (k := 3 * szT sLWorld w + 2999) w n (by omega) (by omega)
    have hi := fiTrailOf (k := 3 * szT sLWorld w + 2999) w n (by omega) (by omega)
    have qw := qleqWorld (3 * szT sLWorld w + 2999) w (by rw [e60]; omega) (by rw [e60]; omega)
    have qr := qleqIntS (3 * szT sLWorld w + 2999) (trail w n) (by rw [er]; omega) (by rw [er]; omega)
    have mw := mlmarkWorld (3 * szT sLWorld w + 2999) w 1 (by omega) (by rw [e60]; omega) (by rw [e60]; omega) (by rw [e60]; omega)
    have mr := mlmarkIntS (3 * szT sLWorld w + 2999) (trail w n) 1 (by omega) (by rw [er]; omega) (by rw [er]; omega) (by rw [er]; omega)
    have hh := hlheldIntS (3 * szT sLWorld w + 2999) (trail w n) 1 (by omega) (by rw [er]; omega) (by rw [er]; omega) (by rw [er]; omega)
    have nW : decide ((mkT sWorld w 1).2 < 0) = false := by have := mkT_le sWorld w 1 rfl; rw [decide_eq_false]; omega
    have nR : decide ((mkT (.l 3 (.i .i64)) (trail w n) 1).2 < 0) = false := by have := mkT_le (.l 3 (.i .i64)) (trail w n) 1 rfl; rw [decide_eq_false]; omega
    simp only [tw, hs, hi, qw, qr, mw, mr, hh, Option.bind_some, nW, nR, Bool.not_true, Bool.false_eq_true, if_false, beq_self_eq_true, if_true, bne_self_eq_false]
  · rw [szR_neg (by omega), if_pos (by decide)]
theorem lFnExactDeadNow (w : TW) (n : Int) (hr : rowsLe 140737488351232 sLWorld w) : ∃ k, FlFnExactDeadNow k w n = some true := by
  refine ⟨3 * szT sLWorld w + 3000, ?_⟩
  rw [elFnExactDeadNow, zlszWorld _ w 1048576 hr (by omega) (by omega) (by omega), Option.bind_some]
  by_cases hz : szT sLWorld w ≤ 1048576
  · rw [szR_pos (by omega), if_neg (by simp; omega)]
    have hrow := rows_le sLWorld w _ (Nat.le_refl _)
    have h1 : w.2.2.2.2.2.2.2.2.2.1.length ≤ szT sLWorld w := (rowsLe_row hrow.2.2.2.2.2.2.2.2.2.1).1
    have e60 : szT sWorld w = szT sLWorld w := rfl
    have hres : (deadNow w n).length ≤ 12 := dead_len _ _ _ _
    have er : szT (.l 3 (.i .i64)) (deadNow w n) = (deadNow w n).length := szT_row (e := 3) (sh := .i .i64) rfl _
    have tw := tltoWorld (3 * szT sLWorld w + 2999) w hz (by omega)
    have hs := fsDeadNow (k := 3 * szT sLWorld w + 2999) w n (by omega) (by omega)
    have hi := fiDeadNow (k := 3 * szT sLWorld w + 2999) w n (by omega) (by omega)
    have qw := qleqWorld (3 * szT sLWorld w + 2999) w (by rw [e60]; omega) (by rw [e60]; omega)
    have qr := qleqIntS (3 * szT sLWorld w + 2999) (deadNow w n) (by rw [er]; omega) (by rw [er]; omega)
    have mw := mlmarkWorld (3 * szT sLWorld w + 2999) w 1 (by omega) (by rw [e60]; omega) (by rw [e60]; omega) (by rw [e60]; omega)
    have mr := mlmarkIntS (3 * szT sLWorld w + 2999) (deadNow w n) 1 (by omega) (by rw [er]; omega) (by rw [er]; omega) (by rw [er]; omega)
    have hh := hlheldIntS (3 * szT sLWorld w + 2999) (deadNow w n) 1 (by omega) (by rw [er]; omega) (by rw [er]; omega) (by rw [er]; omega)
    have nW : decide ((mkT sWorld w 1).2 < 0) = false := by have := mkT_le sWorld w 1 rfl; rw [decide_eq_false]; omega
    have nR : decide ((mkT (.l 3 (.i .i64)) (deadNow w n) 1).2 < 0) = false := by have := mkT_le (.l 3 (.i .i64)) (deadNow w n) 1 rfl; rw [decide_eq_false]; omega
    simp only [tw, hs, hi, qw, qr, mw, mr, hh, Option.bind_some, nW, nR, Bool.not_true, Bool.false_eq_true, if_false, beq_self_eq_true, if_true, bne_self_eq_false]
  · rw [szR_neg (by omega), if_pos (by decide)]
theorem lFnExactLitOf (w : TW) (n : Int) (hr : rowsLe 140737488351232 sLWorld w) : ∃ k, FlFnExactLitOf k w n = some true := by
  refine ⟨3 * szT sLWorld w + 5000, ?_⟩
  rw [elFnExactLitOf, zlszWorld _ w 1048576 hr (by omega) (by omega) (by omega), Option.bind_some]
  by_cases hz : szT sLWorld w ≤ 1048576
  · rw [szR_pos (by omega), if_neg (by simp; omega)]
    have hrow := rows_le sLWorld w _ (Nat.le_refl _)
    have h1 : w.1.2.1.length ≤ szT sLWorld w := (rowsLe_row hrow.1.2.1).1
    have e60 : szT sWorld w = szT sLWorld w := rfl
    have hres : (litOf w n).length ≤ 1000 := lit_le _ _ _
    have er : szT (.l 151 sI2) (litOf w n) = (litOf w n).length := szT_row (e := 151) (sh := sI2) rfl _
    have tw := tltoWorld (3 * szT sLWorld w + 4999) w hz (by omega)
    have hs := fsLitOf (k := 3 * szT sLWorld w + 4999) w n (by omega) (by omega)
    have hi := fiLitOf (k := 3 * szT sLWorld w + 4999) w n (by omega) (by omega)
    have qw := qleqWorld (3 * szT sLWorld w + 4999) w (by rw [e60]; omega) (by rw [e60]; omega)
    have qr := qleqSpanS (3 * szT sLWorld w + 4999) (litOf w n) (by rw [er]; omega) (by rw [er]; omega)
    have mw := mlmarkWorld (3 * szT sLWorld w + 4999) w 1 (by omega) (by rw [e60]; omega) (by rw [e60]; omega) (by rw [e60]; omega)
    have mr := mlmarkSpanS (3 * szT sLWorld w + 4999) (litOf w n) 1 (by omega) (by rw [er]; omega) (by rw [er]; omega) (by rw [er]; omega)
    have hh := hlheldSpanS (3 * szT sLWorld w + 4999) (litOf w n) 1 (by omega) (by rw [er]; omega) (by rw [er]; omega) (by rw [er]; omega)
    have nW : decide ((mkT sWorld w 1).2 < 0) = false := by have := mkT_le sWorld w 1 rfl; rw [decide_eq_false]; omega
    have nR : decide ((mkT (.l 151 sI2) (litOf w n) 1).2 < 0) = false := by have := mkT_le (.l 151 sI2) (litOf w n) 1 rfl; rw [decide_eq_false]; omega
    simp only [tw, hs, hi, qw, qr, mw, mr, hh, Option.bind_some, nW, nR, Bool.not_true, Bool.false_eq_true, if_false, beq_self_eq_true, if_true, bne_self_eq_false]
  · rw [szR_neg (by omega), if_pos (by decide)]
end Go.Proofs.YtonfioejmldhcaaGreat.World
namespace Go.Proofs.YtonfioejmldhcaaGreat.World
open Go Go.V Go.Proofs
open Go.ChangeShapes Go.WideShapes Go.ChangeAt Go.RowKit
set_option linter.unusedVariables false
set_option maxRecDepth 100000
theorem tyOk : ∀ t i, E.ty t = some i → TyOk E.P t i := by
  intro t i h
  replace h : ty t = some i := h
  unfold ty at h
  split at h <;> first | (cases h; done) | (cases h; exact ⟨by kernel_rfl, by kernel_rfl⟩)
theorem fn0Ok : ∀ f F, fn0 f = some F → E.P.funcs[f]? = some F ∧ F.name ≠ "runtime.NumGoroutine" ∧ ∀ c, F.body = some c → codeOk c = true := by
  intro f F h
  unfold fn0 at h
  split at h <;> first | (cases h; done) | (cases h; exact ⟨by kernel_rfl, of_decide_eq_true (by kernel_rfl), fun c hc => by cases hc; kernel_rfl⟩)
theorem fn1Ok : ∀ f F, fn1 f = some F → E.P.funcs[f]? = some F ∧ F.name ≠ "runtime.NumGoroutine" ∧ ∀ c, F.body = some c → codeOk c = true := by
  intro f F h
  unfold fn1 at h
  split at h <;> first | (cases h; done) | (cases h; exact ⟨by kernel_rfl, of_decide_eq_true (by kernel_rfl), fun c hc => by cases hc; kernel_rfl⟩)
theorem fn2Ok : ∀ f F, fn2 f = some F → E.P.funcs[f]? = some F ∧ F.name ≠ "runtime.NumGoroutine" ∧ ∀ c, F.body = some c → codeOk c = true := by
  intro f F h
  unfold fn2 at h
  split at h <;> first | (cases h; done) | (cases h; exact ⟨by kernel_rfl, of_decide_eq_true (by kernel_rfl), fun c hc => by cases hc; kernel_rfl⟩)
theorem fn3Ok : ∀ f F, fn3 f = some F → E.P.funcs[f]? = some F ∧ F.name ≠ "runtime.NumGoroutine" ∧ ∀ c, F.body = some c → codeOk c = true := by
  intro f F h
  unfold fn3 at h
  split at h <;> first | (cases h; done) | (cases h; exact ⟨by kernel_rfl, of_decide_eq_true (by kernel_rfl), fun c hc => by cases hc; kernel_rfl⟩)
theorem fnOk : ∀ f F, E.fn f = some F → E.P.funcs[f]? = some F ∧ F.name ≠ "runtime.NumGoroutine" ∧ ∀ c, F.body = some c → codeOk c = true := by
  intro f F h
  replace h : fn f = some F := h
  unfold fn at h
  split at h
  · rename_i F' hF
    rw [← Option.some.inj h]
    exact fn0Ok f F' hF
  split at h
  · rename_i F' hF
    rw [← Option.some.inj h]
    exact fn1Ok f F' hF
  split at h
  · rename_i F' hF
    rw [← Option.some.inj h]
    exact fn2Ok f F' hF
  exact fn3Ok f F h
theorem envOk : EnvOk E := ⟨tyOk, fun f F h => (fnOk f F h).1, fun f F h => (fnOk f F h).2.1, by kernel_rfl⟩
theorem sound (k : Nat) : CallOk E (den E k) := den_sound envOk (fun f F c h => (fnOk f F h).2.2 c) (fun f g h => by cases h) k
end Go.Proofs.YtonfioejmldhcaaGreat.World
namespace Go.Proofs.YtonfioejmldhcaaGreat.World
open Go Go.V Go.Proofs
open Go.ChangeShapes Go.WideShapes Go.ChangeAt Go.RowKit
set_option linter.unusedVariables false
set_option maxRecDepth 100000
theorem walk8 {k : Nat} {y0 : TW} {y1 : Int} (h : FlFnExactLitOf k y0 y1 = some true) {W : World} {v0 v1 : Value} (h0 : VA W (fun _ => True) (fun _ => undef) (argAV sLWorld y0) v0) (l0 : (argAV sLWorld y0).lt 0) (h1 : VA W (fun _ => True) (fun _ => undef) (argAV (.i .i64) y1) v1) (l1 : (argAV (.i .i64) y1).lt 0) :
    Calls Tryz.prog 8 #[v0, v1] W fun e W' => e = .returned (.bool true) ∧ Go.RowKit.Below W.heap.size W W' := by
  have hs := (sound k) 8 [argAV sLWorld y0, argAV (.i .i64) y1] true h
  refine (hs.2 (fun _ => True) W [v0, v1] [] (by
    show ArgsT W (fun _ => True) [] _ _ []
    exact ⟨⟨h0, h1, trivial⟩, by intro x hx; simp at hx; rcases hx with rfl | rfl; exact l0; exact l1, rfl⟩) List.nodup_nil (by simp)).mono ?_
  rintro e W' ⟨v, rfl, hb, hr⟩
  exact ⟨by rw [resOk_bool hr], Chg.below hb⟩
theorem own : ownKnob Tryz.prog.godebug = none := by kernel_rfl
theorem lifted (os : Os) (started : os.Started) (H : Type) (enc : TypeId × Value → H) :
    ReturnsInHanded {} Tryz.checked os 8 .any (YtonfioejmldhcaaGreat.Rows.fnExactLitOfSpec.pre6 enc Tryz.prog Tryz.f8 YtonfioejmldhcaaGreat.Rows.fnExactLitOfRow.domain false) (YtonfioejmldhcaaGreat.Rows.fnExactLitOfSpec.post enc Tryz.prog Tryz.f8 false true false false) := by
  refine returnsInHanded_of_change_sized (C := Tryz.checked) own started (by kernel_rfl) Tryz.func8
    (ChangeSpec.witness6 (enc := enc) (C := Tryz.checked) false ⟨#[], #[.agg #[(.int .i64 0), (.slice none 0 0), (.slice none 0 0), (.int .i64 0), (.int .i64 0), (.int .i64 0), (.int .i64 0), (.int .i64 0), (.slice none 0 0), (.int .i64 0), (.int .i64 0), (.int .i64 0), (.int .i64 0), (.slice none 0 0), (.slice none 0 0), (.slice none 0 0), (.slice none 0 0), (.slice none 0 0), (.slice none 0 0), (.slice none 0 0), (.slice none 0 0), (.slice none 0 0), (.int .i64 0), (.int .i64 0), (.slice none 0 0), (.slice none 0 0)], .int .i64 0], []⟩ 8 (by kernel_rfl) (by kernel_rfl) (by kernel_rfl) (by kernel_rfl)) ?_
  intro W base args ds gs before hval0 hW hcnd hsz0 _
  have hsz : (DataW.weightsEach Tryz.prog (Tryz.f8.params.toList ++ YtonfioejmldhcaaGreat.Rows.fnExactLitOfSpec.plain.varTypes Tryz.prog) (ds ++ gs)).all (· ≤ reachBytes) = true := hsz0
  have hval : ∀ (j : Nat) t v, Tryz.f8.params[j]? = some t → args[j]? = some v → Value.okWide Tryz.prog W .any base t v := hval0
  have hW' := hW
  obtain ⟨p, q, hA0, hV, rfl, hfz, hnd⟩ := hW
  have hA : DataW.TrodAll enc Tryz.prog W 0 (fun _ => true) true Tryz.f8.params.toList args.toList ds p := hA0
  have hAA := hA
  rw [Tryz.params8] at hA hval hsz
  obtain ⟨v0, vs0, d0, ds0, p0, q0, hargs, rfl, rfl, h0, r0⟩ := trodAll_cons hA
  obtain ⟨v1, vs1, d1, ds1, p1, q1, rfl, rfl, rfl, h1, r1⟩ := trodAll_cons r0
  obtain ⟨rfl, rfl, rfl⟩ := trodAll_nil r1
  obtain rfl : args = #[v0, v1] := by cases args; simp_all
  obtain ⟨rfl, rfl⟩ := trodVars_none hV
  have hwt0 : ∀ n ∈ d0.weights Tryz.prog 41, n ≤ reachBytes := by
    intro n hn
    have := List.all_eq_true.1 hsz n (by simp [DataW.weightsEach, hn])
    simpa using this
  have hwt1 : ∀ n ∈ d1.weights Tryz.prog 3, n ≤ reachBytes := by
    intro n hn
    have := List.all_eq_true.1 hsz n (by simp [DataW.weightsEach, hn])
    simpa using this
  obtain ⟨y0, a0, b0, w0⟩ := arg_VA (sh := sLWorld) (by kernel_rfl) (hval 0 41 v0 rfl rfl) h0 hwt0
  obtain ⟨y1, a1, b1, w1⟩ := arg_VA (sh := (.i .i64)) (by kernel_rfl) (hval 1 3 v1 rfl rfl) h1 hwt1
  obtain ⟨k, hk⟩ := lFnExactLitOf y0 y1 (rows_wf (P := Tryz.prog) sLWorld y0 (by kernel_rfl) w0)
  have hlt : ∀ x ∈ p0 ++ (p1 ++ []), x.block < W.heap.size := fun x hx => hW'.lt x (by simpa using hx)
  refine (walk8 hk a0 b0 a1 b1).mono fun e W' ⟨he, bel⟩ => ?_
  subst he
  exact ⟨_, rfl, _, _, _, [], _, [], hW', trodAll_mk1 (shut_bool Tryz.underlying4 _), below_trodAll (by kernel_rfl) bel _ _ _ _ (by kernel_rfl) hAA hlt, rfl, bel.frame _, fun h => by cases h⟩
theorem facts_of {P : Program} {f : FuncId} {fn : Func} {s : ChangeSpec} {c : OpenClaim} (k1 : (c.wf (OpenSpec.ofChange s)) = true) (k2 : (laidOutB P) = true) (k3 : (mapsRowed P) = true) (k4 : (fn.params.all (P.readableRec ·)) = true) (k5 : (namedTie P c.named s.vars) = true) (k6 : ((c.stops == [])) = true) (k7 : ((P.stops == [])) = true) (k8 : ((c.knobs == [])) = true) (k9 : ((P.stopKnobs == [])) = true) (k10 : ((c.inPlace == P.inPlace f)) = true) (k11 : ((c.unfollowed == P.unfollowed f)) = true) (k12 : ((c.recurses == P.recurses f)) = true) (k13 : ((c.named == P.varsNamed f)) = true) (k14 : ((c.maps == (fn.params.toList ++ s.plain.varTypes P).any (P.mapsRec ·))) = true) (k15 : ((c.ifaces == (fn.params.toList ++ s.plain.varTypes P).any (P.ifacesRec ·))) = true) (k16 : ((c.mapsOut == P.mapsAmong fn.resultTypes.toList)) = true) (k17 : ((c.loops == (fn.params.toList ++ s.plain.varTypes P).any (P.loopsFrom ·))) = true) (k18 : ((c.wideKeys == (fn.params.toList ++ s.plain.varTypes P ++ fn.resultTypes.toList).any (P.wideKeysFrom ·))) = true) (k19 : (s.vars.all (P.varReadable ·)) = true) (k20 : (fn.resultTypes.all (fun t => P.readableRec t && decide (t < P.types.size))) = true) (k21 : ((c.ifacesOut == fn.resultTypes.toList.any (P.ifacesRec ·))) = true) (k22 : ((c.loopsOut == fn.resultTypes.toList.any (P.loopsFrom ·))) = true) (k23 : ((c.plainKeys == P.plainKeys)) = true) (k24 : (c.shortTexts.isNone) = true) (k25 : (P.stopsHeard) = true) (k26 : (P.mayEnter) = true) (k27 : ((c.lifted == P.liftsFinal)) = true) (k28 : ((P.make == some c.make)) = true) (k29 : ((c.kinds == (if c.domain.isEmpty then [] else fn.params.toList.map fun t => match P.underlying t with | some (.int k) => some k | _ => none))) = true) (k30 : ((c.pinned == c.pinnedBy)) = true) (k31 : ((c.veiled == (fn.params.toList ++ s.plain.varTypes P ++ fn.resultTypes.toList).any (P.veiledRec ·))) = true) (k32 : (c.veiledFits P fn.params.toList (fn.params.toList ++ s.plain.varTypes P ++ fn.resultTypes.toList)) = true) : joinedFacts P f fn s c = true := by
  unfold joinedFacts
  simp only [k1, k2, k3, k4, k5, k6, k7, k8, k9, k10, k11, k12, k13, k14, k15, k16, k17, k18, k19, k20, k21, k22, k23, k24, k25, k26, k27, k28, k30, k31, k32, Bool.and_true, Bool.true_and]
  exact k29
theorem k1 : (YtonfioejmldhcaaGreat.Rows.fnExactLitOfRow.wf (OpenSpec.ofChange YtonfioejmldhcaaGreat.Rows.fnExactLitOfSpec)) = true := by kernel_rfl
theorem k2 : (laidOutB Tryz.checked.prog) = true := by kernel_rfl
theorem k3 : (mapsRowed Tryz.checked.prog) = true := by kernel_rfl
theorem k4 : (Tryz.f8.params.all (Tryz.checked.prog.readableRec ·)) = true := by kernel_rfl
theorem k5 : (namedTie Tryz.checked.prog YtonfioejmldhcaaGreat.Rows.fnExactLitOfRow.named YtonfioejmldhcaaGreat.Rows.fnExactLitOfSpec.vars) = true := by kernel_rfl
theorem k6 : ((YtonfioejmldhcaaGreat.Rows.fnExactLitOfRow.stops == [])) = true := by kernel_rfl
theorem k7 : ((Tryz.checked.prog.stops == [])) = true := by kernel_rfl
theorem k8 : ((YtonfioejmldhcaaGreat.Rows.fnExactLitOfRow.knobs == [])) = true := by kernel_rfl
theorem k9 : ((Tryz.checked.prog.stopKnobs == [])) = true := by kernel_rfl
theorem k10 : ((YtonfioejmldhcaaGreat.Rows.fnExactLitOfRow.inPlace == Tryz.checked.prog.inPlace 8)) = true := by kernel_rfl
theorem k11 : ((YtonfioejmldhcaaGreat.Rows.fnExactLitOfRow.unfollowed == Tryz.checked.prog.unfollowed 8)) = true := by kernel_rfl
theorem k12 : ((YtonfioejmldhcaaGreat.Rows.fnExactLitOfRow.recurses == Tryz.checked.prog.recurses 8)) = true := by kernel_rfl
theorem k13 : ((YtonfioejmldhcaaGreat.Rows.fnExactLitOfRow.named == Tryz.checked.prog.varsNamed 8)) = true := by kernel_rfl
theorem k14 : ((YtonfioejmldhcaaGreat.Rows.fnExactLitOfRow.maps == (Tryz.f8.params.toList ++ YtonfioejmldhcaaGreat.Rows.fnExactLitOfSpec.plain.varTypes Tryz.checked.prog).any (Tryz.checked.prog.mapsRec ·))) = true := by kernel_rfl
theorem k15 : ((YtonfioejmldhcaaGreat.Rows.fnExactLitOfRow.ifaces == (Tryz.f8.params.toList ++ YtonfioejmldhcaaGreat.Rows.fnExactLitOfSpec.plain.varTypes Tryz.checked.prog).any (Tryz.checked.prog.ifacesRec ·))) = true := by kernel_rfl
theorem k16 : ((YtonfioejmldhcaaGreat.Rows.fnExactLitOfRow.mapsOut == Tryz.checked.prog.mapsAmong Tryz.f8.resultTypes.toList)) = true := by kernel_rfl
theorem k17 : ((YtonfioejmldhcaaGreat.Rows.fnExactLitOfRow.loops == (Tryz.f8.params.toList ++ YtonfioejmldhcaaGreat.Rows.fnExactLitOfSpec.plain.varTypes Tryz.checked.prog).any (Tryz.checked.prog.loopsFrom ·))) = true := by kernel_rfl
theorem k18 : ((YtonfioejmldhcaaGreat.Rows.fnExactLitOfRow.wideKeys == (Tryz.f8.params.toList ++ YtonfioejmldhcaaGreat.Rows.fnExactLitOfSpec.plain.varTypes Tryz.checked.prog ++ Tryz.f8.resultTypes.toList).any (Tryz.checked.prog.wideKeysFrom ·))) = true := by kernel_rfl
theorem k19 : (YtonfioejmldhcaaGreat.Rows.fnExactLitOfSpec.vars.all (Tryz.checked.prog.varReadable ·)) = true := by kernel_rfl
theorem k20 : (Tryz.f8.resultTypes.all (fun t => Tryz.checked.prog.readableRec t && decide (t < Tryz.checked.prog.types.size))) = true := by kernel_rfl
theorem k21 : ((YtonfioejmldhcaaGreat.Rows.fnExactLitOfRow.ifacesOut == Tryz.f8.resultTypes.toList.any (Tryz.checked.prog.ifacesRec ·))) = true := by kernel_rfl
theorem k22 : ((YtonfioejmldhcaaGreat.Rows.fnExactLitOfRow.loopsOut == Tryz.f8.resultTypes.toList.any (Tryz.checked.prog.loopsFrom ·))) = true := by kernel_rfl
theorem k23 : ((YtonfioejmldhcaaGreat.Rows.fnExactLitOfRow.plainKeys == Tryz.checked.prog.plainKeys)) = true := by kernel_rfl
theorem k24 : (YtonfioejmldhcaaGreat.Rows.fnExactLitOfRow.shortTexts.isNone) = true := by kernel_rfl
theorem k25 : (Tryz.checked.prog.stopsHeard) = true := by kernel_rfl
theorem k26 : (Tryz.checked.prog.mayEnter) = true := by kernel_rfl
theorem k27 : ((YtonfioejmldhcaaGreat.Rows.fnExactLitOfRow.lifted == Tryz.checked.prog.liftsFinal)) = true := by kernel_rfl
theorem k28 : ((Tryz.checked.prog.make == some YtonfioejmldhcaaGreat.Rows.fnExactLitOfRow.make)) = true := by kernel_rfl
theorem k29 : ((YtonfioejmldhcaaGreat.Rows.fnExactLitOfRow.kinds == (if YtonfioejmldhcaaGreat.Rows.fnExactLitOfRow.domain.isEmpty then [] else Tryz.f8.params.toList.map fun t => match Tryz.checked.prog.underlying t with | some (.int k) => some k | _ => none))) = true := by kernel_rfl
theorem k30 : ((YtonfioejmldhcaaGreat.Rows.fnExactLitOfRow.pinned == YtonfioejmldhcaaGreat.Rows.fnExactLitOfRow.pinnedBy)) = true := by kernel_rfl
theorem k31 : ((YtonfioejmldhcaaGreat.Rows.fnExactLitOfRow.veiled == (Tryz.f8.params.toList ++ YtonfioejmldhcaaGreat.Rows.fnExactLitOfSpec.plain.varTypes Tryz.checked.prog ++ Tryz.f8.resultTypes.toList).any (Tryz.checked.prog.veiledRec ·))) = true := by kernel_rfl
theorem k32 : (YtonfioejmldhcaaGreat.Rows.fnExactLitOfRow.veiledFits Tryz.checked.prog Tryz.f8.params.toList (Tryz.f8.params.toList ++ YtonfioejmldhcaaGreat.Rows.fnExactLitOfSpec.plain.varTypes Tryz.checked.prog ++ Tryz.f8.resultTypes.toList)) = true := by kernel_rfl
theorem k0 : YtonfioejmldhcaaGreat.Tryz.pinned.checked.prog.funcNamed YtonfioejmldhcaaGreat.Rows.fnExactLitOfRow.func = some 8 := by kernel_rfl
theorem wrapper : Tryz.f8.isWrapper Tryz.checked.prog YtonfioejmldhcaaGreat.Rows.fnExactLitOfRow.wrapper YtonfioejmldhcaaGreat.Rows.fnExactLitOfRow.mainSum := by
  unfold Func.isWrapper
  first | (rw [if_pos (by decide +kernel)]; kernel_rfl) | (rw [if_neg (by decide +kernel)]; exact ⟨rfl, rfl⟩)
theorem facts : joinedFacts YtonfioejmldhcaaGreat.Tryz.pinned.checked.prog 8 Tryz.f8 YtonfioejmldhcaaGreat.Rows.fnExactLitOfSpec YtonfioejmldhcaaGreat.Rows.fnExactLitOfRow = true := facts_of k1 k2 k3 k4 k5 k6 k7 k8 k9 k10 k11 k12 k13 k14 k15 k16 k17 k18 k19 k20 k21 k22 k23 k24 k25 k26 k27 k28 k29 k30 k31 k32
theorem over : YtonfioejmldhcaaGreat.Rows.fnExactLitOfRow.holds YtonfioejmldhcaaGreat.Tryz.pinned (OpenSpec.ofChange YtonfioejmldhcaaGreat.Rows.fnExactLitOfSpec) :=
  OpenClaim.holds_of_wide 8 Tryz.f8 rfl rfl rfl rfl rfl rfl rfl ⟨rfl, rfl, rfl, rfl, rfl⟩ rfl rfl rfl rfl rfl k0 Tryz.func8 facts
    (of_decide_eq_true (by kernel_rfl)) wrapper
    (fun os started H enc _ => lifted os started H enc)
end Go.Proofs.YtonfioejmldhcaaGreat.World
namespace Go.Proofs.YtonfioejmldhcaaGreat
/-- The row, under a short name. -/
theorem fnExactLitOf_holds : Rows.FnExactLitOfSaid := World.over
end Go.Proofs.YtonfioejmldhcaaGreat
