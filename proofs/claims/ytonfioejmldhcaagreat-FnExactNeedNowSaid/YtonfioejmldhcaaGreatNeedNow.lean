/- 'laws.FnExactNeedNow' returns true for every input. No condition. -/
import Derived.Test.YtonfioejmldhcaaGreatWp
import Derived.Test.YtonfioejmldhcaaGreatRows
import Derived.Test.YtonfioejmldhcaaGreatChecked
import Derived.KernelRfl
namespace Go.Proofs.YtonfioejmldhcaaGreat.World
open Go Go.V Go.Proofs
set_option linter.unusedVariables false
set_option linter.unusedSimpArgs false
set_option maxRecDepth 100000
abbrev TW := T40
theorem pred {k d : Nat} (h : d + 1 ≤ k) : ∃ q, k = q + 1 := ⟨k - 1, by omega⟩
/-! ### numbers, rows -/
def isIdx (a b : Int) : Bool := decide (a ≥ 0) && decide (a < b)
def inR (n a b : Int) : Bool := decide (a ≤ n) && decide (n ≤ b)
theorem f94 {k : Nat} (a b : Int) (hk : 1 ≤ k) : F94 k a b = some (isIdx a b) := by
  obtain ⟨k, rfl⟩ := pred (d := 0) hk
  rw [e94]
  unfold isIdx
  cases decide (a ≥ 0) <;> rfl
theorem f135 {k : Nat} (n a b : Int) (hk : 1 ≤ k) : F135 k n a b = some (inR n a b) := by
  obtain ⟨k, rfl⟩ := pred (d := 0) hk
  rw [e135]
  unfold inR
  cases decide (a ≤ n) <;> rfl
theorem f92 {k : Nat} (n a b : Int) (hk : 1 ≤ k) : F92 k n a b = some (inR n a b) := by
  obtain ⟨k, rfl⟩ := pred (d := 0) hk
  rw [e92]
  unfold inR
  show (if ((decide (a ≤ n)) == true) = true then _ else _) = _
  cases decide (a ≤ n) <;> rfl
/-! ### skies, laws -/
def nodes (s : T25) : Int := IntKind.i64.wrap ((s.2.1.length : Int) + (s.2.2.1.length : Int))
def site (s : T25) (n : Int) : Bool := inR n (s.2.1.length : Int) (IntKind.i64.wrap (nodes s - 1))
theorem f342 {k : Nat} (s : T25) (hk : 1 ≤ k) : F342 k s = some (nodes s) := by
  obtain ⟨k, rfl⟩ := pred (d := 0) hk
  exact e342 k s
theorem f338 {k : Nat} (s : T25) (hk : 1 ≤ k) : F338 k s = some (nodes s) := by
  obtain ⟨k, rfl⟩ := pred (d := 0) hk
  exact e338 k s
theorem f316 {k : Nat} (s : T25) (n : Int) (hk : 2 ≤ k) : F316 k s n = some (site s n) := by
  obtain ⟨k, rfl⟩ := pred (d := 1) hk
  rw [e316, f342 s (by omega), Option.bind_some, f135 _ _ _ (by omega)]
  rfl
theorem f312 {k : Nat} (s : T25) (n : Int) (hk : 2 ≤ k) : F312 k s n = some (site s n) := by
  obtain ⟨k, rfl⟩ := pred (d := 1) hk
  rw [e312, f338 s (by omega), Option.bind_some, f92 _ _ _ (by omega)]
  rfl
/-! ### IsLawful -/
abbrev qDone (w : TW) := w.2.2.2.2.2.2.2.2.2.2.2.2.1
abbrev qLog (w : TW) := w.2.2.2.2.2.2.2.2.2.2.2.2.2
abbrev qQueues (w : TW) := w.2.2.2.2.2.1
theorem inR_last {len : Nat} (n : Int) (h : len ≤ 140737488351232) : inR n 0 (IntKind.i64.wrap ((len : Int) - 1)) = isIdx n (len : Int) := by
  rw [wrap_id (by omega) (by omega)]
  unfold inR isIdx
  have e : decide (n ≤ (len : Int) - 1) = decide (n < (len : Int)) := by
    by_cases h : n < (len : Int)
    · rw [decide_eq_true h, decide_eq_true (by omega)]
    · rw [decide_eq_false h, decide_eq_false (by omega)]
  rw [e]
theorem isIdx_pos {n : Int} {len : Nat} (h : isIdx n (len : Int) = true) : 0 ≤ n ∧ n.toNat < len := by
  unfold isIdx at h
  simp only [Bool.and_eq_true, decide_eq_true_eq] at h
  omega
/-! ### spans -/
def isSpan (s : Int × Int) : Bool := decide (s.1 ≥ 0) && (decide (s.2 ≤ 1000) && decide (s.1 < s.2))
def inSpan (s : Int × Int) (t : Int) : Bool := isSpan s && (decide (s.1 ≤ t) && decide (t < s.2))
theorem f198 {k : Nat} (s : Int × Int) (hk : 1 ≤ k) : F198 k s = some (isSpan s) := by
  obtain ⟨k, rfl⟩ := pred (d := 0) hk
  rw [e198]
  unfold isSpan
  cases decide (s.1 ≥ 0)
  · rfl
  · cases decide (s.2 ≤ 1000) <;> rfl
theorem f209 {k : Nat} (s : Int × Int) (hk : 1 ≤ k) : F209 k s = some (isSpan s) := by
  obtain ⟨k, rfl⟩ := pred (d := 0) hk
  rw [e209]
  unfold isSpan
  cases decide (s.1 ≥ 0)
  · rfl
  · cases decide (s.2 ≤ 1000) <;> rfl
theorem f255 {k : Nat} (s : Int × Int) (t : Int) (hk : 2 ≤ k) : F255 k s t = some (inSpan s t) := by
  obtain ⟨k, rfl⟩ := pred (d := 1) hk
  rw [e255, f198 s (by omega), Option.bind_some]
  unfold inSpan
  cases isSpan s
  · rfl
  · cases decide (s.1 ≤ t) <;> rfl
theorem f186 {k : Nat} (s : Int × Int) (t : Int) (hk : 2 ≤ k) : F186 k s t = some (inSpan s t) := by
  obtain ⟨k, rfl⟩ := pred (d := 1) hk
  rw [e186, f209 s (by omega), Option.bind_some]
  unfold inSpan
  cases isSpan s
  · rfl
  · cases decide (s.1 ≤ t) <;> rfl
/-! ### pieces, links -/
/-! ### faults -/
def downAt (n t : Int) (x : Int × Int × Int × Int) : Bool := x.1 == n && (x.2.1 == -1 && inSpan x.2.2 t)
def down (l : List (Int × Int × Int × Int)) (n t : Int) : Bool := l.any (downAt n t)
theorem f184 {k : Nat} (x : Int × Int × Int × Int) (t : Int) (hk : 3 ≤ k) : F184 k x t = some (inSpan x.2.2 t) := by
  obtain ⟨k, rfl⟩ := pred (d := 2) hk
  rw [e184, f255 _ _ (by omega)]
  rfl
theorem f101 {k : Nat} (l : List (Int × Int × Int × Int)) (n t : Int) (hl : l.length ≤ 140737488351232) (hk : l.length + 5 ≤ k) : F101 k l n t = some (down l n t) := by
  obtain ⟨k, rfl⟩ := pred (d := 0) (show 1 ≤ k by omega)
  refine (e101 k l n t).trans (row_i (a := l) (fun _ l => some (l.any (downAt n t))) (fun _ _ => rfl) hl rfl (fun m i x r h0 hn hw hi hx ih => ?_) (by omega))
  dsimp only
  simp only [hw, ih, hn, ix_some hx, if_pos h0, List.any_cons, f184 x t (show 3 ≤ k by omega), Option.bind_some]
  unfold downAt
  cases x.1 == n <;> cases x.2.1 == -1 <;> cases inSpan x.2.2 t <;> rfl
theorem f103 {k : Nat} (l : List (Int × Int × Int × Int)) (n t : Int) (hl : l.length ≤ 140737488351232) (hk : l.length + 5 ≤ k) : F103 k l n t = some (down l n t) := by
  obtain ⟨k, rfl⟩ := pred (d := 0) (show 1 ≤ k by omega)
  refine (e103 k l n t).trans (row_i (a := l) (fun _ l => some (l.any (downAt n t))) (fun _ _ => rfl) hl rfl (fun m i x r h0 hn hw hi hx ih => ?_) (by omega))
  dsimp only
  simp only [hw, ih, List.any_cons, f186 x.2.2 t (show 2 ≤ k by omega), Option.bind_some]
  unfold downAt
  cases x.1 == n <;> cases x.2.1 == -1 <;> cases inSpan x.2.2 t <;> rfl
/-! ### IsInContact -/
abbrev qFaults (w : TW) := w.2.2.2.2.2.2.2.2.2.1
/-! ### angles -/
theorem tmod_neg' (a : Int) (h : a < 0) : a.tmod 360 = -((-a) % 360) := by
  have : a = -(-a) := by omega
  rw [this, Int.neg_tmod, Int.tmod_eq_emod_of_nonneg (by omega)]
  simp
def angle (n : Int) : Int := n % 360
theorem angle_range (n : Int) : 0 ≤ angle n ∧ angle n < 360 := by unfold angle; omega
theorem f340 {k : Nat} (n : Int) (hk : 2 ≤ k) : F340 k n 360 = some (angle n) := by
  obtain ⟨k, rfl⟩ := pred (d := 1) hk
  rw [e340, f92 _ _ _ (by omega)]
  have e : inR 360 1 1000000000000 = true := by decide
  rw [e, Option.bind_some, if_neg (by decide), if_neg (by decide), if_neg (by decide)]
  congr 1
  unfold angle
  by_cases h : 0 ≤ n
  · rw [Int.tmod_eq_emod_of_nonneg h, wrap_id (by omega) (by omega), Int.tmod_eq_emod_of_nonneg (by omega)]
    omega
  · rw [tmod_neg' n (by omega), wrap_id (by omega) (by omega), Int.tmod_eq_emod_of_nonneg (by omega)]
    omega
theorem f344 {k : Nat} (n : Int) (hk : 2 ≤ k) : F344 k n 360 = some (angle n) := by
  obtain ⟨k, rfl⟩ := pred (d := 1) hk
  rw [e344, f135 _ _ _ (by omega)]
  have e : inR 360 1 1000000000000 = true := by decide
  rw [e, Option.bind_some, if_neg (by decide), if_neg (by decide)]
  unfold angle
  by_cases h : 0 ≤ n
  · rw [Int.tmod_eq_emod_of_nonneg h, if_neg (by simp; omega)]
  · rw [tmod_neg' n (by omega)]
    split
    · rename_i h2
      simp only [decide_eq_true_eq] at h2
      rw [wrap_id (by omega) (by omega)]
      congr 1
      omega
    · rename_i h2
      simp only [decide_eq_true_eq] at h2
      congr 1
      omega
theorem f314 {k : Nat} (n : Int) (hk : 3 ≤ k) : F314 k n = some (angle n) := by
  obtain ⟨k, rfl⟩ := pred (d := 2) hk
  rw [e314, f340 _ (by omega)]
  rfl
theorem f318 {k : Nat} (n : Int) (hk : 3 ≤ k) : F318 k n = some (angle n) := by
  obtain ⟨k, rfl⟩ := pred (d := 2) hk
  rw [e318, f344 _ (by omega)]
  rfl
/-! ### arcs -/
def inArc (x : Int × Int) (a : Int) : Bool := decide (angle (angle a - angle x.1) ≤ x.2)
theorem angle_sub (a b : Int) : IntKind.i64.wrap (angle a - angle b) = angle a - angle b := by
  have := angle_range a
  have := angle_range b
  exact wrap_id (by omega) (by omega)
/-! ### places -/
def speed (v : Int) : Int := if inR v (-60) 60 then v else 0
theorem f339 {k : Nat} (v : Int) (hk : 2 ≤ k) : F339 k v = some (speed v) := by
  obtain ⟨k, rfl⟩ := pred (d := 1) hk
  rw [e339, f92 _ _ _ (by omega), Option.bind_some]
  unfold speed
  cases inR v (-60) 60 <;> rfl
theorem f343 {k : Nat} (s : Int × Int × Int × Int) (hk : 2 ≤ k) : F343 k s = some (speed s.2.2.1) := by
  obtain ⟨k, rfl⟩ := pred (d := 1) hk
  rw [e343, f135 _ _ _ (by omega), Option.bind_some]
  unfold speed
  cases inR s.2.2.1 (-60) 60 <;> rfl
def placeAt (s : Int × Int × Int × Int) (t : Int) : Int := angle (IntKind.i64.wrap (angle s.2.1 + IntKind.i64.wrap (speed s.2.2.1 * (if inR t 0 1000 then t else 0))))
theorem f313 {k : Nat} (s : Int × Int × Int × Int) (t : Int) (hk : 4 ≤ k) : F313 k s t = some (placeAt s t) := by
  obtain ⟨k, rfl⟩ := pred (d := 3) hk
  simp only [e313, f92 t 0 1000 (show 1 ≤ k by omega), Option.bind_some, f314 s.2.1 (show 3 ≤ k by omega), f339 s.2.2.1 (show 2 ≤ k by omega)]
  unfold placeAt
  cases inR t 0 1000
  · simp only [Bool.not_false, if_true, Bool.false_eq_true, if_false]
    rw [f314 _ (by omega)]
    rfl
  · simp only [Bool.not_true, if_true, Bool.false_eq_true, if_false]
    rw [f314 _ (by omega)]
    rfl
theorem f317 {k : Nat} (s : Int × Int × Int × Int) (t : Int) (hk : 4 ≤ k) : F317 k s t = some (placeAt s t) := by
  obtain ⟨k, rfl⟩ := pred (d := 3) hk
  simp only [e317, f135 t 0 1000 (show 1 ≤ k by omega), Option.bind_some, f318 s.2.1 (show 3 ≤ k by omega), f343 s (show 2 ≤ k by omega)]
  unfold placeAt
  cases inR t 0 1000
  · simp only [Bool.not_false, if_true, Bool.false_eq_true, if_false]
    rw [f318 _ (by omega)]
    rfl
  · simp only [Bool.not_true, if_true, Bool.false_eq_true, if_false]
    rw [f318 _ (by omega)]
    rfl
def widen (x : Int × Int) (by_ : Int) : Int × Int := if inR by_ 0 360 && inR x.2 0 359 then (angle (IntKind.i64.wrap (angle x.1 - by_)), mn (IntKind.i64.wrap (x.2 + IntKind.i64.wrap (2 * by_))) 359) else (angle x.1, x.2)
theorem f337 {k : Nat} (x : Int × Int) (n : Int) (hk : 4 ≤ k) : F337 k x n = some (widen x n) := by
  obtain ⟨k, rfl⟩ := pred (d := 3) hk
  simp only [e337, f92 n 0 360 (show 1 ≤ k by omega), f92 x.2 0 359 (show 1 ≤ k by omega), Option.bind_some, f314 x.1 (show 3 ≤ k by omega), f314 (IntKind.i64.wrap (angle x.1 - n)) (show 3 ≤ k by omega)]
  obtain ⟨k, rfl⟩ := pred (d := 2) (show 3 ≤ k by omega)
  rw [e98]
  unfold widen mn
  cases inR n 0 360
  · rfl
  · cases inR x.2 0 359
    · rfl
    · simp only [Bool.not_true, beq_self_eq_true, if_true, Bool.false_eq_true, if_false, Bool.and_self]
      generalize IntKind.i64.wrap (x.2 + IntKind.i64.wrap (2 * n)) = z
      by_cases h1 : z < 359
      · rw [if_pos (by simpa using h1), Option.bind_some, if_neg (by omega)]
      · rw [if_neg (by simpa using h1), Option.bind_some]
        by_cases h2 : 359 < z
        · rw [if_pos h2]
        · rw [if_neg h2]
          have : z = 359 := by omega
          rw [this]
theorem f319 {k : Nat} (n : Int) (hk : 2 ≤ k) : F319 k n = some (inR n 0 359) := by
  obtain ⟨k, rfl⟩ := pred (d := 1) hk
  rw [e319, f135 _ _ _ (by omega)]
  rfl
theorem f341 {k : Nat} (x : Int × Int) (n : Int) (hk : 4 ≤ k) : F341 k x n = some (widen x n) := by
  obtain ⟨k, rfl⟩ := pred (d := 3) hk
  simp only [e341, f135 n 0 360 (show 1 ≤ k by omega), f319 x.2 (show 2 ≤ k by omega), Option.bind_some, f318 x.1 (show 3 ≤ k by omega), f318 (IntKind.i64.wrap (angle x.1 - n)) (show 3 ≤ k by omega)]
  unfold widen
  cases inR n 0 360
  · rfl
  · cases inR x.2 0 359 <;> rfl
def placesAt (s : Int × Int × Int × Int) (t : Int) : Int × Int := widen (placeAt s t, 0) s.2.2.2
theorem f311 {k : Nat} (s : Int × Int × Int × Int) (t : Int) (hk : 5 ≤ k) : F311 k s t = some (placesAt s t) := by
  obtain ⟨k, rfl⟩ := pred (d := 4) hk
  rw [e311, f313 _ _ (by omega), Option.bind_some, f337 _ _ (by omega)]
  rfl
theorem f315 {k : Nat} (s : Int × Int × Int × Int) (t : Int) (hk : 5 ≤ k) : F315 k s t = some (placesAt s t) := by
  obtain ⟨k, rfl⟩ := pred (d := 4) hk
  rw [e315, f317 _ _ (by omega), Option.bind_some, f341 _ _ (by omega)]
  rfl
/-- Where a satellite may be. -/
def satAt (s : T25) (n t : Int) : Int × Int := match s.2.1[n.toNat]? with
  | some x => placesAt x t
  | none => (0, 0)
def isSat (s : T25) (n : Int) : Bool := isIdx n (s.2.1.length : Int)
theorem f260 {k : Nat} (s : T25) (n t : Int) (hl : s.2.1.length ≤ 140737488351232) (h : isSat s n = true) (hk : 6 ≤ k) : F260 k s n t = some (satAt s n t) := by
  obtain ⟨k, rfl⟩ := pred (d := 5) hk
  have h' : isIdx n (s.2.1.length : Int) = true := h
  obtain ⟨h0, h1⟩ := isIdx_pos h'
  rw [e260, f92 _ _ _ (by omega), inR_last _ hl, h', Option.bind_some, if_pos rfl, if_pos h0, ix_at h1, f311 _ _ (by omega)]
  unfold satAt
  rw [List.getElem?_eq_getElem h1]
  rfl
theorem f264 {k : Nat} (s : T25) (n : Int) (hl : s.2.1.length ≤ 140737488351232) (hk : 2 ≤ k) : F264 k s n = some (isSat s n) := by
  obtain ⟨k, rfl⟩ := pred (d := 1) hk
  rw [e264, f135 _ _ _ (by omega), inR_last _ hl]
  rfl
theorem f265 {k : Nat} (s : T25) (n t : Int) (hl : s.2.1.length ≤ 140737488351232) (h : isSat s n = true) (hk : 6 ≤ k) : F265 k s n t = some (satAt s n t) := by
  obtain ⟨k, rfl⟩ := pred (d := 5) hk
  have h' : isIdx n (s.2.1.length : Int) = true := h
  obtain ⟨h0, h1⟩ := isIdx_pos h'
  rw [e265, f264 _ _ hl (by omega), h, Option.bind_some, if_pos rfl, if_pos h0, ix_at h1, f315 _ _ (by omega)]
  unfold satAt
  rw [List.getElem?_eq_getElem h1]
  rfl
/-! ### MayDisturb, IsQuiet -/
/-! ### shadow -/
theorem f98 {k : Nat} (a b : Int) (hk : 1 ≤ k) : F98 k a b = some (mn a b) := by
  obtain ⟨k, rfl⟩ := pred (d := 0) hk
  rw [e98]
  unfold mn
  by_cases h : b < a
  · rw [if_pos (by simpa using h), if_pos h]
  · rw [if_neg (by simpa using h), if_neg h]
theorem f175 {k : Nat} (a b : Int) (hk : 1 ≤ k) : F175 k a b = some (mx a b) := by
  obtain ⟨k, rfl⟩ := pred (d := 0) hk
  rw [e175]
  unfold mx
  by_cases h : a < b
  · rw [if_pos (by simpa using h), if_pos h]
  · rw [if_neg (by simpa using h), if_neg h]
def middle (x : Int × Int) : Int := if inR x.2 0 359 then angle (IntKind.i64.wrap (angle x.1 + IntKind.i64.wrap (x.2.tdiv 2))) else angle x.1
theorem f262 {k : Nat} (x : Int × Int) (hk : 4 ≤ k) : F262 k x = some (middle x) := by
  obtain ⟨k, rfl⟩ := pred (d := 3) hk
  simp only [e262, f92 x.2 0 359 (show 1 ≤ k by omega), Option.bind_some, f314 x.1 (show 3 ≤ k by omega)]
  unfold middle
  cases inR x.2 0 359
  · rfl
  · simp only [Bool.not_true, Bool.false_eq_true, if_false, if_true]
    rw [f314 _ (by omega)]
    rfl
theorem f267 {k : Nat} (x : Int × Int) (hk : 4 ≤ k) : F267 k x = some (middle x) := by
  obtain ⟨k, rfl⟩ := pred (d := 3) hk
  simp only [e267, f319 x.2 (show 2 ≤ k by omega), Option.bind_some, f318 x.1 (show 3 ≤ k by omega)]
  unfold middle
  cases inR x.2 0 359
  · rfl
  · simp only [Bool.not_true, Bool.false_eq_true, if_false, if_true]
    rw [f318 _ (by omega)]
    rfl
def sunAt (s : T25) (t : Int) : Int := placeAt (0, 0, s.2.2.2.2.2.2.1, 0) t
theorem f263 {k : Nat} (s : T25) (t : Int) (hk : 5 ≤ k) : F263 k s t = some (sunAt s t) := by
  obtain ⟨k, rfl⟩ := pred (d := 4) hk
  rw [e263, f313 _ _ (by omega)]
  rfl
theorem f268 {k : Nat} (s : T25) (t : Int) (hk : 5 ≤ k) : F268 k s t = some (sunAt s t) := by
  obtain ⟨k, rfl⟩ := pred (d := 4) hk
  rw [e268, f317 _ _ (by omega)]
  rfl
def gap (a b : Int) : Int := mn (angle (IntKind.i64.wrap (angle a - angle b))) (IntKind.i64.wrap (360 - angle (IntKind.i64.wrap (angle a - angle b))))
theorem f261 {k : Nat} (a b : Int) (hk : 4 ≤ k) : F261 k a b = some (gap a b) := by
  obtain ⟨k, rfl⟩ := pred (d := 3) hk
  rw [e261, f314 _ (by omega), Option.bind_some, f314 _ (by omega), Option.bind_some, f314 _ (by omega), Option.bind_some, f98 _ _ (by omega)]
  rfl
theorem f266 {k : Nat} (a b : Int) (hk : 4 ≤ k) : F266 k a b = some (gap a b) := by
  obtain ⟨k, rfl⟩ := pred (d := 3) hk
  rw [e266, f318 _ (by omega), Option.bind_some, f318 _ (by omega), Option.bind_some, f318 _ (by omega), Option.bind_some]
  rfl
/-- 0: in the sun; 2: dark. -/
def shade (lim g w : Int) : Int := if decide (IntKind.i64.wrap (g - IntKind.i64.wrap (w.tdiv 2)) > lim) = true then 0 else if decide (IntKind.i64.wrap (g + IntKind.i64.wrap (w.tdiv 2)) ≤ lim) = true then 2 else 1
def shadow (s : T25) (n t : Int) : Int := if isSat s n then shade s.2.2.2.2.2.2.2.1 (gap (middle (satAt s n t)) (IntKind.i64.wrap (sunAt s t + 180))) (satAt s n t).2 else 0
theorem f189 {k : Nat} (s : T25) (n t : Int) (hl : s.2.1.length ≤ 140737488351232) (hk : 8 ≤ k) : F189 k s n t = some (shadow s n t) := by
  obtain ⟨k, rfl⟩ := pred (d := 7) hk
  rw [e189, f92 _ _ _ (by omega), inR_last _ hl, Option.bind_some]
  unfold shadow
  cases h : isSat s n with
  | false =>
    have h' : isIdx n (s.2.1.length : Int) = false := h
    rw [h']
    rfl
  | true =>
    have h' : isIdx n (s.2.1.length : Int) = true := h
    rw [h']
    simp only [Bool.not_true, Bool.false_eq_true, if_false, if_true]
    rw [f260 s n t hl h (by omega), Option.bind_some, f262 _ (by omega), Option.bind_some, f263 _ _ (by omega), Option.bind_some, f261 _ _ (by omega), Option.bind_some]
    unfold shade
    split
    · rfl
    · split <;> rfl
theorem f193 {k : Nat} (s : T25) (n t : Int) (hl : s.2.1.length ≤ 140737488351232) (hk : 8 ≤ k) : F193 k s n t = some (shadow s n t) := by
  obtain ⟨k, rfl⟩ := pred (d := 7) hk
  rw [e193, f264 s n hl (by omega), Option.bind_some]
  unfold shadow
  cases h : isSat s n with
  | false => rfl
  | true =>
    simp only [Bool.not_true, Bool.false_eq_true, if_false, if_true]
    rw [f265 s n t hl h (by omega), Option.bind_some, f267 _ (by omega), Option.bind_some, f268 _ _ (by omega), Option.bind_some, f266 _ _ (by omega), Option.bind_some]
    unfold shade
    split
    · rfl
    · split <;> rfl
/-! ### spans of light -/
def sput (xs : List (Int × Int)) (t : Int) : List (Int × Int) := match xs[xs.length - 1]? with
  | none => [(t, IntKind.i64.wrap (t + 1))]
  | some y => if y.2 == t then xs.set (xs.length - 1) (y.1, IntKind.i64.wrap (t + 1)) else xs ++ [(t, IntKind.i64.wrap (t + 1))]
theorem sput_len (xs : List (Int × Int)) (t : Int) : (sput xs t).length ≤ xs.length + 1 := by
  unfold sput
  split
  · simp
  · split <;> simp
theorem last_at {xs : List (Int × Int)} (h0 : 0 < xs.length) (h : xs.length ≤ 1048576) : IntKind.i64.wrap ((xs.length : Int) - 1) = ((xs.length - 1 : Nat) : Int) := by
  rw [wrap_id (by omega) (by omega)]
  omega
theorem f190 {k : Nat} (xs : List (Int × Int)) (t : Int) (hl : xs.length ≤ 1048576) (hk : 1 ≤ k) : F190 k xs t = some (sput xs t) := by
  obtain ⟨k, rfl⟩ := pred (d := 0) hk
  rw [e190]
  unfold sput
  by_cases h : 0 < xs.length
  · have e1 : decide ((xs.length : Int) > 0) = true := by simp; omega
    have e2 : ((xs.length - 1 : Nat) : Int).toNat = xs.length - 1 := by simp
    have h1 : xs.length - 1 < xs.length := by omega
    rw [e1, if_pos (show (true == true) = true from rfl), last_at h hl, if_pos (by omega), if_pos (by omega), e2, ix_at h1, List.getElem?_eq_getElem h1]
    simp only
    by_cases hq : (xs[xs.length - 1].2 == t) = true
    · rw [if_pos hq, if_pos hq, if_pos (by omega), if_pos (by omega), ix_at h1]
    · rw [if_neg hq, if_neg hq, if_pos (by simp; omega)]
  · have e1 : decide ((xs.length : Int) > 0) = false := decide_eq_false (by omega)
    have e0 : xs = [] := List.eq_nil_of_length_eq_zero (by omega)
    subst e0
    rfl
/-- The spans of the ticks i, i + 1, .. (m of them) where p holds. -/
def litFrom (p : Int → Bool) : List (Int × Int) → Nat → Nat → List (Int × Int)
  | xs, _, 0 => xs
  | xs, i, m + 1 => litFrom p (if p (i : Int) then sput xs (i : Int) else xs) (i + 1) m
theorem lit_len (p : Int → Bool) : ∀ (m i : Nat) (xs : List (Int × Int)), (litFrom p xs i m).length ≤ xs.length + m
  | 0, i, xs => by simp [litFrom]
  | m + 1, i, xs => by
    have := lit_len p m (i + 1) (if p (i : Int) then sput xs (i : Int) else xs)
    have h2 := sput_len xs (i : Int)
    simp only [litFrom]
    split at this <;> rename_i h <;> simp only [h] at * <;> simp at * <;> omega
def lit (s : T25) (n T : Int) : List (Int × Int) := litFrom (fun t => shadow s n t == 0) [] 0 (mn T 1000).toNat
theorem lit_le (s : T25) (n T : Int) : (lit s n T).length ≤ 1000 := by
  have h := lit_len (fun t => shadow s n t == 0) (mn T 1000).toNat 0 []
  have : mn T 1000 ≤ 1000 := by unfold mn; split <;> omega
  simp only [List.length_nil] at h
  unfold lit
  omega
theorem loop105 {k : Nat} (s : T25) (n : Int) (hl : s.2.1.length ≤ 140737488351232) (hk : 8 ≤ k) (N : Nat) (hN : N ≤ 1000) : ∀ (m q i : Nat) (xs : List (Int × Int)), i + m = N → m < q → xs.length + m ≤ 1048576 →
    L105_0 k (fun (v0 : Int × (List (Int × Int))) => some v0.2) (n, (N : Int), s) q ((i : Int), xs) = some (litFrom (fun t => shadow s n t == 0) xs i m)
  | 0, q + 1, i, xs, h, _, _ => by
    show (if decide ((i : Int) < (N : Int)) = true then _ else _) = _
    rw [if_neg (by simp; omega)]
    rfl
  | m + 1, q + 1, i, xs, h, hq, hx => by
    show (if decide ((i : Int) < (N : Int)) = true then (F189 k s n (i : Int)).bind _ else _) = _
    rw [if_pos (by simp; omega), f189 s n _ hl hk, Option.bind_some]
    have hw : IntKind.i64.wrap ((i : Int) + 1) = ((i + 1 : Nat) : Int) := by rw [wrap_id (by omega) (by omega)]; omega
    have h2 := sput_len xs (i : Int)
    simp only [litFrom]
    split
    · rw [f190 xs _ (by omega) (by omega), Option.bind_some]
      simp only [hw]
      exact loop105 s n hl hk N hN m q (i + 1) _ (by omega) (by omega) (by omega)
    · simp only [hw]
      exact loop105 s n hl hk N hN m q (i + 1) _ (by omega) (by omega) (by omega)
theorem f188 {k : Nat} (T : Int) (hk : 1 ≤ k) : F188 (k + 1) 0 T = some (0, ((mn T 1000).toNat : Int)) := by
  rw [e188, f175 _ _ hk, Option.bind_some, f98 _ _ hk, Option.bind_some, f98 _ _ hk, Option.bind_some, f175 _ _ hk, Option.bind_some]
  congr 1
  refine Prod.ext ?_ ?_
  · rfl
  · show mx 0 (mn 1000 T) = _
    unfold mx mn
    split <;> split <;> (try split) <;> omega
theorem f105 {k : Nat} (s : T25) (n T : Int) (hl : s.2.1.length ≤ 140737488351232) (hk : 1010 ≤ k) : F105 k s n 0 T = some (lit s n T) := by
  obtain ⟨k, rfl⟩ := pred (d := 1009) hk
  have hN : (mn T 1000).toNat ≤ 1000 := by
    have : mn T 1000 ≤ 1000 := by unfold mn; split <;> omega
    omega
  obtain ⟨k, rfl⟩ := pred (d := 1008) (show 1009 ≤ k by omega)
  rw [e105, f188 _ (by omega), Option.bind_some]
  exact loop105 s n hl (by omega) _ hN (mn T 1000).toNat (k + 1) 0 [] (by omega) (by omega) (by simp; omega)
theorem f192 {k : Nat} (s : T25) (n t : Int) (hl : s.2.1.length ≤ 140737488351232) (hk : 9 ≤ k) : F192v0 k t s.1 s.2.1 s.2.2.1 s.2.2.2.1 s.2.2.2.2.1 s.2.2.2.2.2.1 s.2.2.2.2.2.2.1 s.2.2.2.2.2.2.2.1 s.2.2.2.2.2.2.2.2.1 s.2.2.2.2.2.2.2.2.2 n = some (shadow s n t == 0) := by
  obtain ⟨k, rfl⟩ := pred (d := 8) hk
  rw [e192v0, f193 _ _ _ hl (by omega)]
  rfl
theorem loop191 {k : Nat} (s : T25) (n T : Int) (hl : s.2.1.length ≤ 140737488351232) (hk : 9 ≤ k) (N : Nat) (hN : N ≤ 1000) (hT : (mn T 1000).toNat = N) : ∀ (m q i : Nat) (xs : List (Int × Int)), i + m = N → m < q → xs.length + m ≤ 1048576 →
    L191v0_0 k (fun (v0 : Int × (List (Int × Int))) => some v0.2) (T, s.1, s.2.1, s.2.2.1, s.2.2.2.1, s.2.2.2.2.1, s.2.2.2.2.2.1, s.2.2.2.2.2.2.1, s.2.2.2.2.2.2.2.1, s.2.2.2.2.2.2.2.2.1, s.2.2.2.2.2.2.2.2.2, n) q ((i : Int), xs) = some (litFrom (fun t => shadow s n t == 0) xs i m)
  | 0, q + 1, i, xs, h, _, _ => by
    show (if decide ((i : Int) < mn T 1000) = true then _ else _) = _
    rw [if_neg (by simp; omega)]
    rfl
  | m + 1, q + 1, i, xs, h, hq, hx => by
    show (if decide ((i : Int) < mn T 1000) = true then (F192v0 k (i : Int) s.1 s.2.1 s.2.2.1 s.2.2.2.1 s.2.2.2.2.1 s.2.2.2.2.2.1 s.2.2.2.2.2.2.1 s.2.2.2.2.2.2.2.1 s.2.2.2.2.2.2.2.2.1 s.2.2.2.2.2.2.2.2.2 n).bind _ else _) = _
    rw [if_pos (by simp; omega), f192 s n _ hl hk, Option.bind_some]
    have hw : IntKind.i64.wrap ((i : Int) + 1) = ((i + 1 : Nat) : Int) := by rw [wrap_id (by omega) (by omega)]; omega
    have h2 := sput_len xs (i : Int)
    simp only [litFrom]
    by_cases hs : (shadow s n (i : Int) == 0) = true
    · rw [if_pos hs, hs, if_neg (by decide)]
      have ih := loop191 s n T hl hk N hN hT m q (i + 1) (sput xs (i : Int)) (by omega) (by omega) (by omega)
      rw [← ih]
      unfold sput
      by_cases h0 : 0 < xs.length
      · have h1 : xs.length - 1 < xs.length := by omega
        have e2 : ((xs.length - 1 : Nat) : Int).toNat = xs.length - 1 := by simp
        have e1 : decide (((xs.length - 1 : Nat) : Int) ≥ 0) = true := by simp
        rw [last_at h0 (by omega), e1, if_pos (show (true == true) = true from rfl), if_pos (by omega), if_pos (by omega), e2, ix_at h1, List.getElem?_eq_getElem h1]
        simp only
        by_cases hq : (xs[xs.length - 1].2 == (i : Int)) = true
        · rw [if_pos hq, if_pos (by omega), if_pos (by omega), ix_at h1, if_pos (by omega), if_pos (by omega), ix_at h1, if_pos hq, hw]
          have : xs[xs.length - 1].2 = (i : Int) := by simpa using hq
          rw [this, hw]
        · rw [if_neg hq, if_neg hq, if_pos (by simp; omega), hw]
      · have e0 : xs = [] := List.eq_nil_of_length_eq_zero (by omega)
        subst e0
        rw [if_neg (show ¬ (decide (IntKind.i64.wrap ((([] : List (Int × Int)).length : Int) - 1) ≥ 0) == true) = true from by decide), if_pos (by simp), hw]
        rfl
    · have hs' : (shadow s n (i : Int) == 0) = false := by simpa using hs
      rw [if_neg hs, hs', if_pos (by decide), hw]
      exact loop191 s n T hl hk N hN hT m q (i + 1) xs (by omega) (by omega) (by omega)
theorem f106 {k : Nat} (s : T25) (n T : Int) (hl : s.2.1.length ≤ 140737488351232) (hk : 1011 ≤ k) : F106 k s n 0 T = some (lit s n T) := by
  obtain ⟨k, rfl⟩ := pred (d := 1010) hk
  have hN : (mn T 1000).toNat ≤ 1000 := by
    have : mn T 1000 ≤ 1000 := by unfold mn; split <;> omega
    omega
  obtain ⟨k, rfl⟩ := pred (d := 1009) (show 1010 ≤ k by omega)
  rw [e106, e191v0]
  have e : mx 0 0 = ((0 : Nat) : Int) := rfl
  rw [e, loop191 s n T hl (by omega) _ hN rfl (mn T 1000).toNat k 0 [] (by omega) (by omega) (by simp; omega)]
  rfl
def litOf (w : TW) (n : Int) : List (Int × Int) := lit w.1 n w.2.2.2.2.2.2.2.2.2.2.2.1
theorem f31 {k : Nat} (w : TW) (n : Int) (hl : w.1.2.1.length ≤ 140737488351232) (hk : 1011 ≤ k) : F31 k w n = some (litOf w n) := by
  obtain ⟨k, rfl⟩ := pred (d := 1010) hk
  rw [e31, f105 _ _ _ hl (by omega)]
  rfl
theorem f32 {k : Nat} (w : TW) (n : Int) (hl : w.1.2.1.length ≤ 140737488351232) (hk : 1012 ≤ k) : F32 k w n = some (litOf w n) := by
  obtain ⟨k, rfl⟩ := pred (d := 1011) hk
  rw [e32, f106 _ _ _ hl (by omega)]
  rfl
/-! ### is it light -/
def inSpans (xs : List (Int × Int)) (t : Int) : Bool := xs.any fun s => inSpan s t
theorem f174 {k : Nat} (xs : List (Int × Int)) (t : Int) (hl : xs.length ≤ 140737488351232) (hk : xs.length + 4 ≤ k) : F174 k xs t = some (inSpans xs t) := by
  obtain ⟨k, rfl⟩ := pred (d := 0) (show 1 ≤ k by omega)
  refine (e174 k xs t).trans (row_i (a := xs) (fun _ l => some (inSpans l t)) (fun _ _ => rfl) hl rfl (fun m i x r h0 hn hw hi hx ih => ?_) (by omega))
  dsimp only
  rw [hw, ih, f255 _ _ (by omega), Option.bind_some]
  unfold inSpans
  rw [List.any_cons]
  cases inSpan x t <;> rfl
def tickRow (p : Nat → Bool) : List Bool := (List.range 1000).map p
theorem tick_set (p : Nat → Bool) {j : Nat} (hj : j < 1000) : (tickRow p).set j true = tickRow fun u => p u || u == j := by
  unfold tickRow
  apply List.ext_getElem
  · simp
  · intro u h1 h2
    simp only [List.length_set, List.length_map, List.length_range] at h1
    rw [List.getElem_set]
    simp only [List.getElem_map, List.getElem_range]
    by_cases e : j = u
    · subst e; simp
    · rw [if_neg e]
      have : (u == j) = false := by simp; omega
      rw [this, Bool.or_false]
theorem loop256_1 {k : Nat} {R : Type} (X : V256_1 → Option R) (c : C256_1) (N : Nat) (hN : N ≤ 1000) (hc : c.2.2.2.2 = (N : Int)) : ∀ (m q i : Nat) (p : Nat → Bool), i + m = N → m < q →
    L256_1 k X c q ((i : Int), tickRow p) = X ((N : Int), tickRow fun u => p u || (decide (i ≤ u) && decide (u < N)))
  | 0, q + 1, i, p, h, _ => by
    show (if decide ((i : Int) < c.2.2.2.2) = true then _ else _) = _
    rw [hc, if_neg (by simp; omega)]
    have e : (fun u => p u || (decide (i ≤ u) && decide (u < N))) = p := by
      funext u
      have : (decide (i ≤ u) && decide (u < N)) = false := by simp; omega
      rw [this, Bool.or_false]
    have hi : i = N := by omega
    rw [e, hi]
  | m + 1, q + 1, i, p, h, hq => by
    show (if decide ((i : Int) < c.2.2.2.2) = true then (if 0 ≤ (i : Int) then (if (i : Int) < ((tickRow p).length : Int) then ix (tickRow p) (i : Int).toNat fun _ => L256_1 k X c q ((IntKind.i64.wrap ((i : Int) + 1)), ((tickRow p).set (i : Int).toNat true)) else none) else none) else _) = _
    have hlen : (tickRow p).length = 1000 := by simp [tickRow]
    have hn : (i : Int).toNat = i := by simp
    rw [hc, if_pos (by simp; omega), if_pos (by omega), if_pos (by omega), hn, ix_at (by omega), tick_set p (by omega)]
    have hw : IntKind.i64.wrap ((i : Int) + 1) = ((i + 1 : Nat) : Int) := by rw [wrap_id (by omega) (by omega)]; omega
    rw [hw, loop256_1 X c N hN hc m q (i + 1) _ (by omega) (by omega)]
    congr 2
    refine congrArg tickRow (funext fun u => ?_)
    by_cases e : u = i
    · subst e
      have : decide (u < N) = true := by simp; omega
      simp [this]
    · have e1 : (u == i) = false := by simp [e]
      have e2 : decide (i + 1 ≤ u) = decide (i ≤ u) := by
        by_cases h : i ≤ u
        · rw [decide_eq_true h, decide_eq_true (by omega)]
        · rw [decide_eq_false h, decide_eq_false (by omega)]
      rw [e1, e2, Bool.or_false]
theorem f256 {k : Nat} (xs : List (Int × Int)) (hl : xs.length ≤ 140737488351232) (hk : xs.length + 1010 ≤ k) : F256 k xs = some (tickRow fun u => inSpans xs (u : Int)) := by
  obtain ⟨k, rfl⟩ := pred (d := 0) (show 1 ≤ k by omega)
  have e0 : List.replicate (1000 : Int).toNat false = tickRow fun _ => false := by
    unfold tickRow
    rw [List.map_const']
    simp
  refine (e256 k xs).trans ?_
  rw [e0]
  refine (row_s0 (S := Nat → Bool) (a := xs) (fun p i => (i, tickRow p)) (fun p _ l => some (tickRow fun u => p u || inSpans l (u : Int))) (fun _ _ _ => rfl) hl (fun p => by simp [inSpans]) (fun m i p x r h0 hn hw hi hx ih => ?_) (by omega) (fun _ => false)).trans ?_
  · dsimp only
    rw [f209 _ (by omega), Option.bind_some, hw]
    cases hs : isSpan x with
    | false =>
      rw [if_neg (by decide), ih]
      have e : ∀ u : Int, inSpan x u = false := fun u => by unfold inSpan; rw [hs]; rfl
      simp [inSpans, e]
    | true =>
      have hs' := hs
      unfold isSpan at hs'
      simp only [Bool.and_eq_true, decide_eq_true_eq] at hs'
      rw [if_pos rfl]
      obtain ⟨a, ha⟩ : ∃ a : Nat, x.1 = (a : Int) := ⟨x.1.toNat, by omega⟩
      obtain ⟨b, hb⟩ : ∃ b : Nat, x.2 = (b : Int) := ⟨x.2.toNat, by omega⟩
      rw [ha, loop256_1 _ _ b (by omega) hb (b - a) _ a p (by omega) (by omega)]
      simp only
      rw [ih]
      congr 1
      refine congrArg tickRow (funext fun u => ?_)
      have e : inSpan x (u : Int) = (decide (a ≤ u) && decide (u < b)) := by
        unfold inSpan
        rw [hs, ha, hb, Bool.true_and]
        congr 1
        · by_cases h : a ≤ u
          · rw [decide_eq_true h, decide_eq_true (by omega)]
          · rw [decide_eq_false h, decide_eq_false (by omega)]
        · by_cases h : u < b
          · rw [decide_eq_true h, decide_eq_true (by omega)]
          · rw [decide_eq_false h, decide_eq_false (by omega)]
      unfold inSpans
      rw [List.any_cons, e, Bool.or_assoc]
  · simp
end Go.Proofs.YtonfioejmldhcaaGreat.World
namespace Go.Proofs.YtonfioejmldhcaaGreat.World
open Go Go.V Go.Proofs
set_option linter.unusedVariables false
set_option linter.unusedSimpArgs false
set_option maxRecDepth 100000
abbrev TB := Int × Int × Int × Int × Int × Int
def needStep (b : TB) (xs : List (Int × Int)) (u v : Int) : Int := if inSpans xs u then mx 0 (IntKind.i64.wrap (IntKind.i64.wrap (v + b.2.2.2.1) - b.2.2.2.2.2)) else mx 0 (IntKind.i64.wrap (v + b.2.2.2.1))
/-- What is needed at tick lo, m ticks ahead of the end. -/
def needFrom (b : TB) (xs : List (Int × Int)) : Nat → Nat → Int
  | _, 0 => 0
  | lo, m + 1 => needStep b xs (lo : Int) (needFrom b xs (lo + 1) m)
theorem need_at (b : TB) (xs : List (Int × Int)) {lo m n : Nat} (h : m + 1 ≤ n) : needFrom b xs (lo + m) (n - m) = needStep b xs ((lo + m : Nat) : Int) (needFrom b xs (lo + (m + 1)) (n - (m + 1))) := by
  have : n - m = (n - (m + 1)) + 1 := by omega
  rw [this, needFrom]
  rfl
theorem loop93 {k : Nat} (b : TB) (xs : List (Int × Int)) (hl : xs.length ≤ 1000) (hk : 1004 ≤ k) (lo n : Nat) (hn : lo + n ≤ 1000) : ∀ (m q : Nat), m ≤ n → m < q →
    L93_0 k (fun (v0 : Int × Int) => some v0.1) (xs, (lo : Int), b) q (needFrom b xs (lo + m) (n - m), ((lo + m : Nat) : Int) - 1) = some (needFrom b xs lo n)
  | 0, q + 1, _, _ => by
    show (if decide (((lo + 0 : Nat) : Int) - 1 ≥ (lo : Int)) = true then _ else _) = _
    rw [if_neg (by simp; omega)]
    rfl
  | m + 1, q + 1, hm, hq => by
    have e : ((lo + (m + 1) : Nat) : Int) - 1 = ((lo + m : Nat) : Int) := by omega
    rw [e]
    show (if decide (((lo + m : Nat) : Int) ≥ (lo : Int)) = true then (F174 k xs ((lo + m : Nat) : Int)).bind _ else _) = _
    have hw : IntKind.i64.wrap (((lo + m : Nat) : Int) - 1) = ((lo + m : Nat) : Int) - 1 := wrap_id (by omega) (by omega)
    rw [if_pos (by simp; omega), f174 _ _ (by omega) (by omega), Option.bind_some]
    have ih := loop93 b xs hl hk lo n hn m q (by omega) (by omega)
    rw [need_at b xs hm] at ih
    unfold needStep at ih
    cases hs : inSpans xs ((lo + m : Nat) : Int) with
    | true =>
      rw [if_pos rfl, f175 _ _ (by omega), Option.bind_some, hw]
      rw [hs, if_pos rfl] at ih
      exact ih
    | false =>
      rw [if_neg (by decide), f175 _ _ (by omega), Option.bind_some, hw]
      rw [hs, if_neg (by decide)] at ih
      exact ih
def rates (b : TB) : Bool := inR b.2.2.2.1 0 100 && inR b.2.2.2.2.2 0 100
theorem f173 {k : Nat} (b : TB) (hk : 2 ≤ k) : F173 k b = some (rates b) := by
  obtain ⟨k, rfl⟩ := pred (d := 1) hk
  rw [e173, f92 _ _ _ (by omega), Option.bind_some]
  unfold rates
  cases inR b.2.2.2.1 0 100
  · rfl
  · rw [if_pos (show (true == true) = true from rfl), f92 _ _ _ (by omega)]
    rfl
def needAt (b : TB) (xs : List (Int × Int)) (lo hi : Int) : Int := if rates b then if lo < 0 then 0 else if hi > 1000 then 0 else if hi ≤ lo then 0 else needFrom b xs lo.toNat (hi - lo).toNat else 0
theorem f93 {k : Nat} (b : TB) (xs : List (Int × Int)) (lo hi : Int) (hl : xs.length ≤ 1000) (hk : 1006 ≤ k) : F93 k b xs lo hi = some (needAt b xs lo hi) := by
  obtain ⟨k, rfl⟩ := pred (d := 1005) hk
  rw [e93, f173 _ (by omega), Option.bind_some]
  unfold needAt
  cases rates b
  · rfl
  · rw [if_pos (show ((!true) == false) = true from rfl), if_pos rfl]
    by_cases h1 : lo < 0
    · rw [if_neg (by simp; omega), if_pos h1]
    · rw [if_pos (by simp; omega), if_neg h1]
      by_cases h2 : hi > 1000
      · rw [if_neg (by simp; omega), if_pos h2]
      · rw [if_pos (by simp; omega), if_neg h2]
        by_cases h3 : hi ≤ lo
        · rw [if_pos (by simpa using h3), if_pos h3]
        · rw [if_neg (by simpa using h3), if_neg h3]
          obtain ⟨a, rfl⟩ : ∃ a : Nat, lo = (a : Int) := ⟨lo.toNat, by omega⟩
          obtain ⟨c, rfl⟩ : ∃ c : Nat, hi = (c : Int) := ⟨hi.toNat, by omega⟩
          have e1 : ((c : Int) - (a : Int)).toNat = c - a := by omega
          have e2 : (a : Int).toNat = a := by simp
          have := loop93 b xs hl (show 1004 ≤ k by omega) a (c - a) (by omega) (c - a) k (by omega) (by omega)
          rw [show a + (c - a) = c by omega, show c - a - (c - a) = 0 by omega] at this
          rw [e1, e2, wrap_id (by omega) (by omega)]
          exact this
theorem loop176 {k : Nat} (b : TB) (xs : List (Int × Int)) (lo n : Nat) (hn : lo + n ≤ 1000) : ∀ (m q : Nat) (out : List Int), m ≤ n → m < q → out.length = n + 1 → out[m]? = some (needFrom b xs (lo + m) (n - m)) →
    ∃ out', L176_0 k (fun (v0 : Int × (List Int)) => some v0.2) ((lo : Int), tickRow (fun u => inSpans xs (u : Int)), b) q (((lo + m : Nat) : Int) - 1, out) = some out' ∧ out'[0]? = some (needFrom b xs lo n)
  | 0, q + 1, out, _, _, _, h0 => by
    refine ⟨out, ?_, h0⟩
    show (if decide (((lo + 0 : Nat) : Int) - 1 ≥ (lo : Int)) = true then _ else _) = _
    rw [if_neg (by simp; omega)]
  | m + 1, q + 1, out, hm, hq, hlen, h0 => by
    have hm1 : m + 1 < out.length := by omega
    have hm0 : m < out.length := by omega
    have e : ((lo + (m + 1) : Nat) : Int) - 1 = ((lo + m : Nat) : Int) := by omega
    have h0' : out[m + 1] = needFrom b xs (lo + (m + 1)) (n - (m + 1)) := by
      rw [List.getElem?_eq_getElem hm1] at h0
      exact Option.some.inj h0
    obtain ⟨out', h1, h2⟩ := loop176 (k := k) b xs lo n hn m q (out.set m (needFrom b xs (lo + m) (n - m))) (by omega) (by omega) (by simpa using hlen) (by rw [List.getElem?_set]; simp [hm0])
    refine ⟨out', ?_, h2⟩
    rw [← h1, e]
    have hw : IntKind.i64.wrap (((lo + m : Nat) : Int) - 1) = ((lo + m : Nat) : Int) - 1 := wrap_id (by omega) (by omega)
    have hw1 : IntKind.i64.wrap (((lo + m : Nat) : Int) - (lo : Int)) = (m : Int) := by rw [wrap_id (by omega) (by omega)]; omega
    have hw2 : IntKind.i64.wrap ((m : Int) + 1) = ((m + 1 : Nat) : Int) := by rw [wrap_id (by omega) (by omega)]; omega
    have hn1 : ((m + 1 : Nat) : Int).toNat = m + 1 := by simp
    have hn0 : (m : Int).toNat = m := by simp
    have hnu : ((lo + m : Nat) : Int).toNat = lo + m := by omega
    have htl : (tickRow (fun u => inSpans xs (u : Int))).length = 1000 := by simp [tickRow]
    have ht : (tickRow (fun u => inSpans xs (u : Int)))[lo + m]'(by omega) = inSpans xs ((lo + m : Nat) : Int) := by simp [tickRow]
    show (B176_0 k (fun (v0 : Int × (List Int)) => some v0.2) ((lo : Int), tickRow (fun u => inSpans xs (u : Int)), b) (L176_0 k (fun (v0 : Int × (List Int)) => some v0.2) ((lo : Int), tickRow (fun u => inSpans xs (u : Int)), b) q) (((lo + m : Nat) : Int), out)) = _
    unfold B176_0
    dsimp only
    rw [if_pos (by simp; omega), hw1, hw2, hn1, hn0, hnu, hw, if_pos (by omega), if_pos (by omega), ix_at hm1, h0', if_pos (by omega), ix_at (by omega), ht, need_at b xs hm]
    unfold needStep
    split
    · rename_i hs
      rw [if_pos (by omega), if_pos (by omega), ix_at hm0]
    · rename_i hs
      rw [if_pos (by omega), if_pos (by omega), ix_at hm0]
theorem f176 {k : Nat} (b : TB) (xs : List (Int × Int)) (lo hi : Int) (hl : xs.length ≤ 1000) (hk : 2012 ≤ k) : ∃ out, F176 k b xs lo hi = some out ∧ out[0]? = some (needAt b xs lo hi) := by
  obtain ⟨k, rfl⟩ := pred (d := 2011) hk
  rw [e176, f135 _ _ _ (by omega), Option.bind_some]
  unfold needAt rates
  cases h0 : inR b.2.2.2.1 0 100
  · exact ⟨_, rfl, rfl⟩
  · rw [if_pos (show ((!true) == false) = true from rfl), f135 _ _ _ (by omega), Option.bind_some]
    cases h0' : inR b.2.2.2.2.2 0 100
    · exact ⟨_, rfl, rfl⟩
    · rw [if_pos (show ((!true) == false) = true from rfl), if_pos (show (true && true) = true from rfl)]
      by_cases h1 : lo < 0
      · rw [if_neg (by simp; omega), if_pos h1]; exact ⟨_, rfl, rfl⟩
      · rw [if_pos (by simp; omega), if_neg h1]
        by_cases h2 : hi > 1000
        · rw [if_neg (by simp; omega), if_pos h2]; exact ⟨_, rfl, rfl⟩
        · rw [if_pos (by simp; omega), if_neg h2]
          by_cases h3 : hi ≤ lo
          · rw [if_pos (by simpa using h3), if_pos h3]; exact ⟨_, rfl, rfl⟩
          · rw [if_neg (by simp; omega), if_neg h3, f256 _ (by omega) (by omega), Option.bind_some]
            obtain ⟨a, rfl⟩ : ∃ a : Nat, lo = (a : Int) := ⟨lo.toNat, by omega⟩
            obtain ⟨c, rfl⟩ : ∃ c : Nat, hi = (c : Int) := ⟨hi.toNat, by omega⟩
            have e1 : ((c : Int) - (a : Int)).toNat = c - a := by omega
            have e2 : (a : Int).toNat = a := by simp
            have hw : IntKind.i64.wrap (IntKind.i64.wrap ((c : Int) - (a : Int)) + 1) = ((c - a + 1 : Nat) : Int) := by
              rw [wrap_id (n := (c : Int) - (a : Int)) (by omega) (by omega), wrap_id (by omega) (by omega)]
              omega
            have hw1 : IntKind.i64.wrap ((c : Int) - 1) = ((a + (c - a) : Nat) : Int) - 1 := by rw [wrap_id (by omega) (by omega)]; omega
            have hn1 : ((c - a + 1 : Nat) : Int).toNat = c - a + 1 := by simp
            rw [hw, if_pos rfl, if_pos (by omega), hn1, if_pos (by omega), hw1, e1, e2]
            exact loop176 b xs a (c - a) (by omega) (c - a) k _ (by omega) (by omega) (by simp) (by rw [show c - a - (c - a) = 0 by omega]; rw [List.getElem?_replicate]; simp [needFrom])
theorem f95 {k : Nat} (b : TB) (xs : List (Int × Int)) (lo hi : Int) (hl : xs.length ≤ 1000) (hk : 2013 ≤ k) : F95 k b xs lo hi = some (needAt b xs lo hi) := by
  obtain ⟨k, rfl⟩ := pred (d := 2012) hk
  obtain ⟨out, h1, h2⟩ := f176 (k := k) b xs lo hi hl (by omega)
  rw [e95, h1, Option.bind_some]
  have hlt : 0 < out.length := by
    rcases Nat.eq_zero_or_pos out.length with h | h
    · rw [List.getElem?_eq_none (by omega)] at h2; cases h2
    · exact h
  rw [if_pos (by omega)]
  unfold ix
  rw [show (0 : Int).toNat = 0 from rfl, h2]
theorem litOf_le (w : TW) (n : Int) : (litOf w n).length ≤ 1000 := lit_le _ _ _
def needNow (w : TW) (n : Int) : Int := if isIdx n (w.2.2.2.2.1.length : Int) then match w.2.2.2.2.1[n.toNat]? with
  | some b => needAt b (litOf w n) w.2.2.2.2.2.2.2.2.2.2.1 w.2.2.2.2.2.2.2.2.2.2.2.1
  | none => 0
  else 0
theorem f23 {k : Nat} (w : TW) (n : Int) (h1 : w.1.2.1.length ≤ 1048576) (h2 : w.2.2.2.2.1.length ≤ 1048576) (hk : 1020 ≤ k) : F23 k w n = some (needNow w n) := by
  obtain ⟨k, rfl⟩ := pred (d := 1019) hk
  rw [e23, f92 _ _ _ (by omega), inR_last _ (by omega), Option.bind_some]
  unfold needNow
  cases h : isIdx n (w.2.2.2.2.1.length : Int) with
  | false => rfl
  | true =>
    obtain ⟨h0, hlt⟩ := isIdx_pos h
    rw [if_neg (by decide), if_pos h0, ix_at hlt, List.getElem?_eq_getElem hlt, f31 w n (by omega) (by omega), Option.bind_some, f93 _ _ _ _ (litOf_le w n) (by omega)]
    rfl
theorem f24 {k : Nat} (w : TW) (n : Int) (h1 : w.1.2.1.length ≤ 1048576) (h2 : w.2.2.2.2.1.length ≤ 1048576) (hk : 2020 ≤ k) : F24 k w n = some (needNow w n) := by
  obtain ⟨k, rfl⟩ := pred (d := 2019) hk
  rw [e24, f94 _ _ (by omega), Option.bind_some]
  unfold needNow
  cases h : isIdx n (w.2.2.2.2.1.length : Int) with
  | false => rfl
  | true =>
    obtain ⟨h0, hlt⟩ := isIdx_pos h
    rw [if_neg (by decide), if_pos h0, ix_at hlt, List.getElem?_eq_getElem hlt, f32 w n (by omega) (by omega), Option.bind_some, f95 _ _ _ _ (litOf_le w n) (by omega)]
    rfl
theorem law4 (w : T40) (n : Int) (hr : rowsLe 140737488351232 s40 w) : ∃ k, F4 k w n = some true := by
  refine ⟨szT s40 w + 3000, ?_⟩
  rw [e4, z14 _ w 1048576 hr (by omega) (by omega) (by omega), Option.bind_some]
  by_cases hz : szT s40 w ≤ 1048576
  · rw [szR_pos (by omega), if_neg (by simp; omega)]
    have hrow := rows_le s40 w _ (Nat.le_refl _)
    have h1 : w.1.2.1.length ≤ szT s40 w := (rowsLe_row hrow.1.2.1).1
    have h2 : w.2.2.2.2.1.length ≤ szT s40 w := (rowsLe_row hrow.2.2.2.2.1).1
    have e60 : szT s60 w = szT s40 w := rfl
    simp only [t16 _ w hz (show szT s40 w + 7 < szT s40 w + 2999 by omega), Option.bind_some, f23 w n (show w.1.2.1.length ≤ 1048576 by omega) (show w.2.2.2.2.1.length ≤ 1048576 by omega) (show 1020 ≤ szT s40 w + 2999 by omega), f24 w n (show w.1.2.1.length ≤ 1048576 by omega) (show w.2.2.2.2.1.length ≤ 1048576 by omega) (show 2020 ≤ szT s40 w + 2999 by omega)]
    rw [if_neg (by simp), q19 _ w (by rw [e60]; exact hz) (by rw [e60]; omega), Option.bind_some]
    rfl
  · rw [szR_neg (by omega), if_pos (by decide)]
/-! ### may it send -/
def isBat (b : TB) : Bool := inR b.2.2.2.1 0 100 && (inR b.2.2.2.2.1 0 100 && (inR b.2.2.2.2.2 0 100 && (inR b.2.1 0 10000 && (inR b.2.2.1 0 b.2.1 && inR b.1 b.2.2.1 b.2.1))))
theorem f185 {k : Nat} (b : TB) (hk : 3 ≤ k) : F185 k b = some (isBat b) := by
  obtain ⟨k, rfl⟩ := pred (d := 2) hk
  simp only [e185, f173 b (show 2 ≤ k by omega), Option.bind_some, f92 _ _ _ (show 1 ≤ k by omega)]
  unfold isBat rates
  cases inR b.2.2.2.1 0 100 <;> cases inR b.2.2.2.2.1 0 100 <;> cases inR b.2.2.2.2.2 0 100 <;> cases inR b.2.1 0 10000 <;> cases inR b.2.2.1 0 b.2.1 <;> rfl
theorem f187 {k : Nat} (b : TB) (hk : 2 ≤ k) : F187 k b = some (isBat b) := by
  obtain ⟨k, rfl⟩ := pred (d := 1) hk
  simp only [e187, Option.bind_some, f135 _ _ _ (show 1 ≤ k by omega)]
  unfold isBat
  cases inR b.2.2.2.1 0 100 <;> cases inR b.2.2.2.2.1 0 100 <;> cases inR b.2.2.2.2.2 0 100 <;> cases inR b.2.1 0 10000 <;> cases inR b.2.2.1 0 b.2.1 <;> rfl
def maySend (b : TB) (v : Int) : Bool := isBat b && (inR v 0 10000 && decide (IntKind.i64.wrap (b.1 - b.2.2.2.2.1) ≥ IntKind.i64.wrap (b.2.2.1 + v)))
theorem f102 {k : Nat} (b : TB) (v : Int) (hk : 4 ≤ k) : F102 k b v = some (maySend b v) := by
  obtain ⟨k, rfl⟩ := pred (d := 3) hk
  simp only [e102, f185 b (show 3 ≤ k by omega), Option.bind_some, f92 _ _ _ (show 1 ≤ k by omega)]
  unfold maySend
  cases isBat b <;> cases inR v 0 10000 <;> rfl
theorem f104 {k : Nat} (b : TB) (v : Int) (hk : 4 ≤ k) : F104 k b v = some (maySend b v) := by
  obtain ⟨k, rfl⟩ := pred (d := 3) hk
  simp only [e104, f187 b (show 2 ≤ k by omega), Option.bind_some, f135 _ _ _ (show 1 ≤ k by omega)]
  unfold maySend
  cases isBat b <;> cases inR v 0 10000 <;> rfl
def canSend (w : TW) (n : Int) : Bool := isIdx n w.2.1.1 && (!down w.2.2.2.2.2.2.2.2.2.1 n w.2.2.2.2.2.2.2.2.2.2.1 && (if n ≥ w.2.1.2.1 then true else if isIdx n (w.2.2.2.2.1.length : Int) then match w.2.2.2.2.1[n.toNat]? with
  | some b => maySend b (needNow w n)
  | none => false
  else false))
theorem f29 {k : Nat} (w : TW) (n : Int) (h1 : w.1.2.1.length ≤ 1048576) (h2 : w.2.2.2.2.1.length ≤ 1048576) (h3 : w.2.2.2.2.2.2.2.2.2.1.length ≤ 1048576) (hk : w.2.2.2.2.2.2.2.2.2.1.length + 1030 ≤ k) : F29 k w n = some (canSend w n) := by
  obtain ⟨k, rfl⟩ := pred (d := 1029) (show 1030 ≤ k by omega)
  rw [e29]
  unfold canSend
  by_cases g1 : n < 0
  · rw [if_neg (by simp; omega)]
    have : isIdx n w.2.1.1 = false := by unfold isIdx; simp; omega
    rw [this]
    rfl
  · rw [if_pos (by simp; omega)]
    by_cases g2 : n ≥ w.2.1.1
    · rw [if_neg (by simp; omega)]
      have : isIdx n w.2.1.1 = false := by unfold isIdx; simp; omega
      rw [this]
      rfl
    · rw [if_pos (by simp; omega), f101 _ _ _ (by omega) (by omega), Option.bind_some]
      have : isIdx n w.2.1.1 = true := by unfold isIdx; simp; omega
      rw [this]
      cases down w.2.2.2.2.2.2.2.2.2.1 n w.2.2.2.2.2.2.2.2.2.2.1
      · rw [if_neg (by decide)]
        by_cases g3 : n ≥ w.2.1.2.1
        · rw [if_pos (by simpa using g3), if_pos g3]; rfl
        · rw [if_neg (by simpa using g3), if_neg g3]
          cases h : isIdx n (w.2.2.2.2.1.length : Int) with
          | false =>
            have : ¬ n < (w.2.2.2.2.1.length : Int) := fun hlt => by unfold isIdx at h; simp at h; omega
            rw [if_neg (by simp; omega)]
            rfl
          | true =>
            obtain ⟨h0, hlt⟩ := isIdx_pos h
            rw [if_pos (by simp; omega), if_pos h0, ix_at hlt, List.getElem?_eq_getElem hlt, f23 w n h1 h2 (by omega), Option.bind_some, f102 _ _ (by omega)]
            rfl
      · rfl
theorem f30 {k : Nat} (w : TW) (n : Int) (h1 : w.1.2.1.length ≤ 1048576) (h2 : w.2.2.2.2.1.length ≤ 1048576) (h3 : w.2.2.2.2.2.2.2.2.2.1.length ≤ 1048576) (hk : w.2.2.2.2.2.2.2.2.2.1.length + 2030 ≤ k) : F30 k w n = some (canSend w n) := by
  obtain ⟨k, rfl⟩ := pred (d := 2029) (show 2030 ≤ k by omega)
  rw [e30, f94 _ _ (by omega), Option.bind_some]
  unfold canSend
  cases isIdx n w.2.1.1
  · rfl
  · rw [if_pos (by decide), f103 _ _ _ (by omega) (by omega), Option.bind_some]
    cases down w.2.2.2.2.2.2.2.2.2.1 n w.2.2.2.2.2.2.2.2.2.2.1
    · rw [if_neg (by decide)]
      by_cases g3 : n ≥ w.2.1.2.1
      · rw [if_neg (by simp; omega), if_pos g3]; rfl
      · rw [if_pos (by simp; omega), if_neg g3, f94 _ _ (by omega), Option.bind_some]
        cases h : isIdx n (w.2.2.2.2.1.length : Int) with
        | false => rfl
        | true =>
          obtain ⟨h0, hlt⟩ := isIdx_pos h
          rw [if_pos (by decide), if_pos h0, ix_at hlt, List.getElem?_eq_getElem hlt, f24 w n h1 h2 (by omega), Option.bind_some, f104 _ _ (by omega)]
          rfl
    · rfl
theorem law7 (w : T40) (n : Int) (hr : rowsLe 140737488351232 s40 w) : ∃ k, F7 k w n = some true := by
  refine ⟨szT s40 w + 3000, ?_⟩
  rw [e7, z14 _ w 1048576 hr (by omega) (by omega) (by omega), Option.bind_some]
  by_cases hz : szT s40 w ≤ 1048576
  · rw [szR_pos (by omega), if_neg (by simp; omega)]
    have hrow := rows_le s40 w _ (Nat.le_refl _)
    have h1 : w.1.2.1.length ≤ szT s40 w := (rowsLe_row hrow.1.2.1).1
    have h2 : w.2.2.2.2.1.length ≤ szT s40 w := (rowsLe_row hrow.2.2.2.2.1).1
    have h3 : w.2.2.2.2.2.2.2.2.2.1.length ≤ szT s40 w := (rowsLe_row hrow.2.2.2.2.2.2.2.2.2.1).1
    have e60 : szT s60 w = szT s40 w := rfl
    simp only [t16 _ w hz (show szT s40 w + 7 < szT s40 w + 2999 by omega), Option.bind_some, f29 w n (show w.1.2.1.length ≤ 1048576 by omega) (show w.2.2.2.2.1.length ≤ 1048576 by omega) (show w.2.2.2.2.2.2.2.2.2.1.length ≤ 1048576 by omega) (show w.2.2.2.2.2.2.2.2.2.1.length + 1030 ≤ szT s40 w + 2999 by omega), f30 w n (show w.1.2.1.length ≤ 1048576 by omega) (show w.2.2.2.2.1.length ≤ 1048576 by omega) (show w.2.2.2.2.2.2.2.2.2.1.length ≤ 1048576 by omega) (show w.2.2.2.2.2.2.2.2.2.1.length + 2030 ≤ szT s40 w + 2999 by omega)]
    rw [if_neg (by simp), q19 _ w (by rw [e60]; exact hz) (by rw [e60]; omega), Option.bind_some]
    rfl
  · rw [szR_neg (by omega), if_pos (by decide)]
end Go.Proofs.YtonfioejmldhcaaGreat.World
namespace Go.Proofs.YtonfioejmldhcaaGreat.World
open Go Go.V Go.Proofs
open Go.ChangeShapes Go.WideShapes Go.ChangeAt Go.RowKit
set_option linter.unusedVariables false
set_option maxRecDepth 100000
theorem tyOk : ∀ t i, E.ty t = some i → TyOk E.P t i := by
  intro t i h
  replace h : ty t = some i := h
  unfold ty at h
  split at h <;> first | (cases h; done) | (cases h; exact ⟨by kernel_rfl, by kernel_rfl⟩)
theorem fnOk : ∀ f F, E.fn f = some F → E.P.funcs[f]? = some F ∧ F.name ≠ "runtime.NumGoroutine" ∧ ∀ c, F.body = some c → codeOk c = true := by
  intro f F h
  replace h : fn f = some F := h
  unfold fn at h
  split at h <;> first | (cases h; done) | (cases h; exact ⟨by kernel_rfl, of_decide_eq_true (by kernel_rfl), fun c hc => by cases hc; kernel_rfl⟩)
theorem envOk : EnvOk E := ⟨tyOk, fun f F h => (fnOk f F h).1, fun f F h => (fnOk f F h).2.1, by kernel_rfl⟩
theorem sound (k : Nat) : CallOk E (den E k) := den_sound envOk (fun f F c h => (fnOk f F h).2.2 c) (fun f g h => by cases h) k
end Go.Proofs.YtonfioejmldhcaaGreat.World
namespace Go.Proofs.YtonfioejmldhcaaGreat.World
open Go Go.V Go.Proofs
open Go.ChangeShapes Go.WideShapes Go.ChangeAt Go.RowKit
set_option linter.unusedVariables false
set_option maxRecDepth 100000
theorem walk4 {k : Nat} {y0 : T40} {y1 : Int} (h : F4 k y0 y1 = some true) {W : World} {v0 v1 : Value} (h0 : VA W (fun _ => True) (fun _ => undef) (argAV s40 y0) v0) (l0 : (argAV s40 y0).lt 0) (h1 : VA W (fun _ => True) (fun _ => undef) (argAV (.i .i64) y1) v1) (l1 : (argAV (.i .i64) y1).lt 0) :
    Calls Tryz.prog 4 #[v0, v1] W fun e W' => e = .returned (.bool true) ∧ Go.RowKit.Below W.heap.size W W' := by
  have hs := (sound k) 4 [argAV s40 y0, argAV (.i .i64) y1] true h
  refine (hs.2 (fun _ => True) W [v0, v1] [] (by
    show ArgsT W (fun _ => True) [] _ _ []
    exact ⟨⟨h0, h1, trivial⟩, by intro x hx; simp at hx; rcases hx with rfl | rfl; exact l0; exact l1, rfl⟩) List.nodup_nil (by simp)).mono ?_
  rintro e W' ⟨v, rfl, hb, hr⟩
  exact ⟨by rw [resOk_bool hr], Chg.below hb⟩
theorem own : ownKnob Tryz.prog.godebug = none := by kernel_rfl
theorem lifted (os : Os) (started : os.Started) (H : Type) (enc : TypeId × Value → H) :
    ReturnsInHanded {} Tryz.checked os 4 .any (YtonfioejmldhcaaGreat.Rows.fnExactNeedNowSpec.pre6 enc Tryz.prog Tryz.f4 YtonfioejmldhcaaGreat.Rows.fnExactNeedNowRow.domain false) (YtonfioejmldhcaaGreat.Rows.fnExactNeedNowSpec.post enc Tryz.prog Tryz.f4 false true false false) := by
  refine returnsInHanded_of_change_sized (C := Tryz.checked) own started (by kernel_rfl) Tryz.func4
    (ChangeSpec.witness6 (enc := enc) (C := Tryz.checked) false ⟨#[], #[.agg #[(.int .i64 0), (.slice none 0 0), (.slice none 0 0), (.int .i64 0), (.int .i64 0), (.int .i64 0), (.int .i64 0), (.int .i64 0), (.slice none 0 0), (.int .i64 0), (.int .i64 0), (.int .i64 0), (.int .i64 0), (.slice none 0 0), (.slice none 0 0), (.slice none 0 0), (.slice none 0 0), (.slice none 0 0), (.slice none 0 0), (.slice none 0 0), (.slice none 0 0), (.slice none 0 0), (.int .i64 0), (.int .i64 0), (.slice none 0 0), (.slice none 0 0)], .int .i64 0], []⟩ 8 (by kernel_rfl) (by kernel_rfl) (by kernel_rfl) (by kernel_rfl)) ?_
  intro W base args ds gs before hval0 hW hcnd hsz0 _
  have hsz : (DataW.weightsEach Tryz.prog (Tryz.f4.params.toList ++ YtonfioejmldhcaaGreat.Rows.fnExactNeedNowSpec.plain.varTypes Tryz.prog) (ds ++ gs)).all (· ≤ reachBytes) = true := hsz0
  have hval : ∀ (j : Nat) t v, Tryz.f4.params[j]? = some t → args[j]? = some v → Value.okWide Tryz.prog W .any base t v := hval0
  have hW' := hW
  obtain ⟨p, q, hA0, hV, rfl, hfz, hnd⟩ := hW
  have hA : DataW.TrodAll enc Tryz.prog W 0 (fun _ => true) true Tryz.f4.params.toList args.toList ds p := hA0
  have hAA := hA
  rw [Tryz.params4] at hA hval hsz
  obtain ⟨v0, vs0, d0, ds0, p0, q0, hargs, rfl, rfl, h0, r0⟩ := trodAll_cons hA
  obtain ⟨v1, vs1, d1, ds1, p1, q1, rfl, rfl, rfl, h1, r1⟩ := trodAll_cons r0
  obtain ⟨rfl, rfl, rfl⟩ := trodAll_nil r1
  obtain rfl : args = #[v0, v1] := by cases args; simp_all
  obtain ⟨rfl, rfl⟩ := trodVars_none hV
  have hwt0 : ∀ n ∈ d0.weights Tryz.prog 41, n ≤ reachBytes := by
    intro n hn
    have := List.all_eq_true.1 hsz n (by simp [DataW.weightsEach, hn])
    simpa using this
  have hwt1 : ∀ n ∈ d1.weights Tryz.prog 3, n ≤ reachBytes := by
    intro n hn
    have := List.all_eq_true.1 hsz n (by simp [DataW.weightsEach, hn])
    simpa using this
  obtain ⟨y0, a0, b0, w0⟩ := arg_VA (sh := s40) (by kernel_rfl) (hval 0 41 v0 rfl rfl) h0 hwt0
  obtain ⟨y1, a1, b1, w1⟩ := arg_VA (sh := (.i .i64)) (by kernel_rfl) (hval 1 3 v1 rfl rfl) h1 hwt1
  obtain ⟨k, hk⟩ := law4 y0 y1 (rows_wf (P := Tryz.prog) s40 y0 (by kernel_rfl) w0)
  have hlt : ∀ x ∈ p0 ++ (p1 ++ []), x.block < W.heap.size := fun x hx => hW'.lt x (by simpa using hx)
  refine (walk4 hk a0 b0 a1 b1).mono fun e W' ⟨he, bel⟩ => ?_
  subst he
  exact ⟨_, rfl, _, _, _, [], _, [], hW', trodAll_mk1 (shut_bool Tryz.underlying4 _), below_trodAll (by kernel_rfl) bel _ _ _ _ (by kernel_rfl) hAA hlt, rfl, bel.frame _, fun h => by cases h⟩
theorem facts_of {P : Program} {f : FuncId} {fn : Func} {s : ChangeSpec} {c : OpenClaim} (k1 : (c.wf (OpenSpec.ofChange s)) = true) (k2 : (laidOutB P) = true) (k3 : (mapsRowed P) = true) (k4 : (fn.params.all (P.readableRec ·)) = true) (k5 : (namedTie P c.named s.vars) = true) (k6 : ((c.stops == [])) = true) (k7 : ((P.stops == [])) = true) (k8 : ((c.knobs == [])) = true) (k9 : ((P.stopKnobs == [])) = true) (k10 : ((c.inPlace == P.inPlace f)) = true) (k11 : ((c.unfollowed == P.unfollowed f)) = true) (k12 : ((c.recurses == P.recurses f)) = true) (k13 : ((c.named == P.varsNamed f)) = true) (k14 : ((c.maps == (fn.params.toList ++ s.plain.varTypes P).any (P.mapsRec ·))) = true) (k15 : ((c.ifaces == (fn.params.toList ++ s.plain.varTypes P).any (P.ifacesRec ·))) = true) (k16 : ((c.mapsOut == P.mapsAmong fn.resultTypes.toList)) = true) (k17 : ((c.loops == (fn.params.toList ++ s.plain.varTypes P).any (P.loopsFrom ·))) = true) (k18 : ((c.wideKeys == (fn.params.toList ++ s.plain.varTypes P ++ fn.resultTypes.toList).any (P.wideKeysFrom ·))) = true) (k19 : (s.vars.all (P.varReadable ·)) = true) (k20 : (fn.resultTypes.all (fun t => P.readableRec t && decide (t < P.types.size))) = true) (k21 : ((c.ifacesOut == fn.resultTypes.toList.any (P.ifacesRec ·))) = true) (k22 : ((c.loopsOut == fn.resultTypes.toList.any (P.loopsFrom ·))) = true) (k23 : ((c.plainKeys == P.plainKeys)) = true) (k24 : (c.shortTexts.isNone) = true) (k25 : (P.stopsHeard) = true) (k26 : (P.mayEnter) = true) (k27 : ((c.lifted == P.liftsFinal)) = true) (k28 : ((P.make == some c.make)) = true) (k29 : ((c.kinds == (if c.domain.isEmpty then [] else fn.params.toList.map fun t => match P.underlying t with | some (.int k) => some k | _ => none))) = true) (k30 : ((c.pinned == c.pinnedBy)) = true) (k31 : ((c.veiled == (fn.params.toList ++ s.plain.varTypes P ++ fn.resultTypes.toList).any (P.veiledRec ·))) = true) (k32 : (c.veiledFits P fn.params.toList (fn.params.toList ++ s.plain.varTypes P ++ fn.resultTypes.toList)) = true) : joinedFacts P f fn s c = true := by
  unfold joinedFacts
  simp only [k1, k2, k3, k4, k5, k6, k7, k8, k9, k10, k11, k12, k13, k14, k15, k16, k17, k18, k19, k20, k21, k22, k23, k24, k25, k26, k27, k28, k30, k31, k32, Bool.and_true, Bool.true_and]
  exact k29
theorem k1 : (YtonfioejmldhcaaGreat.Rows.fnExactNeedNowRow.wf (OpenSpec.ofChange YtonfioejmldhcaaGreat.Rows.fnExactNeedNowSpec)) = true := by kernel_rfl
theorem k2 : (laidOutB Tryz.checked.prog) = true := by kernel_rfl
theorem k3 : (mapsRowed Tryz.checked.prog) = true := by kernel_rfl
theorem k4 : (Tryz.f4.params.all (Tryz.checked.prog.readableRec ·)) = true := by kernel_rfl
theorem k5 : (namedTie Tryz.checked.prog YtonfioejmldhcaaGreat.Rows.fnExactNeedNowRow.named YtonfioejmldhcaaGreat.Rows.fnExactNeedNowSpec.vars) = true := by kernel_rfl
theorem k6 : ((YtonfioejmldhcaaGreat.Rows.fnExactNeedNowRow.stops == [])) = true := by kernel_rfl
theorem k7 : ((Tryz.checked.prog.stops == [])) = true := by kernel_rfl
theorem k8 : ((YtonfioejmldhcaaGreat.Rows.fnExactNeedNowRow.knobs == [])) = true := by kernel_rfl
theorem k9 : ((Tryz.checked.prog.stopKnobs == [])) = true := by kernel_rfl
theorem k10 : ((YtonfioejmldhcaaGreat.Rows.fnExactNeedNowRow.inPlace == Tryz.checked.prog.inPlace 4)) = true := by kernel_rfl
theorem k11 : ((YtonfioejmldhcaaGreat.Rows.fnExactNeedNowRow.unfollowed == Tryz.checked.prog.unfollowed 4)) = true := by kernel_rfl
theorem k12 : ((YtonfioejmldhcaaGreat.Rows.fnExactNeedNowRow.recurses == Tryz.checked.prog.recurses 4)) = true := by kernel_rfl
theorem k13 : ((YtonfioejmldhcaaGreat.Rows.fnExactNeedNowRow.named == Tryz.checked.prog.varsNamed 4)) = true := by kernel_rfl
theorem k14 : ((YtonfioejmldhcaaGreat.Rows.fnExactNeedNowRow.maps == (Tryz.f4.params.toList ++ YtonfioejmldhcaaGreat.Rows.fnExactNeedNowSpec.plain.varTypes Tryz.checked.prog).any (Tryz.checked.prog.mapsRec ·))) = true := by kernel_rfl
theorem k15 : ((YtonfioejmldhcaaGreat.Rows.fnExactNeedNowRow.ifaces == (Tryz.f4.params.toList ++ YtonfioejmldhcaaGreat.Rows.fnExactNeedNowSpec.plain.varTypes Tryz.checked.prog).any (Tryz.checked.prog.ifacesRec ·))) = true := by kernel_rfl
theorem k16 : ((YtonfioejmldhcaaGreat.Rows.fnExactNeedNowRow.mapsOut == Tryz.checked.prog.mapsAmong Tryz.f4.resultTypes.toList)) = true := by kernel_rfl
theorem k17 : ((YtonfioejmldhcaaGreat.Rows.fnExactNeedNowRow.loops == (Tryz.f4.params.toList ++ YtonfioejmldhcaaGreat.Rows.fnExactNeedNowSpec.plain.varTypes Tryz.checked.prog).any (Tryz.checked.prog.loopsFrom ·))) = true := by kernel_rfl
theorem k18 : ((YtonfioejmldhcaaGreat.Rows.fnExactNeedNowRow.wideKeys == (Tryz.f4.params.toList ++ YtonfioejmldhcaaGreat.Rows.fnExactNeedNowSpec.plain.varTypes Tryz.checked.prog ++ Tryz.f4.resultTypes.toList).any (Tryz.checked.prog.wideKeysFrom ·))) = true := by kernel_rfl
theorem k19 : (YtonfioejmldhcaaGreat.Rows.fnExactNeedNowSpec.vars.all (Tryz.checked.prog.varReadable ·)) = true := by kernel_rfl
theorem k20 : (Tryz.f4.resultTypes.all (fun t => Tryz.checked.prog.readableRec t && decide (t < Tryz.checked.prog.types.size))) = true := by kernel_rfl
theorem k21 : ((YtonfioejmldhcaaGreat.Rows.fnExactNeedNowRow.ifacesOut == Tryz.f4.resultTypes.toList.any (Tryz.checked.prog.ifacesRec ·))) = true := by kernel_rfl
theorem k22 : ((YtonfioejmldhcaaGreat.Rows.fnExactNeedNowRow.loopsOut == Tryz.f4.resultTypes.toList.any (Tryz.checked.prog.loopsFrom ·))) = true := by kernel_rfl
theorem k23 : ((YtonfioejmldhcaaGreat.Rows.fnExactNeedNowRow.plainKeys == Tryz.checked.prog.plainKeys)) = true := by kernel_rfl
theorem k24 : (YtonfioejmldhcaaGreat.Rows.fnExactNeedNowRow.shortTexts.isNone) = true := by kernel_rfl
theorem k25 : (Tryz.checked.prog.stopsHeard) = true := by kernel_rfl
theorem k26 : (Tryz.checked.prog.mayEnter) = true := by kernel_rfl
theorem k27 : ((YtonfioejmldhcaaGreat.Rows.fnExactNeedNowRow.lifted == Tryz.checked.prog.liftsFinal)) = true := by kernel_rfl
theorem k28 : ((Tryz.checked.prog.make == some YtonfioejmldhcaaGreat.Rows.fnExactNeedNowRow.make)) = true := by kernel_rfl
theorem k29 : ((YtonfioejmldhcaaGreat.Rows.fnExactNeedNowRow.kinds == (if YtonfioejmldhcaaGreat.Rows.fnExactNeedNowRow.domain.isEmpty then [] else Tryz.f4.params.toList.map fun t => match Tryz.checked.prog.underlying t with | some (.int k) => some k | _ => none))) = true := by kernel_rfl
theorem k30 : ((YtonfioejmldhcaaGreat.Rows.fnExactNeedNowRow.pinned == YtonfioejmldhcaaGreat.Rows.fnExactNeedNowRow.pinnedBy)) = true := by kernel_rfl
theorem k31 : ((YtonfioejmldhcaaGreat.Rows.fnExactNeedNowRow.veiled == (Tryz.f4.params.toList ++ YtonfioejmldhcaaGreat.Rows.fnExactNeedNowSpec.plain.varTypes Tryz.checked.prog ++ Tryz.f4.resultTypes.toList).any (Tryz.checked.prog.veiledRec ·))) = true := by kernel_rfl
theorem k32 : (YtonfioejmldhcaaGreat.Rows.fnExactNeedNowRow.veiledFits Tryz.checked.prog Tryz.f4.params.toList (Tryz.f4.params.toList ++ YtonfioejmldhcaaGreat.Rows.fnExactNeedNowSpec.plain.varTypes Tryz.checked.prog ++ Tryz.f4.resultTypes.toList)) = true := by kernel_rfl
theorem k0 : YtonfioejmldhcaaGreat.Tryz.pinned.checked.prog.funcNamed YtonfioejmldhcaaGreat.Rows.fnExactNeedNowRow.func = some 4 := by kernel_rfl
theorem wrapper : Tryz.f4.isWrapper Tryz.checked.prog YtonfioejmldhcaaGreat.Rows.fnExactNeedNowRow.wrapper YtonfioejmldhcaaGreat.Rows.fnExactNeedNowRow.mainSum := by
  unfold Func.isWrapper
  first | (rw [if_pos (by decide +kernel)]; kernel_rfl) | (rw [if_neg (by decide +kernel)]; exact ⟨rfl, rfl⟩)
theorem facts : joinedFacts YtonfioejmldhcaaGreat.Tryz.pinned.checked.prog 4 Tryz.f4 YtonfioejmldhcaaGreat.Rows.fnExactNeedNowSpec YtonfioejmldhcaaGreat.Rows.fnExactNeedNowRow = true := facts_of k1 k2 k3 k4 k5 k6 k7 k8 k9 k10 k11 k12 k13 k14 k15 k16 k17 k18 k19 k20 k21 k22 k23 k24 k25 k26 k27 k28 k29 k30 k31 k32
theorem over : YtonfioejmldhcaaGreat.Rows.fnExactNeedNowRow.holds YtonfioejmldhcaaGreat.Tryz.pinned (OpenSpec.ofChange YtonfioejmldhcaaGreat.Rows.fnExactNeedNowSpec) :=
  OpenClaim.holds_of_wide 4 Tryz.f4 rfl rfl rfl rfl rfl rfl rfl ⟨rfl, rfl, rfl, rfl, rfl⟩ rfl rfl rfl rfl rfl k0 Tryz.func4 facts
    (of_decide_eq_true (by kernel_rfl)) wrapper
    (fun os started H enc _ => lifted os started H enc)
end Go.Proofs.YtonfioejmldhcaaGreat.World
namespace Go.Proofs.YtonfioejmldhcaaGreat
/-- The row, under a short name. -/
theorem fnExactNeedNow_holds : Rows.FnExactNeedNowSaid := World.over
end Go.Proofs.YtonfioejmldhcaaGreat
