/- 'laws.FnExactEqualWorlds' returns true for every input. No condition. -/
import Derived.Test.YtcdlkadknenodaaGreatWp
import Derived.Test.YtcdlkadknenodaaGreatRows
import Derived.Test.YtcdlkadknenodaaGreatChecked
import Derived.KernelRfl
namespace Go.V
set_option linter.unusedVariables false
/-! ### words for comparisons -/
/-- Two rows of one length, compared element by element. -/
theorem eq_loop {R α : Type} [DecidableEq α] {L : Nat → Int → Option R} {X : Int → Option R} {x y : List α} {Y N : Option R} {body : Nat → Int → α → α → Option R}
    (hs : ∀ n i, L (n + 1) i = if decide (i < (x.length : Int)) = true then if 0 ≤ i then ix x i.toNat fun a => if 0 ≤ i then ix y i.toNat (body n i a) else none else none else X i)
    (hX : X (x.length : Int) = Y)
    (hb : ∀ n (i : Nat) a b, x[i]? = some a → y[i]? = some b → IntKind.i64.wrap ((i : Int) + 1) = ((i + 1 : Nat) : Int) → body n (i : Int) a b = if a = b then L n ((i + 1 : Nat) : Int) else N)
    (hl : x.length = y.length) (hle : x.length ≤ 1048576) {n : Nat} (hn : x.length < n) : L n 0 = if x = y then Y else N := by
  have key : ∀ (m n i : Nat), i + m = x.length → m < n → L n (i : Int) = if x.drop i = y.drop i then Y else N := by
    intro m
    induction m with
    | zero =>
      intro n i h hn
      obtain ⟨n, rfl⟩ : ∃ q, n = q + 1 := ⟨n - 1, by omega⟩
      obtain rfl : i = x.length := by omega
      rw [hs, if_neg (by simp), hX, if_pos]
      rw [List.drop_length, hl, List.drop_length]
    | succ m ih =>
      intro n i h hn
      obtain ⟨n, rfl⟩ : ∃ q, n = q + 1 := ⟨n - 1, by omega⟩
      have hi : i < x.length := by omega
      have hj : i < y.length := by omega
      rw [hs, if_pos (by simp; omega), if_pos (by omega), show ((i : Int).toNat) = i by simp, ix_at hi, if_pos (by omega), ix_at hj,
        hb n i _ _ (List.getElem?_eq_getElem hi) (List.getElem?_eq_getElem hj) (by rw [wrap_id (by omega) (by omega)]; omega), ih n (i + 1) (by omega) (by omega)]
      rw [List.drop_eq_getElem_cons hi, List.drop_eq_getElem_cons hj]
      by_cases e : x[i] = y[i]
      · rw [if_pos e]
        by_cases e2 : x.drop (i + 1) = y.drop (i + 1)
        · rw [if_pos e2, if_pos (by rw [e, e2])]
        · rw [if_neg e2, if_neg (by intro h; exact e2 (List.cons.inj h).2)]
      · rw [if_neg e, if_neg (by intro h; exact e (List.cons.inj h).1)]
  have := key x.length n 0 (by omega) hn
  simpa using this
end Go.V
namespace Go.Proofs.YtcdlkadknenodaaGreat.World
open Go Go.V Go.Proofs
set_option linter.unusedVariables false
set_option linter.unusedSimpArgs false
set_option maxRecDepth 100000
set_option maxHeartbeats 4000000
abbrev TW := TWorld
instance dec2 : DecidableEq (Int × Int) := inferInstance
instance dec3 : DecidableEq (Int × Int × Int) := inferInstance
instance dec4 : DecidableEq (Int × Int × Int × Int) := inferInstance
instance dec6 : DecidableEq (Int × Int × Int × Int × Int × Int) := inferInstance
instance decQ : DecidableEq (List (Int × Int × Int × Int × Int × Int)) := inferInstance
instance decL2 : DecidableEq (List (Int × Int)) := inferInstance
instance decT : DecidableEq (Int × (List Int) × List Int) := inferInstance
instance decTs : DecidableEq (List (Int × (List Int) × List Int)) := inferInstance
instance decS : DecidableEq (Int × Int × List Int) := inferInstance
instance decP : DecidableEq TPiece := (inferInstance : DecidableEq ((Int × Int) × (List (Int × Int)) × List (Int × (List Int) × List Int)))
theorem pred {k d : Nat} (h : d + 1 ≤ k) : ∃ q, k = q + 1 := ⟨k - 1, by omega⟩
theorem bs {α β : Type} {o : Option α} {v : α} {f : α → Option β} (h : o = some v) : o.bind f = f v := by rw [h]; rfl
theorem if1 {a b : Int} {o e : Option Bool} {Q : Prop} [Decidable Q] (h : o = some (decide Q)) (he : e = some false) : (if ((a == b) == true) = true then o else e) = some (decide (a = b ∧ Q)) := by
  by_cases hab : a = b
  · rw [if_pos (by simp [hab]), h]; simp [hab]
  · rw [if_neg (by simp [hab]), he]; simp [hab]
theorem ifd {P Q : Prop} [Decidable P] [Decidable Q] {o e : Option Bool} (h : o = some (decide Q)) (he : e = some false) : (if (decide P == true) = true then o else e) = some (decide (P ∧ Q)) := by
  by_cases hab : P
  · rw [if_pos (by simp [hab]), h]; simp [hab]
  · rw [if_neg (by simp [hab]), he]; simp [hab]
theorem lenN {α : Type} [DecidableEq α] {x y : List α} (h : ¬ x.length = y.length) : some false = some (decide (x = y)) := by
  congr 1
  exact (decide_eq_false fun e => h (by rw [e])).symm
theorem ite_dec {α : Type} [DecidableEq α] {x y : List α} : (if x = y then some true else some false) = some (decide (x = y)) := by by_cases e : x = y <;> simp [e]
theorem eqT2 (x y : Int × Int) : eqT sI2 x y = decide (x = y) := by
  obtain ⟨a, b⟩ := x; obtain ⟨c, d⟩ := y
  show (eqI a c && eqI b d) = _
  rw [Bool.eq_iff_iff]; simp [eqI]
theorem eqT3 (x y : Int × Int × Int) : eqT sI3 x y = decide (x = y) := by
  obtain ⟨a, b, e⟩ := x; obtain ⟨c, d, f⟩ := y
  show (eqI a c && (eqI b d && eqI e f)) = _
  rw [Bool.eq_iff_iff]; simp [eqI]
theorem eqT4 (x y : Int × Int × Int × Int) : eqT sI4 x y = decide (x = y) := by
  obtain ⟨a, b, e, g⟩ := x; obtain ⟨c, d, f, h⟩ := y
  show (eqI a c && (eqI b d && (eqI e f && eqI g h))) = _
  rw [Bool.eq_iff_iff]; simp [eqI]
theorem eqT6 (x y : Int × Int × Int × Int × Int × Int) : eqT sI6 x y = decide (x = y) := by
  obtain ⟨a, b, e, g, i, j⟩ := x; obtain ⟨c, d, f, h, k, l⟩ := y
  show (eqI a c && (eqI b d && (eqI e f && (eqI g h && (eqI i k && eqI j l))))) = _
  rw [Bool.eq_iff_iff]; simp [eqI]
theorem fgEqual_int {k : Nat} (x y : List (Int)) (hl : x.length ≤ 1048576) (hk : x.length + 2 ≤ k) : FgEqual_int k x y = some (decide (x = y)) := by
  obtain ⟨k, rfl⟩ := pred (d := 0) (show 1 ≤ k by omega)
  refine (egEqual_int k x y).trans ?_
  by_cases h : x.length = y.length
  · rw [if_neg (by simp [h])]
    refine (eq_loop (L := LgEqual_int_0 k _ _ _) (x := x) (y := y) (Y := some true) (N := some false) (fun _ _ => rfl) rfl (fun n i a b ha hb hw => ?_) h hl (by omega)).trans ite_dec
    show (if (a != b) = true then some false else _) = _
    rw [hw]
    by_cases e : a = b <;> simp [e]
  · rw [if_pos (by simp; omega)]
    exact lenN h
theorem fgEqual_Link {k : Nat} (x y : List (Int × Int)) (hl : x.length ≤ 1048576) (hk : x.length + 2 ≤ k) : FgEqual_Link k x y = some (decide (x = y)) := by
  obtain ⟨k, rfl⟩ := pred (d := 0) (show 1 ≤ k by omega)
  refine (egEqual_Link k x y).trans ?_
  by_cases h : x.length = y.length
  · rw [if_neg (by simp [h])]
    refine (eq_loop (L := LgEqual_Link_0 k _ _ _) (x := x) (y := y) (Y := some true) (N := some false) (fun _ _ => rfl) rfl (fun n i a b ha hb hw => ?_) h hl (by omega)).trans ite_dec
    show (if (!(eqT sI2 a b)) = true then some false else _) = _
    rw [hw, eqT2]
    by_cases e : a = b <;> simp [e]
  · rw [if_pos (by simp; omega)]
    exact lenN h
theorem fgEqual_Packet {k : Nat} (x y : List (Int × Int × Int × Int × Int × Int)) (hl : x.length ≤ 1048576) (hk : x.length + 2 ≤ k) : FgEqual_Packet k x y = some (decide (x = y)) := by
  obtain ⟨k, rfl⟩ := pred (d := 0) (show 1 ≤ k by omega)
  refine (egEqual_Packet k x y).trans ?_
  by_cases h : x.length = y.length
  · rw [if_neg (by simp [h])]
    refine (eq_loop (L := LgEqual_Packet_0 k _ _ _) (x := x) (y := y) (Y := some true) (N := some false) (fun _ _ => rfl) rfl (fun n i a b ha hb hw => ?_) h hl (by omega)).trans ite_dec
    show (if (!(eqT sI6 a b)) = true then some false else _) = _
    rw [hw, eqT6]
    by_cases e : a = b <;> simp [e]
  · rw [if_pos (by simp; omega)]
    exact lenN h
theorem fgEqual_Battery {k : Nat} (x y : List (Int × Int × Int × Int × Int × Int)) (hl : x.length ≤ 1048576) (hk : x.length + 2 ≤ k) : FgEqual_Battery k x y = some (decide (x = y)) := by
  obtain ⟨k, rfl⟩ := pred (d := 0) (show 1 ≤ k by omega)
  refine (egEqual_Battery k x y).trans ?_
  by_cases h : x.length = y.length
  · rw [if_neg (by simp [h])]
    refine (eq_loop (L := LgEqual_Battery_0 k _ _ _) (x := x) (y := y) (Y := some true) (N := some false) (fun _ _ => rfl) rfl (fun n i a b ha hb hw => ?_) h hl (by omega)).trans ite_dec
    show (if (!(eqT sI6 a b)) = true then some false else _) = _
    rw [hw, eqT6]
    by_cases e : a = b <;> simp [e]
  · rw [if_pos (by simp; omega)]
    exact lenN h
theorem fgEqual_Fault {k : Nat} (x y : List (Int × Int × Int × Int)) (hl : x.length ≤ 1048576) (hk : x.length + 2 ≤ k) : FgEqual_Fault k x y = some (decide (x = y)) := by
  obtain ⟨k, rfl⟩ := pred (d := 0) (show 1 ≤ k by omega)
  refine (egEqual_Fault k x y).trans ?_
  by_cases h : x.length = y.length
  · rw [if_neg (by simp [h])]
    refine (eq_loop (L := LgEqual_Fault_0 k _ _ _) (x := x) (y := y) (Y := some true) (N := some false) (fun _ _ => rfl) rfl (fun n i a b ha hb hw => ?_) h hl (by omega)).trans ite_dec
    show (if (!(eqT sI4 a b)) = true then some false else _) = _
    rw [hw, eqT4]
    by_cases e : a = b <;> simp [e]
  · rw [if_pos (by simp; omega)]
    exact lenN h
theorem fgEqual_Flow {k : Nat} (x y : List (Int × Int × Int × Int)) (hl : x.length ≤ 1048576) (hk : x.length + 2 ≤ k) : FgEqual_Flow k x y = some (decide (x = y)) := by
  obtain ⟨k, rfl⟩ := pred (d := 0) (show 1 ≤ k by omega)
  refine (egEqual_Flow k x y).trans ?_
  by_cases h : x.length = y.length
  · rw [if_neg (by simp [h])]
    refine (eq_loop (L := LgEqual_Flow_0 k _ _ _) (x := x) (y := y) (Y := some true) (N := some false) (fun _ _ => rfl) rfl (fun n i a b ha hb hw => ?_) h hl (by omega)).trans ite_dec
    show (if (!(eqT sI4 a b)) = true then some false else _) = _
    rw [hw, eqT4]
    by_cases e : a = b <;> simp [e]
  · rw [if_pos (by simp; omega)]
    exact lenN h
theorem fgEqual_Sat {k : Nat} (x y : List (Int × Int × Int × Int)) (hl : x.length ≤ 1048576) (hk : x.length + 2 ≤ k) : FgEqual_Sat k x y = some (decide (x = y)) := by
  obtain ⟨k, rfl⟩ := pred (d := 0) (show 1 ≤ k by omega)
  refine (egEqual_Sat k x y).trans ?_
  by_cases h : x.length = y.length
  · rw [if_neg (by simp [h])]
    refine (eq_loop (L := LgEqual_Sat_0 k _ _ _) (x := x) (y := y) (Y := some true) (N := some false) (fun _ _ => rfl) rfl (fun n i a b ha hb hw => ?_) h hl (by omega)).trans ite_dec
    show (if (!(eqT sI4 a b)) = true then some false else _) = _
    rw [hw, eqT4]
    by_cases e : a = b <;> simp [e]
  · rw [if_pos (by simp; omega)]
    exact lenN h
theorem fgEqual_Sent {k : Nat} (x y : List (Int × Int × Int × Int)) (hl : x.length ≤ 1048576) (hk : x.length + 2 ≤ k) : FgEqual_Sent k x y = some (decide (x = y)) := by
  obtain ⟨k, rfl⟩ := pred (d := 0) (show 1 ≤ k by omega)
  refine (egEqual_Sent k x y).trans ?_
  by_cases h : x.length = y.length
  · rw [if_neg (by simp [h])]
    refine (eq_loop (L := LgEqual_Sent_0 k _ _ _) (x := x) (y := y) (Y := some true) (N := some false) (fun _ _ => rfl) rfl (fun n i a b ha hb hw => ?_) h hl (by omega)).trans ite_dec
    show (if (!(eqT sI4 a b)) = true then some false else _) = _
    rw [hw, eqT4]
    by_cases e : a = b <;> simp [e]
  · rw [if_pos (by simp; omega)]
    exact lenN h
theorem fgEqual_Site {k : Nat} (x y : List (Int × Int × Int)) (hl : x.length ≤ 1048576) (hk : x.length + 2 ≤ k) : FgEqual_Site k x y = some (decide (x = y)) := by
  obtain ⟨k, rfl⟩ := pred (d := 0) (show 1 ≤ k by omega)
  refine (egEqual_Site k x y).trans ?_
  by_cases h : x.length = y.length
  · rw [if_neg (by simp [h])]
    refine (eq_loop (L := LgEqual_Site_0 k _ _ _) (x := x) (y := y) (Y := some true) (N := some false) (fun _ _ => rfl) rfl (fun n i a b ha hb hw => ?_) h hl (by omega)).trans ite_dec
    show (if (!(eqT sI3 a b)) = true then some false else _) = _
    rw [hw, eqT3]
    by_cases e : a = b <;> simp [e]
  · rw [if_pos (by simp; omega)]
    exact lenN h
theorem fgEqual_Zone {k : Nat} (x y : List (Int × Int × Int)) (hl : x.length ≤ 1048576) (hk : x.length + 2 ≤ k) : FgEqual_Zone k x y = some (decide (x = y)) := by
  obtain ⟨k, rfl⟩ := pred (d := 0) (show 1 ≤ k by omega)
  refine (egEqual_Zone k x y).trans ?_
  by_cases h : x.length = y.length
  · rw [if_neg (by simp [h])]
    refine (eq_loop (L := LgEqual_Zone_0 k _ _ _) (x := x) (y := y) (Y := some true) (N := some false) (fun _ _ => rfl) rfl (fun n i a b ha hb hw => ?_) h hl (by omega)).trans ite_dec
    show (if (!(eqT sI3 a b)) = true then some false else _) = _
    rw [hw, eqT3]
    by_cases e : a = b <;> simp [e]
  · rw [if_pos (by simp; omega)]
    exact lenN h
theorem fsEqualInts {k : Nat} (x y : List (Int)) (hl : x.length ≤ 1048576) (hk : x.length + 2 ≤ k) : FsEqualInts k x y = some (decide (x = y)) := by
  obtain ⟨k, rfl⟩ := pred (d := 0) (show 1 ≤ k by omega)
  refine (esEqualInts k x y).trans ?_
  by_cases h : x.length = y.length
  · rw [if_neg (by simp [h])]
    refine (eq_loop (L := LsEqualInts_0 k _ _ _) (x := x) (y := y) (Y := some true) (N := some false) (fun _ _ => rfl) rfl (fun n i a b ha hb hw => ?_) h hl (by omega)).trans ite_dec
    show (if (a != b) = true then some false else _) = _
    rw [hw]
    by_cases e : a = b <;> simp [e]
  · rw [if_pos (by simp; omega)]
    exact lenN h
theorem fsl33List {k : Nat} (x y : List (Int × Int × Int × Int × Int × Int)) (hl : x.length ≤ 1048576) (hk : x.length + 2 ≤ k) : Fsl33List k x y = some (decide (x = y)) := by
  obtain ⟨k, rfl⟩ := pred (d := 0) (show 1 ≤ k by omega)
  refine (esl33List k x y).trans ?_
  by_cases h : x.length = y.length
  · rw [if_neg (by simp [h])]
    refine (eq_loop (L := Lsl33List_0 k _ _ _) (x := x) (y := y) (Y := some true) (N := some false) (fun _ _ => rfl) rfl (fun n i a b ha hb hw => ?_) h hl (by omega)).trans ite_dec
    show (if (!(eqT sI6 a b)) = true then some false else _) = _
    rw [hw, eqT6]
    by_cases e : a = b <;> simp [e]
  · rw [if_pos (by simp; omega)]
    exact lenN h
theorem fsSameLinks {k : Nat} (x y : List (Int × Int)) (hl : x.length ≤ 1048576) (hk : x.length + 2 ≤ k) : FsSameLinks k x y = some (decide (x = y)) := by
  obtain ⟨k, rfl⟩ := pred (d := 0) (show 1 ≤ k by omega)
  refine (esSameLinks k x y).trans ?_
  by_cases h : x.length = y.length
  · rw [if_neg (by simp [h])]
    refine (eq_loop (L := LsSameLinks_0 k _ _ _) (x := x) (y := y) (Y := some true) (N := some false) (fun _ _ => rfl) rfl (fun n i a b ha hb hw => ?_) h hl (by omega)).trans ite_dec
    show (if (!(eqT sI2 a b)) = true then some false else _) = _
    rw [hw, eqT2]
    by_cases e : a = b <;> simp [e]
  · rw [if_pos (by simp; omega)]
    exact lenN h
theorem fiEqualTables {k N : Nat} (x y : Int × (List Int) × List Int) (hr : rowsLe N sTable x) (hN : N ≤ 1048576) (hk : N + 3 ≤ k) : FiEqualTables k x y = some (decide (x = y)) := by
  obtain ⟨k, rfl⟩ := pred (d := 0) (show 1 ≤ k by omega)
  have h1 : x.2.1.length ≤ N := (rowsLe_row (e := 0) (sh := .i .i64) hr.2.1).1
  have h2 : x.2.2.length ≤ N := (rowsLe_row (e := 0) (sh := .i .i64) hr.2.2).1
  refine (eiEqualTables k x y).trans ((if1 (Q := x.2.1 = y.2.1 ∧ x.2.2 = y.2.2) ((bs (fgEqual_int x.2.1 y.2.1 (by omega) (by omega))).trans (ifd ((bs (fgEqual_int x.2.2 y.2.2 (by omega) (by omega))).trans rfl) rfl)) rfl).trans ?_)
  simp only [Prod.ext_iff]
theorem fsEqualTables {k N : Nat} (x y : Int × (List Int) × List Int) (hr : rowsLe N sTable x) (hN : N ≤ 1048576) (hk : N + 3 ≤ k) : FsEqualTables k x y = some (decide (x = y)) := by
  obtain ⟨k, rfl⟩ := pred (d := 0) (show 1 ≤ k by omega)
  have h1 : x.2.1.length ≤ N := (rowsLe_row (e := 0) (sh := .i .i64) hr.2.1).1
  have h2 : x.2.2.length ≤ N := (rowsLe_row (e := 0) (sh := .i .i64) hr.2.2).1
  refine (esEqualTables k x y).trans ((if1 (Q := x.2.1 = y.2.1 ∧ x.2.2 = y.2.2) ((bs (fsEqualInts x.2.1 y.2.1 (by omega) (by omega))).trans (ifd ((bs (fsEqualInts x.2.2 y.2.2 (by omega) (by omega))).trans rfl) rfl)) rfl).trans ?_)
  simp only [Prod.ext_iff]
theorem fiEqualStreams {k N : Nat} (x y : Int × Int × List Int) (hr : rowsLe N sStream x) (hN : N ≤ 1048576) (hk : N + 3 ≤ k) : FiEqualStreams k x y = some (decide (x = y)) := by
  obtain ⟨k, rfl⟩ := pred (d := 0) (show 1 ≤ k by omega)
  have h2 : x.2.2.length ≤ N := (rowsLe_row (e := 0) (sh := .i .i64) hr.2.2).1
  refine (eiEqualStreams k x y).trans ((if1 (Q := x.2.1 = y.2.1 ∧ x.2.2 = y.2.2) (if1 ((bs (fgEqual_int x.2.2 y.2.2 (by omega) (by omega))).trans rfl) rfl) rfl).trans ?_)
  simp only [Prod.ext_iff]
theorem fsEqualStreams {k N : Nat} (x y : Int × Int × List Int) (hr : rowsLe N sStream x) (hN : N ≤ 1048576) (hk : N + 3 ≤ k) : FsEqualStreams k x y = some (decide (x = y)) := by
  obtain ⟨k, rfl⟩ := pred (d := 0) (show 1 ≤ k by omega)
  have h2 : x.2.2.length ≤ N := (rowsLe_row (e := 0) (sh := .i .i64) hr.2.2).1
  refine (esEqualStreams k x y).trans ((if1 (Q := x.2.1 = y.2.1 ∧ x.2.2 = y.2.2) (if1 ((bs (fsEqualInts x.2.2 y.2.2 (by omega) (by omega))).trans rfl) rfl) rfl).trans ?_)
  simp only [Prod.ext_iff]
theorem fiEqualWorlds_2 {k : Nat} (x y : List (Int × Int × Int × Int × Int × Int)) (hl : x.length ≤ 1048576) (hk : x.length + 3 ≤ k) : FiEqualWorlds_2 k x y = some (decide (x = y)) := by
  obtain ⟨k, rfl⟩ := pred (d := 0) (show 1 ≤ k by omega)
  exact (eiEqualWorlds_2 k x y).trans ((bs (fgEqual_Packet x y hl (by omega))).trans rfl)
theorem fgEqualFunc_Tablev_iEqualTables {k N : Nat} (x y : List (Int × (List Int) × List Int)) (hr : rowsLe N (.l 0 sTable) x) (hN : N ≤ 1048576) (hk : N + 5 ≤ k) : FgEqualFunc_Tablev_iEqualTables k x y = some (decide (x = y)) := by
  obtain ⟨k, rfl⟩ := pred (d := 0) (show 1 ≤ k by omega)
  obtain ⟨hl', hx⟩ := rowsLe_row hr
  have hl : x.length ≤ N := hl'
  refine (egEqualFunc_Tablev_iEqualTables k x y).trans ?_
  by_cases h : x.length = y.length
  · rw [if_neg (by simp [h])]
    refine (eq_loop (L := LgEqualFunc_Tablev_iEqualTables_0 k _ _ _) (x := x) (y := y) (Y := some true) (N := some false) (fun _ _ => rfl) rfl (fun n i a b ha hb hw => ?_) h (by omega) (by omega)).trans ite_dec
    refine (bs (fiEqualTables a b (hx _ (List.mem_of_getElem? ha)) hN (by omega))).trans ?_
    show (if (!(decide (a = b))) = true then some false else _) = _
    rw [hw]
    by_cases e : a = b <;> simp [e]
  · rw [if_pos (by simp; omega)]
    exact lenN h
theorem fgEqualFunc_Streamv_iEqualStreams {k N : Nat} (x y : List (Int × Int × List Int)) (hr : rowsLe N (.l 0 sStream) x) (hN : N ≤ 1048576) (hk : N + 5 ≤ k) : FgEqualFunc_Streamv_iEqualStreams k x y = some (decide (x = y)) := by
  obtain ⟨k, rfl⟩ := pred (d := 0) (show 1 ≤ k by omega)
  obtain ⟨hl', hx⟩ := rowsLe_row hr
  have hl : x.length ≤ N := hl'
  refine (egEqualFunc_Streamv_iEqualStreams k x y).trans ?_
  by_cases h : x.length = y.length
  · rw [if_neg (by simp [h])]
    refine (eq_loop (L := LgEqualFunc_Streamv_iEqualStreams_0 k _ _ _) (x := x) (y := y) (Y := some true) (N := some false) (fun _ _ => rfl) rfl (fun n i a b ha hb hw => ?_) h (by omega) (by omega)).trans ite_dec
    refine (bs (fiEqualStreams a b (hx _ (List.mem_of_getElem? ha)) hN (by omega))).trans ?_
    show (if (!(decide (a = b))) = true then some false else _) = _
    rw [hw]
    by_cases e : a = b <;> simp [e]
  · rw [if_pos (by simp; omega)]
    exact lenN h
theorem fgEqualFunc_Queuev_iEqualWorlds_2 {k N : Nat} (x y : List (List (Int × Int × Int × Int × Int × Int))) (hr : rowsLe N (.l 0 sQueue) x) (hN : N ≤ 1048576) (hk : N + 5 ≤ k) : FgEqualFunc_Queuev_iEqualWorlds_2 k x y = some (decide (x = y)) := by
  obtain ⟨k, rfl⟩ := pred (d := 0) (show 1 ≤ k by omega)
  obtain ⟨hl', hx⟩ := rowsLe_row hr
  have hl : x.length ≤ N := hl'
  refine (egEqualFunc_Queuev_iEqualWorlds_2 k x y).trans ?_
  by_cases h : x.length = y.length
  · rw [if_neg (by simp [h])]
    refine (eq_loop (L := LgEqualFunc_Queuev_iEqualWorlds_2_0 k _ _ _) (x := x) (y := y) (Y := some true) (N := some false) (fun _ _ => rfl) rfl (fun n i a b ha hb hw => ?_) h (by omega) (by omega)).trans ite_dec
    have hq : a.length ≤ N := (rowsLe_row (e := 0) (sh := sI6) (hx _ (List.mem_of_getElem? ha))).1
    refine (bs (fiEqualWorlds_2 a b (by omega) (by omega))).trans ?_
    show (if (!(decide (a = b))) = true then some false else _) = _
    rw [hw]
    by_cases e : a = b <;> simp [e]
  · rw [if_pos (by simp; omega)]
    exact lenN h
theorem fiEqualWorlds_1 {k N : Nat} (x y : TPiece) (hr : rowsLe N sPiece x) (hN : N ≤ 1048576) (hk : N + 6 ≤ k) : FiEqualWorlds_1 k x y = some (decide (x = y)) := by
  obtain ⟨k, rfl⟩ := pred (d := 0) (show 1 ≤ k by omega)
  have h1 : x.2.1.length ≤ N := (rowsLe_row (e := 0) (sh := sI2) hr.2.1).1
  refine (eiEqualWorlds_1 k x y).trans ?_
  rw [eqT2]
  refine (ifd (Q := x.2.1 = y.2.1 ∧ x.2.2 = y.2.2) ((bs (fgEqual_Link x.2.1 y.2.1 (by omega) (by omega))).trans (ifd ((bs (fgEqualFunc_Tablev_iEqualTables x.2.2 y.2.2 hr.2.2 hN (by omega))).trans rfl) rfl)) rfl).trans ?_
  simp only [Prod.ext_iff]
theorem fgEqualFunc_Piecev_iEqualWorlds_1 {k N : Nat} (x y : List (TPiece)) (hr : rowsLe N (.l 0 sPiece) x) (hN : N ≤ 1048576) (hk : N + 8 ≤ k) : FgEqualFunc_Piecev_iEqualWorlds_1 k x y = some (decide (x = y)) := by
  obtain ⟨k, rfl⟩ := pred (d := 0) (show 1 ≤ k by omega)
  obtain ⟨hl', hx⟩ := rowsLe_row hr
  have hl : x.length ≤ N := hl'
  refine (egEqualFunc_Piecev_iEqualWorlds_1 k x y).trans ?_
  by_cases h : x.length = y.length
  · rw [if_neg (by simp [h])]
    refine (eq_loop (L := LgEqualFunc_Piecev_iEqualWorlds_1_0 k _ _ _) (x := x) (y := y) (Y := some true) (N := some false) (fun _ _ => rfl) rfl (fun n i a b ha hb hw => ?_) h (by omega) (by omega)).trans ite_dec
    refine (bs (fiEqualWorlds_1 a b (hx _ (List.mem_of_getElem? ha)) hN (by omega))).trans ?_
    show (if (!(decide (a = b))) = true then some false else _) = _
    rw [hw]
    by_cases e : a = b <;> simp [e]
  · rw [if_pos (by simp; omega)]
    exact lenN h
end Go.Proofs.YtcdlkadknenodaaGreat.World
namespace Go.Proofs.YtcdlkadknenodaaGreat.World
open Go Go.V Go.Proofs
set_option linter.unusedVariables false
set_option linter.unusedSimpArgs false
set_option maxRecDepth 100000
set_option maxHeartbeats 4000000
theorem ib1 {a b : Int} {o e : Option Bool} {c : Bool} (h : o = some c) (he : e = some false) : (if ((a == b) == true) = true then o else e) = some (decide (a = b) && c) := by
  by_cases hab : a = b
  · rw [if_pos (by simp [hab]), h]; simp [hab]
  · rw [if_neg (by simp [hab]), he]; simp [hab]
theorem ib2 {a b : Int} {o e : Option Bool} {c : Bool} (h : o = some c) (he : e = some false) : (if ((a != b) == false) = true then o else e) = some (decide (a = b) && c) := by
  by_cases hab : a = b
  · rw [if_pos (by simp [hab]), h]; simp [hab]
  · rw [if_neg (by simp [hab]), he]; simp [hab]
theorem ib3 {a b : Int} {o e : Option Bool} {c : Bool} (h : o = some c) (he : e = some false) : (if (a != b) = true then e else o) = some (decide (a = b) && c) := by
  by_cases hab : a = b
  · rw [if_neg (by simp [hab]), h]; simp [hab]
  · rw [if_pos (by simp [hab]), he]; simp [hab]
theorem ibb {b : Bool} {o e : Option Bool} {c : Bool} (h : o = some c) (he : e = some false) : (if (b == true) = true then o else e) = some (b && c) := by
  cases b
  · exact he
  · exact h
theorem ilen {α : Type} {x y : List α} {o e : Option Bool} {c : Bool} (h : x.length = y.length → o = some c) (he : e = some false) (hc : ¬ x.length = y.length → c = false) : (if (((x.length : Int) != (y.length : Int)) == false) = true then o else e) = some c := by
  by_cases hab : x.length = y.length
  · rw [if_pos (by simp [hab]), h hab]
  · rw [if_neg (by simp; omega), he, hc hab]
theorem ilen' {α : Type} {x y : List α} {o e : Option Bool} {c : Bool} (h : x.length = y.length → o = some c) (he : e = some false) (hc : ¬ x.length = y.length → c = false) : (if ((x.length : Int) != (y.length : Int)) = true then e else o) = some c := by
  by_cases hab : x.length = y.length
  · rw [if_neg (by simp [hab]), h hab]
  · rw [if_pos (by simp; omega), he, hc hab]
theorem lenF {α : Type} [DecidableEq α] {x y : List α} (h : ¬ x.length = y.length) : decide (x = y) = false := decide_eq_false fun e => h (by rw [e])
theorem iteB {α : Type} [DecidableEq α] {x y : List α} {o : Option Bool} {b : Bool} (h : o = some b) : (if x = y then o else some false) = some (decide (x = y) && b) := by
  rw [h]
  by_cases e : x = y <;> simp [e]
theorem eqZ (x y : Int × Int × Int) : eqT sZone x y = decide (x = y) := eqT3 x y
/-! ### the program's EqualWorlds -/
theorem kq5 {k N : Nat} (x y : TWorld) (v0 v1 v2 v3 : Bool) (hr : rowsLe N sWorld x) (hN : N ≤ 1048576) (hk : N + 6 ≤ k) : KiEqualWorlds_5 k x y v0 v1 v2 v3 = some (v1 && (v2 && (v3 && (decide (x.2.2.1 = y.2.2.1) && (decide (x.2.2.2.1 = y.2.2.2.1) && (decide (x.2.2.2.2.1 = y.2.2.2.2.1) && (decide (x.2.2.2.2.2.2.1 = y.2.2.2.2.2.2.1) && (decide (x.2.2.2.2.2.2.2.1 = y.2.2.2.2.2.2.2.1) && (decide (x.2.2.2.2.2.2.2.2.1 = y.2.2.2.2.2.2.2.2.1) && (decide (x.2.2.2.2.2.2.2.2.2.1 = y.2.2.2.2.2.2.2.2.2.1) && (decide (x.2.2.2.2.2.2.2.2.2.2.1 = y.2.2.2.2.2.2.2.2.2.2.1) && (decide (x.2.2.2.2.2.2.2.2.2.2.2.1 = y.2.2.2.2.2.2.2.2.2.2.2.1) && (decide (x.2.2.2.2.2.2.2.2.2.2.2.2.1 = y.2.2.2.2.2.2.2.2.2.2.2.2.1) && decide (x.2.2.2.2.2.2.2.2.2.2.2.2.2 = y.2.2.2.2.2.2.2.2.2.2.2.2.2)))))))))))))) := by
  obtain ⟨_, _, h2, h3, h4, h5, h6, h7, h8, h9, _, _, h12, h13⟩ := hr
  have l2 : x.2.2.1.length ≤ N := (rowsLe_row (e := 0) (sh := .i .i64) h2).1
  have l3 : x.2.2.2.1.length ≤ N := (rowsLe_row (e := 0) (sh := .i .i64) h3).1
  have l4 : x.2.2.2.2.1.length ≤ N := (rowsLe_row (e := 0) (sh := sI6) h4).1
  have l6 : x.2.2.2.2.2.2.1.length ≤ N := (rowsLe_row (e := 0) (sh := sI4) h6).1
  have l7 : x.2.2.2.2.2.2.2.1.length ≤ N := (rowsLe_row (e := 0) (sh := .i .i64) h7).1
  have l9 : x.2.2.2.2.2.2.2.2.2.1.length ≤ N := (rowsLe_row (e := 0) (sh := sI4) h9).1
  have l12 : x.2.2.2.2.2.2.2.2.2.2.2.2.1.length ≤ N := (rowsLe_row (e := 0) (sh := sI6) h12).1
  have l13 : x.2.2.2.2.2.2.2.2.2.2.2.2.2.length ≤ N := (rowsLe_row (e := 0) (sh := sI4) h13).1
  refine (kiEqualWorlds_5 k x y v0 v1 v2 v3).trans ?_
  refine ibb (ibb (ibb ((bs (fgEqual_int _ _ (by omega) (by omega))).trans (ibb ((bs (fgEqual_int _ _ (by omega) (by omega))).trans (ibb ((bs (fgEqual_Battery _ _ (by omega) (by omega))).trans (ibb ((bs (fgEqual_Flow _ _ (by omega) (by omega))).trans (ibb ((bs (fgEqual_int _ _ (by omega) (by omega))).trans (ibb ((bs (fgEqualFunc_Streamv_iEqualStreams _ _ h8 hN (by omega))).trans (ibb ((bs (fgEqual_Fault _ _ (by omega) (by omega))).trans (ibb (ib1 (ib1 ((bs (fgEqual_Packet _ _ (by omega) (by omega))).trans (ibb ((bs (fgEqual_Sent _ _ (by omega) (by omega))).trans rfl) rfl)) rfl) rfl) rfl)) rfl)) rfl)) rfl)) rfl)) rfl)) rfl)) rfl) rfl) rfl
def restB (x y : TWorld) : Bool := decide (x.2.2.1 = y.2.2.1) && (decide (x.2.2.2.1 = y.2.2.2.1) && (decide (x.2.2.2.2.1 = y.2.2.2.2.1) && (decide (x.2.2.2.2.2.2.1 = y.2.2.2.2.2.2.1) && (decide (x.2.2.2.2.2.2.2.1 = y.2.2.2.2.2.2.2.1) && (decide (x.2.2.2.2.2.2.2.2.1 = y.2.2.2.2.2.2.2.2.1) && (decide (x.2.2.2.2.2.2.2.2.2.1 = y.2.2.2.2.2.2.2.2.2.1) && (decide (x.2.2.2.2.2.2.2.2.2.2.1 = y.2.2.2.2.2.2.2.2.2.2.1) && (decide (x.2.2.2.2.2.2.2.2.2.2.2.1 = y.2.2.2.2.2.2.2.2.2.2.2.1) && (decide (x.2.2.2.2.2.2.2.2.2.2.2.2.1 = y.2.2.2.2.2.2.2.2.2.2.2.2.1) && decide (x.2.2.2.2.2.2.2.2.2.2.2.2.2 = y.2.2.2.2.2.2.2.2.2.2.2.2.2))))))))))
theorem kq4 {k N : Nat} (x y : TWorld) (v0 v1 v2 : Bool) (hr : rowsLe N sWorld x) (hN : N ≤ 1048576) (hk : N + 6 ≤ k) : KiEqualWorlds_4 k x y v0 v1 v2 = some (v1 && (v2 && (decide (x.2.2.2.2.2.1 = y.2.2.2.2.2.1) && restB x y))) :=
  (kiEqualWorlds_4 k x y v0 v1 v2).trans ((bs (fgEqualFunc_Queuev_iEqualWorlds_2 _ _ hr.2.2.2.2.2.1 hN (by omega))).trans (kq5 x y v0 v1 v2 _ hr hN hk))
theorem kq3 {k N : Nat} (x y : TWorld) (v0 v1 : Bool) (hr : rowsLe N sWorld x) (hN : N ≤ 1048576) (hk : N + 9 ≤ k) : KiEqualWorlds_3 k x y v0 v1 = some (decide (x.2.1.1 = y.2.1.1) && (decide (x.2.1.2.1 = y.2.1.2.1) && (decide (x.2.1.2.2.1 = y.2.1.2.2.1) && (v1 && (decide (x.2.1.2.2.2 = y.2.1.2.2.2) && (decide (x.2.2.2.2.2.1 = y.2.2.2.2.2.1) && restB x y)))))) := by
  have hf : KiEqualWorlds_4 k x y v0 v1 false = some false := by rw [kq4 x y v0 v1 false hr hN (by omega)]; simp
  exact (kiEqualWorlds_3 k x y v0 v1).trans (ib1 (ib1 (ib1 ((bs (fgEqualFunc_Piecev_iEqualWorlds_1 _ _ hr.2.1.2.2.2 hN (by omega))).trans (kq4 x y v0 v1 _ hr hN (by omega))) hf) hf) hf)
theorem kq2 {k N : Nat} (x y : TWorld) (v0 v1 : Bool) (hr : rowsLe N sWorld x) (hN : N ≤ 1048576) (hk : N + 9 ≤ k) : KiEqualWorlds_2 k x y v0 v1 = some (decide (x.2.1.1 = y.2.1.1) && (decide (x.2.1.2.1 = y.2.1.2.1) && (decide (x.2.1.2.2.1 = y.2.1.2.2.1) && (v1 && (decide (x.2.1.2.2.2 = y.2.1.2.2.2) && (decide (x.2.2.2.2.2.1 = y.2.2.2.2.2.1) && restB x y)))))) :=
  (kiEqualWorlds_2 k x y v0 v1).trans (kq3 x y v0 v1 hr hN hk)
theorem fiEqualWorlds {k N : Nat} (x y : TWorld) (hr : rowsLe N sWorld x) (hN : N ≤ 1048576) (hk : N + 10 ≤ k) : ∃ b, FiEqualWorlds k x y = some b ∧ (b = true ↔ x = y) := by
  obtain ⟨k, rfl⟩ := pred (d := 0) (show 1 ≤ k by omega)
  have l1 : x.1.2.1.length ≤ N := (rowsLe_row (e := 0) (sh := sI4) hr.1.2.1).1
  have l2 : x.1.2.2.1.length ≤ N := (rowsLe_row (e := 0) (sh := sI3) hr.1.2.2.1).1
  have l3 : x.1.2.2.2.2.2.2.2.2.1.length ≤ N := (rowsLe_row (e := 0) (sh := sZone) hr.1.2.2.2.2.2.2.2.2.1).1
  have hf : KiEqualWorlds_2 k x y false false = some false := by rw [kq2 x y false false hr hN (by omega)]; simp
  refine ⟨_, (eiEqualWorlds k x y).trans ((kiEqualWorlds_0 k x y false).trans ((kiEqualWorlds_1 k x y false).trans (ib1 (ib1 (ib1 (ib1 (ib1 (ib1 (ib1 ((bs (fgEqual_Sat _ _ (by omega) (by omega))).trans (ibb ((bs (fgEqual_Site _ _ (by omega) (by omega))).trans (ibb ((bs (fgEqual_Zone _ _ (by omega) (by omega))).trans (kq2 x y false _ hr hN (by omega))) hf)) hf)) hf) hf) hf) hf) hf) hf) hf))), ?_⟩
  clear hf l1 l2 l3 hr
  constructor
  · intro h
    unfold restB at h
    obtain ⟨⟨xa0, xa1, xa2, xa3, xa4, xa5, xa6, xa7, xa8, xa9⟩, ⟨xp0, xp1, xp2, xp3⟩, xc0, xc1, xc2, xc3, xc4, xc5, xc6, xc7, xc8, xc9, xc10, xc11⟩ := x
    obtain ⟨⟨ya0, ya1, ya2, ya3, ya4, ya5, ya6, ya7, ya8, ya9⟩, ⟨yp0, yp1, yp2, yp3⟩, yc0, yc1, yc2, yc3, yc4, yc5, yc6, yc7, yc8, yc9, yc10, yc11⟩ := y
    simp only [Bool.and_eq_true, decide_eq_true_eq] at h
    obtain ⟨rfl, rfl, rfl, rfl, rfl, rfl, rfl, rfl, rfl, rfl, rfl, rfl, rfl, rfl, rfl, rfl, rfl, rfl, rfl, rfl, rfl, rfl, rfl, rfl, rfl, rfl⟩ := h
    rfl
  · rintro rfl
    simp [restB]
end Go.Proofs.YtcdlkadknenodaaGreat.World
namespace Go.Proofs.YtcdlkadknenodaaGreat.World
open Go Go.V Go.Proofs
set_option linter.unusedVariables false
set_option linter.unusedSimpArgs false
set_option maxRecDepth 100000
set_option maxHeartbeats 4000000
/-! ### the reference's EqualWorlds -/
theorem eq_loopB {α : Type} [DecidableEq α] {L : Nat → Int → Option Bool} {X : Int → Option Bool} {x y : List α} {b : Bool} {body : Nat → Int → α → α → Option Bool}
    (hs : ∀ n i, L (n + 1) i = if decide (i < (x.length : Int)) = true then if 0 ≤ i then ix x i.toNat fun a => if 0 ≤ i then ix y i.toNat (body n i a) else none else none else X i)
    (hb : ∀ n (i : Nat) a b, x[i]? = some a → y[i]? = some b → IntKind.i64.wrap ((i : Int) + 1) = ((i + 1 : Nat) : Int) → body n (i : Int) a b = if a = b then L n ((i + 1 : Nat) : Int) else some false)
    (hl : x.length = y.length) (hle : x.length ≤ 1048576) {n : Nat} (hn : x.length < n) (hX : X (x.length : Int) = some b) : L n 0 = some (decide (x = y) && b) :=
  (eq_loop (Y := some b) (N := some false) hs hX hb hl hle hn).trans (iteB rfl)
theorem sk0 {k : Nat} (x y : TSky) (b : Bool) (X : Int → Option Bool) (hl : x.2.1.length = y.2.1.length) (hle : x.2.1.length ≤ 1048576) (hk : x.2.1.length < k) (hX : X (x.2.1.length : Int) = some b) : Lsl33Skies_0 k (fun (v0 : Int) (x1 : Int × Int × Int × Int) (x2 : Int × Int × Int × Int) => some false) X (x, y) k 0 = some (decide (x.2.1 = y.2.1) && b) := by
  refine eq_loopB (L := Lsl33Skies_0 k (fun (v0 : Int) (x1 : Int × Int × Int × Int) (x2 : Int × Int × Int × Int) => some false) X (x, y)) (x := x.2.1) (y := y.2.1) (X := X) (body := fun n i x1 x2 => if (!(eqT sI4 x1 x2)) = true then some false else Lsl33Skies_0 k (fun (v0 : Int) (x1 : Int × Int × Int × Int) (x2 : Int × Int × Int × Int) => some false) X (x, y) n (IntKind.i64.wrap (i + 1))) (fun _ _ => rfl) (fun n i a b ha hb hw => ?_) hl hle (by omega) hX
  rw [hw, eqT4]
  by_cases e : a = b <;> simp [e]
theorem sk1 {k : Nat} (v0 : Int) (x y : TSky) (b : Bool) (X : Int → Option Bool) (hl : x.2.2.1.length = y.2.2.1.length) (hle : x.2.2.1.length ≤ 1048576) (hk : x.2.2.1.length < k) (hX : X (x.2.2.1.length : Int) = some b) : Lsl33Skies_1 k (fun (v1 : Int) (x1 : Int × Int × Int) (x2 : Int × Int × Int) => some false) X (v0, x, y) k 0 = some (decide (x.2.2.1 = y.2.2.1) && b) := by
  refine eq_loopB (L := Lsl33Skies_1 k (fun (v1 : Int) (x1 : Int × Int × Int) (x2 : Int × Int × Int) => some false) X (v0, x, y)) (x := x.2.2.1) (y := y.2.2.1) (X := X) (body := fun n i x1 x2 => if (!(eqT sI3 x1 x2)) = true then some false else Lsl33Skies_1 k (fun (v1 : Int) (x1 : Int × Int × Int) (x2 : Int × Int × Int) => some false) X (v0, x, y) n (IntKind.i64.wrap (i + 1))) (fun _ _ => rfl) (fun n i a b ha hb hw => ?_) hl hle (by omega) hX
  rw [hw, eqT3]
  by_cases e : a = b <;> simp [e]
theorem sk2 {k : Nat} (v0 : Int) (v1 : Int) (x y : TSky) (b : Bool) (X : Int → Option Bool) (hl : x.2.2.2.2.2.2.2.2.1.length = y.2.2.2.2.2.2.2.2.1.length) (hle : x.2.2.2.2.2.2.2.2.1.length ≤ 1048576) (hk : x.2.2.2.2.2.2.2.2.1.length < k) (hX : X (x.2.2.2.2.2.2.2.2.1.length : Int) = some b) : Lsl33Skies_2 k (fun (v2 : Int) (x1 : Int × Int × Int) (x2 : Int × Int × Int) => some false) X (v0, v1, x, y) k 0 = some (decide (x.2.2.2.2.2.2.2.2.1 = y.2.2.2.2.2.2.2.2.1) && b) := by
  refine eq_loopB (L := Lsl33Skies_2 k (fun (v2 : Int) (x1 : Int × Int × Int) (x2 : Int × Int × Int) => some false) X (v0, v1, x, y)) (x := x.2.2.2.2.2.2.2.2.1) (y := y.2.2.2.2.2.2.2.2.1) (X := X) (body := fun n i x1 x2 => if (!(eqT sZone x1 x2)) = true then some false else Lsl33Skies_2 k (fun (v2 : Int) (x1 : Int × Int × Int) (x2 : Int × Int × Int) => some false) X (v0, v1, x, y) n (IntKind.i64.wrap (i + 1))) (fun _ _ => rfl) (fun n i a b ha hb hw => ?_) hl hle (by omega) hX
  rw [hw, eqZ]
  by_cases e : a = b <;> simp [e]
theorem ls0 {k : Nat} (x y : TWorld) (b : Bool) (X : Int → Option Bool) (hl : x.2.2.2.2.1.length = y.2.2.2.2.1.length) (hle : x.2.2.2.2.1.length ≤ 1048576) (hk : x.2.2.2.2.1.length < k) (hX : X (x.2.2.2.2.1.length : Int) = some b) : Lsl33Lists_0 k (fun (v0 : Int) (x1 : Int × Int × Int × Int × Int × Int) (x2 : Int × Int × Int × Int × Int × Int) => some false) X (x, y) k 0 = some (decide (x.2.2.2.2.1 = y.2.2.2.2.1) && b) := by
  refine eq_loopB (L := Lsl33Lists_0 k (fun (v0 : Int) (x1 : Int × Int × Int × Int × Int × Int) (x2 : Int × Int × Int × Int × Int × Int) => some false) X (x, y)) (x := x.2.2.2.2.1) (y := y.2.2.2.2.1) (X := X) (body := fun n i x1 x2 => if (!(eqT sI6 x1 x2)) = true then some false else Lsl33Lists_0 k (fun (v0 : Int) (x1 : Int × Int × Int × Int × Int × Int) (x2 : Int × Int × Int × Int × Int × Int) => some false) X (x, y) n (IntKind.i64.wrap (i + 1))) (fun _ _ => rfl) (fun n i a b ha hb hw => ?_) hl hle (by omega) hX
  rw [hw, eqT6]
  by_cases e : a = b <;> simp [e]
theorem ls1 {k : Nat} (v0 : Int) (x y : TWorld) (b : Bool) (X : Int → Option Bool) (hl : x.2.2.2.2.2.1.length = y.2.2.2.2.2.1.length) (hle : x.2.2.2.2.2.1.length ≤ 1048576) (hk : x.2.2.2.2.2.1.length < k) {N : Nat} (hr : rowsLe N sWorld x) (hN : N ≤ 1048576) (hkN : N + 2 ≤ k) (hX : X (x.2.2.2.2.2.1.length : Int) = some b) : Lsl33Lists_1 k (fun (v1 : Int) (x1 : List (Int × Int × Int × Int × Int × Int)) (x2 : List (Int × Int × Int × Int × Int × Int)) (p3 : Bool) => some false) X (v0, x, y) k 0 = some (decide (x.2.2.2.2.2.1 = y.2.2.2.2.2.1) && b) := by
  refine eq_loopB (L := Lsl33Lists_1 k (fun (v1 : Int) (x1 : List (Int × Int × Int × Int × Int × Int)) (x2 : List (Int × Int × Int × Int × Int × Int)) (p3 : Bool) => some false) X (v0, x, y)) (x := x.2.2.2.2.2.1) (y := y.2.2.2.2.2.1) (X := X) (body := fun n i x1 x2 => (Fsl33List k x1 x2).bind fun p3 => if (!p3) = true then some false else Lsl33Lists_1 k (fun (v1 : Int) (x1 : List (Int × Int × Int × Int × Int × Int)) (x2 : List (Int × Int × Int × Int × Int × Int)) (p3 : Bool) => some false) X (v0, x, y) n (IntKind.i64.wrap (i + 1))) (fun _ _ => rfl) (fun n i a b ha hb hw => ?_) hl hle (by omega) hX
  refine (bs (fsl33List a b (by have : a.length ≤ N := (rowsLe_row (e := 0) (sh := sI6) ((rowsLe_row hr.2.2.2.2.2.1).2 _ (List.mem_of_getElem? ha))).1; omega) (by have : a.length ≤ N := (rowsLe_row (e := 0) (sh := sI6) ((rowsLe_row hr.2.2.2.2.2.1).2 _ (List.mem_of_getElem? ha))).1; omega))).trans ?_
  rw [hw]
  by_cases e : a = b <;> simp [e]
theorem ls2 {k : Nat} (v0 : Int) (v1 : Int) (x y : TWorld) (b : Bool) (X : Int → Option Bool) (hl : x.2.2.2.2.2.2.1.length = y.2.2.2.2.2.2.1.length) (hle : x.2.2.2.2.2.2.1.length ≤ 1048576) (hk : x.2.2.2.2.2.2.1.length < k) (hX : X (x.2.2.2.2.2.2.1.length : Int) = some b) : Lsl33Lists_2 k (fun (v2 : Int) (x1 : Int × Int × Int × Int) (x2 : Int × Int × Int × Int) => some false) X (v0, v1, x, y) k 0 = some (decide (x.2.2.2.2.2.2.1 = y.2.2.2.2.2.2.1) && b) := by
  refine eq_loopB (L := Lsl33Lists_2 k (fun (v2 : Int) (x1 : Int × Int × Int × Int) (x2 : Int × Int × Int × Int) => some false) X (v0, v1, x, y)) (x := x.2.2.2.2.2.2.1) (y := y.2.2.2.2.2.2.1) (X := X) (body := fun n i x1 x2 => if (!(eqT sI4 x1 x2)) = true then some false else Lsl33Lists_2 k (fun (v2 : Int) (x1 : Int × Int × Int × Int) (x2 : Int × Int × Int × Int) => some false) X (v0, v1, x, y) n (IntKind.i64.wrap (i + 1))) (fun _ _ => rfl) (fun n i a b ha hb hw => ?_) hl hle (by omega) hX
  rw [hw, eqT4]
  by_cases e : a = b <;> simp [e]
theorem ls3 {k : Nat} (v0 : Int) (v1 : Int) (v2 : Int) (x y : TWorld) (b : Bool) (X : Int → Option Bool) (hl : x.2.2.2.2.2.2.2.2.1.length = y.2.2.2.2.2.2.2.2.1.length) (hle : x.2.2.2.2.2.2.2.2.1.length ≤ 1048576) (hk : x.2.2.2.2.2.2.2.2.1.length < k) {N : Nat} (hr : rowsLe N sWorld x) (hN : N ≤ 1048576) (hkN : N + 3 ≤ k) (hX : X (x.2.2.2.2.2.2.2.2.1.length : Int) = some b) : Lsl33Lists_3 k (fun (v3 : Int) (x1 : Int × Int × List Int) (x2 : Int × Int × List Int) (p3 : Bool) => some false) X (v0, v1, v2, x, y) k 0 = some (decide (x.2.2.2.2.2.2.2.2.1 = y.2.2.2.2.2.2.2.2.1) && b) := by
  refine eq_loopB (L := Lsl33Lists_3 k (fun (v3 : Int) (x1 : Int × Int × List Int) (x2 : Int × Int × List Int) (p3 : Bool) => some false) X (v0, v1, v2, x, y)) (x := x.2.2.2.2.2.2.2.2.1) (y := y.2.2.2.2.2.2.2.2.1) (X := X) (body := fun n i x1 x2 => (FsEqualStreams k x1 x2).bind fun p3 => if (!p3) = true then some false else Lsl33Lists_3 k (fun (v3 : Int) (x1 : Int × Int × List Int) (x2 : Int × Int × List Int) (p3 : Bool) => some false) X (v0, v1, v2, x, y) n (IntKind.i64.wrap (i + 1))) (fun _ _ => rfl) (fun n i a b ha hb hw => ?_) hl hle (by omega) hX
  refine (bs (fsEqualStreams a b ((rowsLe_row hr.2.2.2.2.2.2.2.2.1).2 _ (List.mem_of_getElem? ha)) hN (by omega))).trans ?_
  rw [hw]
  by_cases e : a = b <;> simp [e]
theorem ls4 {k : Nat} (v0 : Int) (v1 : Int) (v2 : Int) (v3 : Int) (x y : TWorld) (b : Bool) (X : Int → Option Bool) (hl : x.2.2.2.2.2.2.2.2.2.1.length = y.2.2.2.2.2.2.2.2.2.1.length) (hle : x.2.2.2.2.2.2.2.2.2.1.length ≤ 1048576) (hk : x.2.2.2.2.2.2.2.2.2.1.length < k) (hX : X (x.2.2.2.2.2.2.2.2.2.1.length : Int) = some b) : Lsl33Lists_4 k (fun (v4 : Int) (x1 : Int × Int × Int × Int) (x2 : Int × Int × Int × Int) => some false) X (v0, v1, v2, v3, x, y) k 0 = some (decide (x.2.2.2.2.2.2.2.2.2.1 = y.2.2.2.2.2.2.2.2.2.1) && b) := by
  refine eq_loopB (L := Lsl33Lists_4 k (fun (v4 : Int) (x1 : Int × Int × Int × Int) (x2 : Int × Int × Int × Int) => some false) X (v0, v1, v2, v3, x, y)) (x := x.2.2.2.2.2.2.2.2.2.1) (y := y.2.2.2.2.2.2.2.2.2.1) (X := X) (body := fun n i x1 x2 => if (!(eqT sI4 x1 x2)) = true then some false else Lsl33Lists_4 k (fun (v4 : Int) (x1 : Int × Int × Int × Int) (x2 : Int × Int × Int × Int) => some false) X (v0, v1, v2, v3, x, y) n (IntKind.i64.wrap (i + 1))) (fun _ _ => rfl) (fun n i a b ha hb hw => ?_) hl hle (by omega) hX
  rw [hw, eqT4]
  by_cases e : a = b <;> simp [e]
theorem ls5 {k : Nat} (v0 : Int) (v1 : Int) (v2 : Int) (v3 : Int) (v4 : Int) (x y : TWorld) (b : Bool) (X : Int → Option Bool) (hl : x.2.2.2.2.2.2.2.2.2.2.2.2.2.length = y.2.2.2.2.2.2.2.2.2.2.2.2.2.length) (hle : x.2.2.2.2.2.2.2.2.2.2.2.2.2.length ≤ 1048576) (hk : x.2.2.2.2.2.2.2.2.2.2.2.2.2.length < k) (hX : X (x.2.2.2.2.2.2.2.2.2.2.2.2.2.length : Int) = some b) : Lsl33Lists_5 k (fun (v5 : Int) (x1 : Int × Int × Int × Int) (x2 : Int × Int × Int × Int) => some false) X (v0, v1, v2, v3, v4, x, y) k 0 = some (decide (x.2.2.2.2.2.2.2.2.2.2.2.2.2 = y.2.2.2.2.2.2.2.2.2.2.2.2.2) && b) := by
  refine eq_loopB (L := Lsl33Lists_5 k (fun (v5 : Int) (x1 : Int × Int × Int × Int) (x2 : Int × Int × Int × Int) => some false) X (v0, v1, v2, v3, v4, x, y)) (x := x.2.2.2.2.2.2.2.2.2.2.2.2.2) (y := y.2.2.2.2.2.2.2.2.2.2.2.2.2) (X := X) (body := fun n i x1 x2 => if (!(eqT sI4 x1 x2)) = true then some false else Lsl33Lists_5 k (fun (v5 : Int) (x1 : Int × Int × Int × Int) (x2 : Int × Int × Int × Int) => some false) X (v0, v1, v2, v3, v4, x, y) n (IntKind.i64.wrap (i + 1))) (fun _ _ => rfl) (fun n i a b ha hb hw => ?_) hl hle (by omega) hX
  rw [hw, eqT4]
  by_cases e : a = b <;> simp [e]
theorem fsl33Skies {k N : Nat} (x y : TSky) (hr : rowsLe N sSky x) (hN : N ≤ 1048576) (hk : N + 2 ≤ k) : Fsl33Skies k x y = some (decide (x.1 = y.1) && (decide (x.2.2.2.1 = y.2.2.2.1) && (decide (x.2.2.2.2.1 = y.2.2.2.2.1) && (decide (x.2.2.2.2.2.1 = y.2.2.2.2.2.1) && (decide (x.2.2.2.2.2.2.1 = y.2.2.2.2.2.2.1) && (decide (x.2.2.2.2.2.2.2.1 = y.2.2.2.2.2.2.2.1) && (decide (x.2.2.2.2.2.2.2.2.2 = y.2.2.2.2.2.2.2.2.2) && (decide (x.2.1 = y.2.1) && (decide (x.2.2.1 = y.2.2.1) && (decide (x.2.2.2.2.2.2.2.2.1 = y.2.2.2.2.2.2.2.2.1) && true)))))))))) := by
  obtain ⟨k, rfl⟩ := pred (d := 0) (show 1 ≤ k by omega)
  have l1 : x.2.1.length ≤ N := (rowsLe_row (e := 0) (sh := sI4) hr.2.1).1
  have l2 : x.2.2.1.length ≤ N := (rowsLe_row (e := 0) (sh := sI3) hr.2.2.1).1
  have l3 : x.2.2.2.2.2.2.2.2.1.length ≤ N := (rowsLe_row (e := 0) (sh := sZone) hr.2.2.2.2.2.2.2.2.1).1
  refine (esl33Skies k x y).trans (ilen (fun h1 => ilen (fun h2 => ilen (fun h3 => ib2 (ib2 (ib2 (ib2 (ib2 (ib2 (ib3 (sk0 x y _ _ h1 (by omega) (by omega) (sk1 _ x y _ _ h2 (by omega) (by omega) (sk2 _ _ x y true _ h3 (by omega) (by omega) rfl))) rfl) rfl) rfl) rfl) rfl) rfl) rfl) rfl ?_) rfl ?_) rfl ?_)
  all_goals (intro h; simp [lenF h])
theorem fsl33Lists {k N : Nat} (x y : TWorld) (hr : rowsLe N sWorld x) (hN : N ≤ 1048576) (hk : N + 4 ≤ k) : Fsl33Lists k x y = some (decide (x.2.2.2.2.1 = y.2.2.2.2.1) && (decide (x.2.2.2.2.2.1 = y.2.2.2.2.2.1) && (decide (x.2.2.2.2.2.2.1 = y.2.2.2.2.2.2.1) && (decide (x.2.2.2.2.2.2.2.2.1 = y.2.2.2.2.2.2.2.2.1) && (decide (x.2.2.2.2.2.2.2.2.2.1 = y.2.2.2.2.2.2.2.2.2.1) && (decide (x.2.2.2.2.2.2.2.2.2.2.2.2.2 = y.2.2.2.2.2.2.2.2.2.2.2.2.2) && true)))))) := by
  obtain ⟨k, rfl⟩ := pred (d := 0) (show 1 ≤ k by omega)
  have l4 : x.2.2.2.2.1.length ≤ N := (rowsLe_row (e := 0) (sh := sI6) hr.2.2.2.2.1).1
  have l5 : x.2.2.2.2.2.1.length ≤ N := (rowsLe_row (e := 0) (sh := sQueue) hr.2.2.2.2.2.1).1
  have l6 : x.2.2.2.2.2.2.1.length ≤ N := (rowsLe_row (e := 0) (sh := sI4) hr.2.2.2.2.2.2.1).1
  have l8 : x.2.2.2.2.2.2.2.2.1.length ≤ N := (rowsLe_row (e := 0) (sh := sStream) hr.2.2.2.2.2.2.2.2.1).1
  have l9 : x.2.2.2.2.2.2.2.2.2.1.length ≤ N := (rowsLe_row (e := 0) (sh := sI4) hr.2.2.2.2.2.2.2.2.2.1).1
  have l13 : x.2.2.2.2.2.2.2.2.2.2.2.2.2.length ≤ N := (rowsLe_row (e := 0) (sh := sI4) hr.2.2.2.2.2.2.2.2.2.2.2.2.2).1
  refine (esl33Lists k x y).trans (ilen (fun h1 => ilen (fun h2 => ilen (fun h3 => ilen (fun h4 => ilen (fun h5 => ilen' (fun h6 => ls0 x y _ _ h1 (by omega) (by omega) (ls1 _ x y _ _ h2 (by omega) (by omega) hr hN (by omega) (ls2 _ _ x y _ _ h3 (by omega) (by omega) (ls3 _ _ _ x y _ _ h4 (by omega) (by omega) hr hN (by omega) (ls4 _ _ _ _ x y _ _ h5 (by omega) (by omega) (ls5 _ _ _ _ _ x y true _ h6 (by omega) (by omega) rfl)))))) rfl ?_) rfl ?_) rfl ?_) rfl ?_) rfl ?_) rfl ?_)
  all_goals (intro h; simp [lenF h])
theorem pr1 {k N : Nat} (v0 : Int) (p q : TProgram) (x y : TPiece) (X : Int → Option Bool) (hr : rowsLe N sPiece x) (hN : N ≤ 1048576) (hk : N + 4 ≤ k) (hl : x.2.2.length = y.2.2.length) : Lsl33Programs_1 k (fun (v1 : Int) (x4 : Int × (List Int) × List Int) (x5 : Int × (List Int) × List Int) (p6 : Bool) => some false) X (v0, p, q, x, y) k 0 = if x.2.2 = y.2.2 then X (x.2.2.length : Int) else some false := by
  obtain ⟨hl2', h2⟩ := rowsLe_row hr.2.2
  have hl2 : x.2.2.length ≤ N := hl2'
  refine eq_loop (L := Lsl33Programs_1 k (fun (v1 : Int) (x4 : Int × (List Int) × List Int) (x5 : Int × (List Int) × List Int) (p6 : Bool) => some false) X (v0, p, q, x, y)) (x := x.2.2) (y := y.2.2) (Y := X (x.2.2.length : Int)) (N := some false) (X := X) (body := fun n i x1 x2 => (FsEqualTables k x1 x2).bind fun p3 => if (!p3) = true then some false else Lsl33Programs_1 k (fun (v1 : Int) (x4 : Int × (List Int) × List Int) (x5 : Int × (List Int) × List Int) (p6 : Bool) => some false) X (v0, p, q, x, y) n (IntKind.i64.wrap (i + 1))) (fun _ _ => rfl) rfl (fun n i a b ha hb hw => ?_) hl (by omega) (by omega)
  refine (bs (fsEqualTables a b (h2 _ (List.mem_of_getElem? ha)) hN (by omega))).trans ?_
  rw [hw]
  by_cases e : a = b <;> simp [e]
theorem pr0 {k N : Nat} (x y : TProgram) (hr : rowsLe N sProgram x) (hN : N ≤ 1048576) (hk : N + 5 ≤ k) (hl : x.2.2.2.length = y.2.2.2.length) : Lsl33Programs_0 k (fun (v0 : Int) (x1 : TPiece) (x2 : TPiece) (p3 : Bool) => some false) (fun (v0 : Int) (x1 : TPiece) (x2 : TPiece) (p3 : Bool) (v1 : Int) (x4 : Int × (List Int) × List Int) (x5 : Int × (List Int) × List Int) (p6 : Bool) => some false) (fun (v0 : Int) (x1 : TPiece) (x2 : TPiece) (p3 : Bool) => some false) (fun (v0 : Int) (x1 : TPiece) (x2 : TPiece) => some false) (fun (v0 : Int) => some true) (x, y) k 0 = some (decide (x.2.2.2 = y.2.2.2) && true) := by
  obtain ⟨hl2', h2⟩ := rowsLe_row hr.2.2.2
  have hl2 : x.2.2.2.length ≤ N := hl2'
  refine eq_loopB (L := Lsl33Programs_0 k (fun (v0 : Int) (x1 : TPiece) (x2 : TPiece) (p3 : Bool) => some false) (fun (v0 : Int) (x1 : TPiece) (x2 : TPiece) (p3 : Bool) (v1 : Int) (x4 : Int × (List Int) × List Int) (x5 : Int × (List Int) × List Int) (p6 : Bool) => some false) (fun (v0 : Int) (x1 : TPiece) (x2 : TPiece) (p3 : Bool) => some false) (fun (v0 : Int) (x1 : TPiece) (x2 : TPiece) => some false) (fun (v0 : Int) => some true) (x, y)) (x := x.2.2.2) (y := y.2.2.2) (X := fun _ => some true) (body := fun n i x1 x2 => if ((!(eqT sI2 x1.1 x2.1)) == false) = true then (FsSameLinks k x1.2.1 x2.2.1).bind fun p3 => if ((!p3) == false) = true then if ((x1.2.2.length : Int) != (x2.2.2.length : Int)) = true then some false else Lsl33Programs_1 k (fun (v1 : Int) (x4 : Int × (List Int) × List Int) (x5 : Int × (List Int) × List Int) (p6 : Bool) => some false) (fun (v1 : Int) => Lsl33Programs_0 k (fun (v0 : Int) (x1 : TPiece) (x2 : TPiece) (p3 : Bool) => some false) (fun (v0 : Int) (x1 : TPiece) (x2 : TPiece) (p3 : Bool) (v1 : Int) (x4 : Int × (List Int) × List Int) (x5 : Int × (List Int) × List Int) (p6 : Bool) => some false) (fun (v0 : Int) (x1 : TPiece) (x2 : TPiece) (p3 : Bool) => some false) (fun (v0 : Int) (x1 : TPiece) (x2 : TPiece) => some false) (fun (v0 : Int) => some true) (x, y) n (IntKind.i64.wrap (i + 1))) (i, x, y, x1, x2) k 0 else some false else some false) (fun _ _ => rfl) (fun n i a b ha hb hw => ?_) hl (by omega) (by omega) rfl
  have hra := h2 _ (List.mem_of_getElem? ha)
  have la : a.2.1.length ≤ N := (rowsLe_row (e := 0) (sh := sI2) hra.2.1).1
  rw [hw, eqT2]
  generalize Lsl33Programs_0 k (fun (v0 : Int) (x1 : TPiece) (x2 : TPiece) (p3 : Bool) => some false) (fun (v0 : Int) (x1 : TPiece) (x2 : TPiece) (p3 : Bool) (v1 : Int) (x4 : Int × (List Int) × List Int) (x5 : Int × (List Int) × List Int) (p6 : Bool) => some false) (fun (v0 : Int) (x1 : TPiece) (x2 : TPiece) (p3 : Bool) => some false) (fun (v0 : Int) (x1 : TPiece) (x2 : TPiece) => some false) (fun (v0 : Int) => some true) (x, y) n ((i + 1 : Nat) : Int) = Z
  by_cases e1 : a.1 = b.1
  · rw [if_pos (by simp [e1]), fsSameLinks _ _ (by omega) (by omega), Option.bind_some]
    by_cases e2 : a.2.1 = b.2.1
    · rw [if_pos (by simp [e2])]
      by_cases e3 : a.2.2.length = b.2.2.length
      · rw [if_neg (by simp; omega)]
        rw [pr1 _ x y a b _ hra hN (by omega) e3]
        by_cases e4 : a.2.2 = b.2.2
        · have e : a = b := Prod.ext e1 (Prod.ext e2 e4)
          rw [if_pos e, if_pos e4]
        · have e : ¬ a = b := fun e => e4 (by rw [e])
          rw [if_neg e, if_neg e4]
      · have e : ¬ a = b := fun e => e3 (by rw [e])
        rw [if_pos (by simp; omega), if_neg e]
    · have e : ¬ a = b := fun e => e2 (by rw [e])
      rw [if_neg (by simp [e2]), if_neg e]
  · have e : ¬ a = b := fun e => e1 (by rw [e])
    rw [if_neg (by simp [e1]), if_neg e]
theorem fsl33Programs {k N : Nat} (x y : TProgram) (hr : rowsLe N sProgram x) (hN : N ≤ 1048576) (hk : N + 6 ≤ k) : Fsl33Programs k x y = some (decide (x.1 = y.1) && (decide (x.2.1 = y.2.1) && (decide (x.2.2.1 = y.2.2.1) && (decide (x.2.2.2 = y.2.2.2) && true)))) := by
  obtain ⟨k, rfl⟩ := pred (d := 0) (show 1 ≤ k by omega)
  refine (esl33Programs k x y).trans (ib2 (ib2 (ib2 (ilen' (fun h => pr0 x y hr hN (by omega) h) rfl ?_) rfl) rfl) rfl)
  intro h
  simp [lenF h]
theorem fsEqualWorlds {k N : Nat} (x y : TWorld) (hr : rowsLe N sWorld x) (hN : N ≤ 1048576) (hk : N + 10 ≤ k) : ∃ b, FsEqualWorlds k x y = some b ∧ (b = true ↔ x = y) := by
  obtain ⟨k, rfl⟩ := pred (d := 0) (show 1 ≤ k by omega)
  have l2 : x.2.2.1.length ≤ N := (rowsLe_row (e := 0) (sh := .i .i64) hr.2.2.1).1
  have l3 : x.2.2.2.1.length ≤ N := (rowsLe_row (e := 0) (sh := .i .i64) hr.2.2.2.1).1
  have l7 : x.2.2.2.2.2.2.2.1.length ≤ N := (rowsLe_row (e := 0) (sh := .i .i64) hr.2.2.2.2.2.2.2.1).1
  have l12 : x.2.2.2.2.2.2.2.2.2.2.2.2.1.length ≤ N := (rowsLe_row (e := 0) (sh := sI6) hr.2.2.2.2.2.2.2.2.2.2.2.2.1).1
  refine ⟨_, (esEqualWorlds k x y).trans (ib2 (ib3 ((bs (fsl33Skies _ _ hr.1 hN (by omega))).trans (ibb ((bs (fsl33Programs _ _ hr.2.1 hN (by omega))).trans (ibb ((bs (fsEqualInts _ _ (by omega) (by omega))).trans (ibb ((bs (fsEqualInts _ _ (by omega) (by omega))).trans (ibb ((bs (fsEqualInts _ _ (by omega) (by omega))).trans (ibb ((bs (fsl33Lists _ _ hr hN (by omega))).trans (ibb ((bs (fsl33List _ _ (by omega) (by omega))).trans rfl) rfl)) rfl)) rfl)) rfl)) rfl)) rfl)) rfl) rfl), ?_⟩
  clear l2 l3 l7 l12 hr
  constructor
  · intro h
    obtain ⟨⟨xa0, xa1, xa2, xa3, xa4, xa5, xa6, xa7, xa8, xa9⟩, ⟨xp0, xp1, xp2, xp3⟩, xc0, xc1, xc2, xc3, xc4, xc5, xc6, xc7, xc8, xc9, xc10, xc11⟩ := x
    obtain ⟨⟨ya0, ya1, ya2, ya3, ya4, ya5, ya6, ya7, ya8, ya9⟩, ⟨yp0, yp1, yp2, yp3⟩, yc0, yc1, yc2, yc3, yc4, yc5, yc6, yc7, yc8, yc9, yc10, yc11⟩ := y
    simp only [Bool.and_eq_true, decide_eq_true_eq, and_true, and_assoc] at h
    obtain ⟨rfl, rfl, rfl, rfl, rfl, rfl, rfl, rfl, rfl, rfl, rfl, rfl, rfl, rfl, rfl, rfl, rfl, rfl, rfl, rfl, rfl, rfl, rfl, rfl, rfl, rfl⟩ := h
    rfl
  · rintro rfl
    simp
end Go.Proofs.YtcdlkadknenodaaGreat.World
namespace Go.Proofs.YtcdlkadknenodaaGreat.World
open Go Go.V Go.Proofs
set_option linter.unusedVariables false
set_option linter.unusedSimpArgs false
set_option maxRecDepth 100000
set_option maxHeartbeats 4000000
theorem lFnExactEqualWorlds (w v : TLWorld) (hr : rowsLe 140737488351232 sLWorld w) (hv : rowsLe 140737488351232 sLWorld v) : ∃ k, FlFnExactEqualWorlds k w v = some true := by
  refine ⟨szT sLWorld w + szT sLWorld v + 20000, ?_⟩
  rw [elFnExactEqualWorlds, zlszWorld _ w 1048576 hr (by omega) (by omega) (by omega), Option.bind_some]
  by_cases hz : szT sLWorld w ≤ 1048576
  · rw [szR_pos (by omega), if_neg (by simp; omega), zlszWorld _ v _ hv (by omega) (by omega) (by omega), Option.bind_some]
    by_cases hy : szT sLWorld w + szT sLWorld v ≤ 1048576
    · rw [szR_pos (by omega), if_neg (by simp; omega)]
      have e60 : szT sWorld w = szT sLWorld w := rfl
      have e61 : szT sWorld v = szT sLWorld v := rfl
      have hrow := rows_le sWorld w (szT sLWorld w) (Nat.le_of_eq e60)
      have tw := tltoWorld (szT sLWorld w + szT sLWorld v + 19999) w hz (by omega)
      have tv := tltoWorld (szT sLWorld w + szT sLWorld v + 19999) v (by omega) (by omega)
      have qw := qleqWorld (szT sLWorld w + szT sLWorld v + 19999) w (by rw [e60]; omega) (by rw [e60]; omega)
      have qv := qleqWorld (szT sLWorld w + szT sLWorld v + 19999) v (by rw [e61]; omega) (by rw [e61]; omega)
      obtain ⟨b, fs, hb⟩ := fsEqualWorlds (k := szT sLWorld w + szT sLWorld v + 19999) w v hrow (by omega) (by omega)
      obtain ⟨c, fi, hc⟩ := fiEqualWorlds (k := szT sLWorld w + szT sLWorld v + 19999) w v hrow (by omega) (by omega)
      have e : c = b := by rw [Bool.eq_iff_iff, hb, hc]
      subst e
      rw [tw, Option.bind_some, tv, Option.bind_some, fs, Option.bind_some, Option.bind_some, Option.bind_some, fi, Option.bind_some, if_neg (by simp), Option.bind_some, qw, Option.bind_some, if_neg (by decide), Option.bind_some, qv, Option.bind_some, if_neg (by decide)]
    · rw [szR_neg (by omega), if_pos (by decide)]
  · rw [szR_neg (by omega), if_pos (by decide)]
end Go.Proofs.YtcdlkadknenodaaGreat.World
namespace Go.Proofs.YtcdlkadknenodaaGreat.World
open Go Go.V Go.Proofs
open Go.ChangeShapes Go.WideShapes Go.ChangeAt Go.RowKit
set_option linter.unusedVariables false
set_option maxRecDepth 100000
theorem tyOk : ∀ t i, E.ty t = some i → TyOk E.P t i := by
  intro t i h
  replace h : ty t = some i := h
  unfold ty at h
  split at h <;> first | (cases h; done) | (cases h; exact ⟨by kernel_rfl, by kernel_rfl⟩)
theorem fn0Ok : ∀ f F, fn0 f = some F → E.P.funcs[f]? = some F ∧ F.name ≠ "runtime.NumGoroutine" ∧ ∀ c, F.body = some c → codeOk c = true := by
  intro f F h
  unfold fn0 at h
  split at h <;> first | (cases h; done) | (cases h; exact ⟨by kernel_rfl, of_decide_eq_true (by kernel_rfl), fun c hc => by cases hc; kernel_rfl⟩)
theorem fn1Ok : ∀ f F, fn1 f = some F → E.P.funcs[f]? = some F ∧ F.name ≠ "runtime.NumGoroutine" ∧ ∀ c, F.body = some c → codeOk c = true := by
  intro f F h
  unfold fn1 at h
  split at h <;> first | (cases h; done) | (cases h; exact ⟨by kernel_rfl, of_decide_eq_true (by kernel_rfl), fun c hc => by cases hc; kernel_rfl⟩)
theorem fnOk : ∀ f F, E.fn f = some F → E.P.funcs[f]? = some F ∧ F.name ≠ "runtime.NumGoroutine" ∧ ∀ c, F.body = some c → codeOk c = true := by
  intro f F h
  replace h : fn f = some F := h
  unfold fn at h
  split at h
  · rename_i F' hF
    rw [← Option.some.inj h]
    exact fn0Ok f F' hF
  exact fn1Ok f F h
theorem envOk : EnvOk E := ⟨tyOk, fun f F h => (fnOk f F h).1, fun f F h => (fnOk f F h).2.1, by kernel_rfl⟩
theorem sound (k : Nat) : CallOk E (den E k) := den_sound envOk (fun f F c h => (fnOk f F h).2.2 c) (fun f g h => by cases h) k
end Go.Proofs.YtcdlkadknenodaaGreat.World
namespace Go.Proofs.YtcdlkadknenodaaGreat.World
open Go Go.V Go.Proofs
open Go.ChangeShapes Go.WideShapes Go.ChangeAt Go.RowKit
set_option linter.unusedVariables false
set_option maxRecDepth 100000
theorem walk3 {k : Nat} {y0 : TW} {y1 : TW} (h : FlFnExactEqualWorlds k y0 y1 = some true) {W : World} {v0 v1 : Value} (h0 : VA W (fun _ => True) (fun _ => undef) (argAV sLWorld y0) v0) (l0 : (argAV sLWorld y0).lt 0) (h1 : VA W (fun _ => True) (fun _ => undef) (argAV sLWorld y1) v1) (l1 : (argAV sLWorld y1).lt 0) :
    Calls Tryz.prog 3 #[v0, v1] W fun e W' => e = .returned (.bool true) ∧ Go.RowKit.Below W.heap.size W W' := by
  have hs := (sound k) 3 [argAV sLWorld y0, argAV sLWorld y1] true h
  refine (hs.2 (fun _ => True) W [v0, v1] [] (fun p hp => absurd (show p ∈ ([] : List (Nat × Array Value)) from hp) (by simp)) (by
    show ArgsT W (fun _ => True) [] _ _ []
    exact ⟨⟨h0, h1, trivial⟩, by intro x hx; simp at hx; rcases hx with rfl | rfl; exact l0; exact l1, rfl⟩) List.nodup_nil (by simp)).mono ?_
  rintro e W' ⟨v, rfl, hb, hr⟩
  exact ⟨by rw [resOk_bool hr], Chg.below hb⟩
theorem own : ownKnob Tryz.prog.godebug = none := by kernel_rfl
theorem lifted (os : Os) (started : os.Started) (H : Type) (enc : TypeId × Value → H) :
    ReturnsInHanded {} Tryz.checked os 3 .any (YtcdlkadknenodaaGreat.Rows.fnExactEqualWorldsSpec.pre6 enc Tryz.prog Tryz.f3 YtcdlkadknenodaaGreat.Rows.fnExactEqualWorldsRow.domain false) (YtcdlkadknenodaaGreat.Rows.fnExactEqualWorldsSpec.post enc Tryz.prog Tryz.f3 false true false false) := by
  refine returnsInHanded_of_change_sized (C := Tryz.checked) own started (by kernel_rfl) Tryz.func3
    (ChangeSpec.witness6 (enc := enc) (C := Tryz.checked) false ⟨#[], #[.agg #[(.int .i64 0), (.slice none 0 0), (.slice none 0 0), (.int .i64 0), (.int .i64 0), (.int .i64 0), (.int .i64 0), (.int .i64 0), (.slice none 0 0), (.int .i64 0), (.int .i64 0), (.int .i64 0), (.int .i64 0), (.slice none 0 0), (.slice none 0 0), (.slice none 0 0), (.slice none 0 0), (.slice none 0 0), (.slice none 0 0), (.slice none 0 0), (.slice none 0 0), (.slice none 0 0), (.int .i64 0), (.int .i64 0), (.slice none 0 0), (.slice none 0 0)], .agg #[(.int .i64 0), (.slice none 0 0), (.slice none 0 0), (.int .i64 0), (.int .i64 0), (.int .i64 0), (.int .i64 0), (.int .i64 0), (.slice none 0 0), (.int .i64 0), (.int .i64 0), (.int .i64 0), (.int .i64 0), (.slice none 0 0), (.slice none 0 0), (.slice none 0 0), (.slice none 0 0), (.slice none 0 0), (.slice none 0 0), (.slice none 0 0), (.slice none 0 0), (.slice none 0 0), (.int .i64 0), (.int .i64 0), (.slice none 0 0), (.slice none 0 0)]], []⟩ 8 (by kernel_rfl) (by kernel_rfl) (by kernel_rfl) (by kernel_rfl)) ?_
  intro W base args ds gs before hval0 hW hcnd hsz0 _
  have hsz : (DataW.weightsEach Tryz.prog (Tryz.f3.params.toList ++ YtcdlkadknenodaaGreat.Rows.fnExactEqualWorldsSpec.plain.varTypes Tryz.prog) (ds ++ gs)).all (· ≤ reachBytes) = true := hsz0
  have hval : ∀ (j : Nat) t v, Tryz.f3.params[j]? = some t → args[j]? = some v → Value.okWide Tryz.prog W .any base t v := hval0
  have hW' := hW
  obtain ⟨p, q, hA0, hV, rfl, hfz, hnd⟩ := hW
  have hA : DataW.TrodAll enc Tryz.prog W 0 (fun _ => true) true Tryz.f3.params.toList args.toList ds p := hA0
  have hAA := hA
  rw [Tryz.params3] at hA hval hsz
  obtain ⟨v0, vs0, d0, ds0, p0, q0, hargs, rfl, rfl, h0, r0⟩ := trodAll_cons hA
  obtain ⟨v1, vs1, d1, ds1, p1, q1, rfl, rfl, rfl, h1, r1⟩ := trodAll_cons r0
  obtain ⟨rfl, rfl, rfl⟩ := trodAll_nil r1
  obtain rfl : args = #[v0, v1] := by cases args; simp_all
  obtain ⟨rfl, rfl⟩ := trodVars_none hV
  have hwt0 : ∀ n ∈ d0.weights Tryz.prog 41, n ≤ reachBytes := by
    intro n hn
    have := List.all_eq_true.1 hsz n (by simp [DataW.weightsEach, hn])
    simpa using this
  have hwt1 : ∀ n ∈ d1.weights Tryz.prog 41, n ≤ reachBytes := by
    intro n hn
    have := List.all_eq_true.1 hsz n (by simp [DataW.weightsEach, hn])
    simpa using this
  obtain ⟨y0, a0, b0, w0⟩ := arg_VA (sh := sLWorld) (by kernel_rfl) (hval 0 41 v0 rfl rfl) h0 hwt0
  obtain ⟨y1, a1, b1, w1⟩ := arg_VA (sh := sLWorld) (by kernel_rfl) (hval 1 41 v1 rfl rfl) h1 hwt1
  obtain ⟨k, hk⟩ := lFnExactEqualWorlds y0 y1 (rows_wf (P := Tryz.prog) sLWorld y0 (by kernel_rfl) w0) (rows_wf (P := Tryz.prog) sLWorld y1 (by kernel_rfl) w1)
  have hlt : ∀ x ∈ p0 ++ (p1 ++ []), x.block < W.heap.size := fun x hx => hW'.lt x (by simpa using hx)
  refine (walk3 hk a0 b0 a1 b1).mono fun e W' ⟨he, bel⟩ => ?_
  subst he
  exact ⟨_, rfl, _, _, _, [], _, [], hW', trodAll_mk1 (shut_bool Tryz.underlying4 _), below_trodAll (by kernel_rfl) bel _ _ _ _ (by kernel_rfl) hAA hlt, rfl, bel.frame _, fun h => by cases h⟩
theorem facts_of {P : Program} {f : FuncId} {fn : Func} {s : ChangeSpec} {c : OpenClaim} (k1 : (c.wf (OpenSpec.ofChange s)) = true) (k2 : (laidOutB P) = true) (k3 : (mapsRowed P) = true) (k4 : (fn.params.all (P.readableRec ·)) = true) (k5 : (namedTie P c.named s.vars) = true) (k6 : ((c.stops == [])) = true) (k7 : ((P.stops == [])) = true) (k8 : ((c.knobs == [])) = true) (k9 : ((P.stopKnobs == [])) = true) (k10 : ((c.inPlace == P.inPlace f)) = true) (k11 : ((c.unfollowed == P.unfollowed f)) = true) (k12 : ((c.recurses == P.recurses f)) = true) (k13 : ((c.named == P.varsNamed f)) = true) (k14 : ((c.maps == (fn.params.toList ++ s.plain.varTypes P).any (P.mapsRec ·))) = true) (k15 : ((c.ifaces == (fn.params.toList ++ s.plain.varTypes P).any (P.ifacesRec ·))) = true) (k16 : ((c.mapsOut == P.mapsAmong fn.resultTypes.toList)) = true) (k17 : ((c.loops == (fn.params.toList ++ s.plain.varTypes P).any (P.loopsFrom ·))) = true) (k18 : ((c.wideKeys == (fn.params.toList ++ s.plain.varTypes P ++ fn.resultTypes.toList).any (P.wideKeysFrom ·))) = true) (k19 : (s.vars.all (P.varReadable ·)) = true) (k20 : (fn.resultTypes.all (fun t => P.readableRec t && decide (t < P.types.size))) = true) (k21 : ((c.ifacesOut == fn.resultTypes.toList.any (P.ifacesRec ·))) = true) (k22 : ((c.loopsOut == fn.resultTypes.toList.any (P.loopsFrom ·))) = true) (k23 : ((c.plainKeys == P.plainKeys)) = true) (k24 : (c.shortTexts.isNone) = true) (k25 : (P.stopsHeard) = true) (k26 : (P.mayEnter) = true) (k27 : ((c.lifted == P.liftsFinal)) = true) (k28 : ((P.make == some c.make)) = true) (k29 : ((c.kinds == (if c.domain.isEmpty then [] else fn.params.toList.map fun t => match P.underlying t with | some (.int k) => some k | _ => none))) = true) (k30 : ((c.pinned == c.pinnedBy)) = true) (k31 : ((c.veiled == (fn.params.toList ++ s.plain.varTypes P ++ fn.resultTypes.toList).any (P.veiledRec ·))) = true) (k32 : (c.veiledFits P fn.params.toList (fn.params.toList ++ s.plain.varTypes P ++ fn.resultTypes.toList)) = true) : joinedFacts P f fn s c = true := by
  unfold joinedFacts
  simp only [k1, k2, k3, k4, k5, k6, k7, k8, k9, k10, k11, k12, k13, k14, k15, k16, k17, k18, k19, k20, k21, k22, k23, k24, k25, k26, k27, k28, k30, k31, k32, Bool.and_true, Bool.true_and]
  exact k29
theorem k1 : (YtcdlkadknenodaaGreat.Rows.fnExactEqualWorldsRow.wf (OpenSpec.ofChange YtcdlkadknenodaaGreat.Rows.fnExactEqualWorldsSpec)) = true := by kernel_rfl
theorem k2 : (laidOutB Tryz.checked.prog) = true := by kernel_rfl
theorem k3 : (mapsRowed Tryz.checked.prog) = true := by kernel_rfl
theorem k4 : (Tryz.f3.params.all (Tryz.checked.prog.readableRec ·)) = true := by kernel_rfl
theorem k5 : (namedTie Tryz.checked.prog YtcdlkadknenodaaGreat.Rows.fnExactEqualWorldsRow.named YtcdlkadknenodaaGreat.Rows.fnExactEqualWorldsSpec.vars) = true := by kernel_rfl
theorem k6 : ((YtcdlkadknenodaaGreat.Rows.fnExactEqualWorldsRow.stops == [])) = true := by kernel_rfl
theorem k7 : ((Tryz.checked.prog.stops == [])) = true := by kernel_rfl
theorem k8 : ((YtcdlkadknenodaaGreat.Rows.fnExactEqualWorldsRow.knobs == [])) = true := by kernel_rfl
theorem k9 : ((Tryz.checked.prog.stopKnobs == [])) = true := by kernel_rfl
theorem k10 : ((YtcdlkadknenodaaGreat.Rows.fnExactEqualWorldsRow.inPlace == Tryz.checked.prog.inPlace 3)) = true := by kernel_rfl
theorem k11 : ((YtcdlkadknenodaaGreat.Rows.fnExactEqualWorldsRow.unfollowed == Tryz.checked.prog.unfollowed 3)) = true := by kernel_rfl
theorem k12 : ((YtcdlkadknenodaaGreat.Rows.fnExactEqualWorldsRow.recurses == Tryz.checked.prog.recurses 3)) = true := by kernel_rfl
theorem k13 : ((YtcdlkadknenodaaGreat.Rows.fnExactEqualWorldsRow.named == Tryz.checked.prog.varsNamed 3)) = true := by kernel_rfl
theorem k14 : ((YtcdlkadknenodaaGreat.Rows.fnExactEqualWorldsRow.maps == (Tryz.f3.params.toList ++ YtcdlkadknenodaaGreat.Rows.fnExactEqualWorldsSpec.plain.varTypes Tryz.checked.prog).any (Tryz.checked.prog.mapsRec ·))) = true := by kernel_rfl
theorem k15 : ((YtcdlkadknenodaaGreat.Rows.fnExactEqualWorldsRow.ifaces == (Tryz.f3.params.toList ++ YtcdlkadknenodaaGreat.Rows.fnExactEqualWorldsSpec.plain.varTypes Tryz.checked.prog).any (Tryz.checked.prog.ifacesRec ·))) = true := by kernel_rfl
theorem k16 : ((YtcdlkadknenodaaGreat.Rows.fnExactEqualWorldsRow.mapsOut == Tryz.checked.prog.mapsAmong Tryz.f3.resultTypes.toList)) = true := by kernel_rfl
theorem k17 : ((YtcdlkadknenodaaGreat.Rows.fnExactEqualWorldsRow.loops == (Tryz.f3.params.toList ++ YtcdlkadknenodaaGreat.Rows.fnExactEqualWorldsSpec.plain.varTypes Tryz.checked.prog).any (Tryz.checked.prog.loopsFrom ·))) = true := by kernel_rfl
theorem k18 : ((YtcdlkadknenodaaGreat.Rows.fnExactEqualWorldsRow.wideKeys == (Tryz.f3.params.toList ++ YtcdlkadknenodaaGreat.Rows.fnExactEqualWorldsSpec.plain.varTypes Tryz.checked.prog ++ Tryz.f3.resultTypes.toList).any (Tryz.checked.prog.wideKeysFrom ·))) = true := by kernel_rfl
theorem k19 : (YtcdlkadknenodaaGreat.Rows.fnExactEqualWorldsSpec.vars.all (Tryz.checked.prog.varReadable ·)) = true := by kernel_rfl
theorem k20 : (Tryz.f3.resultTypes.all (fun t => Tryz.checked.prog.readableRec t && decide (t < Tryz.checked.prog.types.size))) = true := by kernel_rfl
theorem k21 : ((YtcdlkadknenodaaGreat.Rows.fnExactEqualWorldsRow.ifacesOut == Tryz.f3.resultTypes.toList.any (Tryz.checked.prog.ifacesRec ·))) = true := by kernel_rfl
theorem k22 : ((YtcdlkadknenodaaGreat.Rows.fnExactEqualWorldsRow.loopsOut == Tryz.f3.resultTypes.toList.any (Tryz.checked.prog.loopsFrom ·))) = true := by kernel_rfl
theorem k23 : ((YtcdlkadknenodaaGreat.Rows.fnExactEqualWorldsRow.plainKeys == Tryz.checked.prog.plainKeys)) = true := by kernel_rfl
theorem k24 : (YtcdlkadknenodaaGreat.Rows.fnExactEqualWorldsRow.shortTexts.isNone) = true := by kernel_rfl
theorem k25 : (Tryz.checked.prog.stopsHeard) = true := by kernel_rfl
theorem k26 : (Tryz.checked.prog.mayEnter) = true := by kernel_rfl
theorem k27 : ((YtcdlkadknenodaaGreat.Rows.fnExactEqualWorldsRow.lifted == Tryz.checked.prog.liftsFinal)) = true := by kernel_rfl
theorem k28 : ((Tryz.checked.prog.make == some YtcdlkadknenodaaGreat.Rows.fnExactEqualWorldsRow.make)) = true := by kernel_rfl
theorem k29 : ((YtcdlkadknenodaaGreat.Rows.fnExactEqualWorldsRow.kinds == (if YtcdlkadknenodaaGreat.Rows.fnExactEqualWorldsRow.domain.isEmpty then [] else Tryz.f3.params.toList.map fun t => match Tryz.checked.prog.underlying t with | some (.int k) => some k | _ => none))) = true := by kernel_rfl
theorem k30 : ((YtcdlkadknenodaaGreat.Rows.fnExactEqualWorldsRow.pinned == YtcdlkadknenodaaGreat.Rows.fnExactEqualWorldsRow.pinnedBy)) = true := by kernel_rfl
theorem k31 : ((YtcdlkadknenodaaGreat.Rows.fnExactEqualWorldsRow.veiled == (Tryz.f3.params.toList ++ YtcdlkadknenodaaGreat.Rows.fnExactEqualWorldsSpec.plain.varTypes Tryz.checked.prog ++ Tryz.f3.resultTypes.toList).any (Tryz.checked.prog.veiledRec ·))) = true := by kernel_rfl
theorem k32 : (YtcdlkadknenodaaGreat.Rows.fnExactEqualWorldsRow.veiledFits Tryz.checked.prog Tryz.f3.params.toList (Tryz.f3.params.toList ++ YtcdlkadknenodaaGreat.Rows.fnExactEqualWorldsSpec.plain.varTypes Tryz.checked.prog ++ Tryz.f3.resultTypes.toList)) = true := by kernel_rfl
theorem k0 : YtcdlkadknenodaaGreat.Tryz.pinned.checked.prog.funcNamed YtcdlkadknenodaaGreat.Rows.fnExactEqualWorldsRow.func = some 3 := by kernel_rfl
theorem wrapper : Tryz.f3.isWrapper Tryz.checked.prog YtcdlkadknenodaaGreat.Rows.fnExactEqualWorldsRow.wrapper YtcdlkadknenodaaGreat.Rows.fnExactEqualWorldsRow.mainSum := by
  unfold Func.isWrapper
  first | (rw [if_pos (by decide +kernel)]; kernel_rfl) | (rw [if_neg (by decide +kernel)]; exact ⟨rfl, rfl⟩)
theorem facts : joinedFacts YtcdlkadknenodaaGreat.Tryz.pinned.checked.prog 3 Tryz.f3 YtcdlkadknenodaaGreat.Rows.fnExactEqualWorldsSpec YtcdlkadknenodaaGreat.Rows.fnExactEqualWorldsRow = true := facts_of k1 k2 k3 k4 k5 k6 k7 k8 k9 k10 k11 k12 k13 k14 k15 k16 k17 k18 k19 k20 k21 k22 k23 k24 k25 k26 k27 k28 k29 k30 k31 k32
theorem over : YtcdlkadknenodaaGreat.Rows.fnExactEqualWorldsRow.holds YtcdlkadknenodaaGreat.Tryz.pinned (OpenSpec.ofChange YtcdlkadknenodaaGreat.Rows.fnExactEqualWorldsSpec) :=
  OpenClaim.holds_of_wide 3 Tryz.f3 rfl rfl rfl rfl rfl rfl rfl ⟨rfl, rfl, rfl, rfl, rfl⟩ rfl rfl rfl rfl rfl k0 Tryz.func3 facts
    (of_decide_eq_true (by kernel_rfl)) wrapper
    (fun os started H enc _ => lifted os started H enc)
end Go.Proofs.YtcdlkadknenodaaGreat.World
namespace Go.Proofs.YtcdlkadknenodaaGreat
/-- The row, under a short name. -/
theorem fnExactEqualWorlds_holds : Rows.FnExactEqualWorldsSaid := World.over
end Go.Proofs.YtcdlkadknenodaaGreat
