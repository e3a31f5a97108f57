/- 'laws.FnExactFormatList' returns true for every input. No condition. -/
import Derived.Test.YtmabdlkmiddoiaaDoorWp
import Derived.Test.YtmabdlkmiddoiaaDoorShelf
import Derived.Test.YtmabdlkmiddoiaaDoorRows
import Derived.Test.YtmabdlkmiddoiaaDoorTie
import Derived.Test.YtmabdlkmiddoiaaDoorCards
import Derived.Test.YtmabdlkmiddoiaaDoorChecked
import Derived.KernelRfl
import Derived.ProofKit
import Derived.LaidMore
import Derived.OpenShut
import Derived.Stop.Joined
import Derived.SevenTiedAt
import Derived.Lib.LaidTab
import Derived.Lib.ItoaLen
namespace Go.Proofs.YtmabdlkmiddoiaaDoor.World
open Go Go.V Go.Proofs
set_option linter.unusedVariables false
set_option linter.unusedSimpArgs false
set_option maxRecDepth 100000
theorem pred {k d : Nat} (h : d + 1 ≤ k) : ∃ q, k = q + 1 := ⟨k - 1, by omega⟩
def ok64 (n : Int) : Prop := -9223372036854775808 ≤ n ∧ n ≤ 9223372036854775807
theorem ok_wf {P : Program} {n : Int} (h : wfT P (.i .i64) n) : ok64 n := by
  have h1 : Go.V.inR .i64 n := by simpa only [wfT] using h
  unfold Go.V.inR at h1
  unfold ok64
  simp [IntKind.min, IntKind.max, IntKind.bits, IntKind.signed] at h1
  omega
/-! ### decimal -/
theorem ba_ext {a b : ByteArray} (h : a.data = b.data) : a = b := by cases a; cases b; simp at h; rw [h]
theorem ba_assoc (a b c : ByteArray) : a ++ b ++ c = a ++ (b ++ c) := by
  apply ba_ext
  simp [Array.append_assoc]
theorem itoaB_size {n : Int} (h : ok64 n) : (itoaB n).size ≤ 21 := by
  have := Lib.itoa_length_le n h.1 h.2
  unfold itoaB ByteArray.size
  simpa using this
theorem fgItoa {k : Nat} {n : Int} (h : ok64 n) (hk : 1 ≤ k) : FgItoa k n = some (itoaB n) := by
  obtain ⟨k, rfl⟩ := pred (d := 0) hk
  rw [egItoa, if_pos h.1, if_pos h.2]
theorem fiFormatInt {k : Nat} {n : Int} (h : ok64 n) (hk : 2 ≤ k) : FiFormatInt k n = some (itoaB n) := by
  obtain ⟨k, rfl⟩ := pred (d := 1) hk
  rw [eiFormatInt, fgItoa h (by omega), Option.bind_some]
/-- The digits of u, as bytes. -/
def dgB (u : Nat) : ByteArray := ⟨(Lib.decDigits u).toArray⟩
def one (u : Nat) : ByteArray := ⟨#[UInt8.ofNat (48 + u % 10)]⟩
theorem dgB_small {u : Nat} (h : u < 10) : dgB u = one u := by
  unfold dgB one
  rw [Lib.decDigits, dif_pos h, Nat.mod_eq_of_lt h]
theorem dgB_big {u : Nat} (h : ¬ u < 10) : dgB u = dgB (u / 10) ++ one u := by
  apply ba_ext
  unfold dgB one
  rw [Lib.decDigits, dif_neg h]
  simp
theorem digit_pos (u : Nat) (h : (u : Int) ≤ 9223372036854775808) : (decide (((u : Int)).tmod 10 < 0)) = false ∧ bytesOf [(IntKind.u8.wrap (IntKind.i64.wrap (48 + (((u : Int)).tmod 10))))] = one u ∧ IntKind.i64.wrap (((u : Int)).tdiv 10) = ((u / 10 : Nat) : Int) := by
  have e1 : ((u : Int)).tmod 10 = ((u % 10 : Nat) : Int) := rfl
  have e2 : ((u : Int)).tdiv 10 = ((u / 10 : Nat) : Int) := rfl
  have hm : u % 10 < 10 := Nat.mod_lt _ (by decide)
  refine ⟨by rw [e1, decide_eq_false]; omega, ?_, by rw [e2, wrap_id (by omega) (by omega)]⟩
  rw [e1, wrap_id (by omega) (by omega), IntKind.wrap_u8]
  have e3 : ((48 + ((u % 10 : Nat) : Int)) % 256).toNat = 48 + u % 10 := by omega
  unfold bytesOf one
  simp only [List.map_cons, List.map_nil, e3]
theorem digit_neg (u : Nat) (h : (u : Int) ≤ 9223372036854775808) (h0 : ¬ u % 10 = 0) : (decide ((-(u : Int)).tmod 10 < 0)) = true := by
  have e1 : (-(u : Int)).tmod 10 = -((u % 10 : Nat) : Int) := by rw [Int.neg_tmod]; rfl
  rw [e1, decide_eq_true]
  omega
theorem digit_neg2 (u : Nat) (h : (u : Int) ≤ 9223372036854775808) : bytesOf [(IntKind.u8.wrap (IntKind.i64.wrap (48 + (IntKind.i64.wrap (0 - ((-(u : Int)).tmod 10))))))] = one u ∧ IntKind.i64.wrap ((-(u : Int)).tdiv 10) = -((u / 10 : Nat) : Int) := by
  have e1 : (-(u : Int)).tmod 10 = -((u % 10 : Nat) : Int) := by rw [Int.neg_tmod]; rfl
  have e2 : (-(u : Int)).tdiv 10 = -((u / 10 : Nat) : Int) := by rw [Int.neg_tdiv]; rfl
  have hm : u % 10 < 10 := Nat.mod_lt _ (by decide)
  refine ⟨?_, by rw [e2, wrap_id (by omega) (by omega)]⟩
  rw [e1, wrap_id (n := 0 - -((u % 10 : Nat) : Int)) (by omega) (by omega), wrap_id (by omega) (by omega), IntKind.wrap_u8]
  have e3 : ((48 + (0 - -((u % 10 : Nat) : Int))) % 256).toNat = 48 + u % 10 := by omega
  unfold bytesOf one
  simp only [List.map_cons, List.map_nil, e3]
theorem digit_neg0 (u : Nat) (h : (u : Int) ≤ 9223372036854775808) (h0 : u % 10 = 0) : (decide ((-(u : Int)).tmod 10 < 0)) = false ∧ bytesOf [(IntKind.u8.wrap (IntKind.i64.wrap (48 + ((-(u : Int)).tmod 10))))] = one u := by
  have e1 : (-(u : Int)).tmod 10 = -((u % 10 : Nat) : Int) := by rw [Int.neg_tmod]; rfl
  rw [e1, h0]
  refine ⟨by decide, ?_⟩
  unfold bytesOf one
  rw [h0]
  rfl
theorem one_size (u : Nat) : (one u).size = 1 := rfl
/-- spec.FormatInt's loop. -/
theorem loopFI {k : Nat} (X : VsFormatInt_0 → Option ByteArray) (c : Int) : ∀ (m n u : Nat) (x : Int) (s : ByteArray), x = (u : Int) ∨ x = -(u : Int) → u < 10 ^ m → m < n → (u : Int) ≤ 9223372036854775808 → s.size + m ≤ 1000 →
    LsFormatInt_0 k X c n (s, x) = X ((if u = 0 then s else dgB u ++ s), 0)
  | 0, n + 1, u, x, s, hx, hu, _, _, _ => by
    have h0 : u = 0 := by simpa using hu
    subst h0
    obtain rfl : x = 0 := by rcases hx with h | h <;> simpa using h
    show BsFormatInt_0 k X c _ (s, 0) = _
    unfold BsFormatInt_0
    rw [if_neg (by simp), if_pos rfl]
  | m + 1, n + 1, u, x, s, hx, hu, hn, hb, hs => by
    show BsFormatInt_0 k X c (LsFormatInt_0 k X c n) (s, x) = _
    unfold BsFormatInt_0
    dsimp only
    by_cases h0 : u = 0
    · subst h0
      obtain rfl : x = 0 := by rcases hx with h | h <;> simpa using h
      rw [if_neg (by simp), if_pos rfl]
    · have hx0 : (x != 0) = true := by
        have : x ≠ 0 := by rcases hx with h | h <;> omega
        simpa using this
      have hu' : u / 10 < 10 ^ m := by
        rw [Nat.pow_succ] at hu
        omega
      have step : ∀ y, (y = ((u / 10 : Nat) : Int) ∨ y = -((u / 10 : Nat) : Int)) → LsFormatInt_0 k X c n (one u ++ s, y) = X (dgB u ++ s, 0) := by
        intro y hy
        rw [loopFI X c m n (u / 10) y (one u ++ s) hy hu' (by omega) (by omega) (by rw [ByteArray.size_append, one_size]; omega)]
        by_cases h9 : u < 10
        · rw [if_pos (by omega), dgB_small h9]
        · rw [if_neg (by omega), dgB_big h9, ba_assoc]
      rw [if_pos hx0, if_neg h0]
      rcases hx with rfl | rfl
      · obtain ⟨d1, d2, d3⟩ := digit_pos u hb
        rw [d1, if_neg (by decide), d2, d3, if_pos (by rw [one_size]; omega)]
        exact step _ (.inl rfl)
      · obtain ⟨d2, d3⟩ := digit_neg2 u hb
        by_cases hz : u % 10 = 0
        · obtain ⟨d4, d5⟩ := digit_neg0 u hb hz
          rw [d4, if_neg (by decide), d5, d3, if_pos (by rw [one_size]; omega)]
          exact step _ (.inr rfl)
        · rw [digit_neg u hb hz, if_pos rfl, d2, d3, if_pos (by rw [one_size]; omega)]
          exact step _ (.inr rfl)
theorem ba_empty (a : ByteArray) : a ++ (⟨#[]⟩ : ByteArray) = a := by
  apply ba_ext
  simp
theorem fsFormatInt {k : Nat} {n : Int} (h : ok64 n) (hk : 50 ≤ k) : FsFormatInt k n = some (itoaB n) := by
  obtain ⟨k, rfl⟩ := pred (d := 49) hk
  obtain ⟨h1, h2⟩ := h
  rw [esFormatInt]
  by_cases h0 : n = 0
  · subst h0
    rw [if_pos (by decide)]
    have : itoaB 0 = (⟨#[48]⟩ : ByteArray) := by
      unfold itoaB Lib.itoa
      rw [if_neg (by decide), show (0 : Int).toNat = 0 from rfl, Lib.decDigits, dif_pos (by decide)]
      rfl
    rw [this]
  · rw [if_neg (by simpa using h0)]
    have hu : n.natAbs < 10 ^ 19 := by
      have : (10 : Nat) ^ 19 = 10000000000000000000 := by decide
      omega
    have e : (if n.natAbs = 0 then (⟨#[]⟩ : ByteArray) else dgB n.natAbs ++ (⟨#[]⟩ : ByteArray)) = dgB n.natAbs := by rw [if_neg (by omega), ba_empty]
    rw [loopFI _ n 19 k n.natAbs n _ (by omega) hu (by omega) (by omega) (by decide), e]
    dsimp only
    have hl : (dgB n.natAbs).size ≤ 20 := by
      have := Lib.nDigits_le20 n.natAbs (by omega)
      unfold dgB ByteArray.size
      simpa [Lib.decDigits_length] using this
    by_cases hn : n < 0
    · rw [if_pos (by simpa using hn), if_pos (by show 1 + _ ≤ _; omega)]
      congr 1
      apply ba_ext
      unfold itoaB Lib.itoa dgB
      rw [if_pos hn]
      simp
    · rw [if_neg (by simpa using hn)]
      congr 1
      unfold itoaB Lib.itoa dgB
      rw [if_neg hn, show n.natAbs = n.toNat by omega]
/-- A number, or a point. -/
def dotB (n : Int) : ByteArray := if (n == -1) = true then ⟨#[46]⟩ else itoaB n
theorem dotB_size {n : Int} (h : ok64 n) : (dotB n).size ≤ 21 := by
  unfold dotB
  split
  · decide
  · exact itoaB_size h
theorem fsl39Dot {k : Nat} {n : Int} (h : ok64 n) (hk : 51 ≤ k) : Fsl39Dot k n = some (dotB n) := by
  obtain ⟨k, rfl⟩ := pred (d := 50) hk
  rw [esl39Dot, fsFormatInt h (by omega), Option.bind_some]
  unfold dotB
  split <;> rfl
theorem fiorPoint {k : Nat} {n : Int} (h : ok64 n) (hk : 3 ≤ k) : FiorPoint k n = some (dotB n) := by
  obtain ⟨k, rfl⟩ := pred (d := 2) hk
  rw [eiorPoint, fiFormatInt h (by omega), Option.bind_some]
  unfold dotB
  split <;> rfl
/-! ### FormatTable -/
def distAt (t : Int × List Int × List Int) (i : Nat) : Int := match t.2.1[i]? with
  | some d => d
  | none => -1
def cellB (t : Int × List Int × List Int) (i : Nat) (n : Int) : ByteArray := (((⟨#[32]⟩ : ByteArray) ++ dotB n) ++ (⟨#[47]⟩ : ByteArray)) ++ dotB (distAt t i)
def tableFrom (t : Int × List Int × List Int) : ByteArray → Nat → List Int → ByteArray
  | s, _, [] => s
  | s, i, n :: r => tableFrom t (s ++ cellB t i n) (i + 1) r
def tableB (t : Int × List Int × List Int) : ByteArray := tableFrom t (((⟨#[116, 111, 32]⟩ : ByteArray) ++ itoaB t.1) ++ (⟨#[58]⟩ : ByteArray)) 0 t.2.2
theorem distAt_ok {t : Int × List Int × List Int} (h : ∀ d ∈ t.2.1, ok64 d) (i : Nat) : ok64 (distAt t i) := by
  unfold distAt
  split
  · rename_i d hd
    exact h d (List.mem_of_getElem? hd)
  · exact ⟨by decide, by decide⟩
theorem sz1 (a : UInt8) : (⟨#[a]⟩ : ByteArray).size = 1 := rfl
theorem cellB_size {t : Int × List Int × List Int} (h : ∀ d ∈ t.2.1, ok64 d) (i : Nat) {n : Int} (hn : ok64 n) : (cellB t i n).size ≤ 44 := by
  unfold cellB
  have h1 := dotB_size hn
  have h2 := dotB_size (distAt_ok h i)
  simp only [ByteArray.size_append, sz1]
  omega
theorem fsFormatTable {k : Nat} (t : Int × List Int × List Int) (h0 : ok64 t.1) (h1 : ∀ d ∈ t.2.1, ok64 d) (h2 : ∀ d ∈ t.2.2, ok64 d) (hl : t.2.2.length ≤ 1048576) (hd : t.2.1.length ≤ 1048576) (hk : t.2.2.length + 60 ≤ k) : FsFormatTable k t = some (tableB t) := by
  obtain ⟨k, rfl⟩ := pred (d := 0) (show 1 ≤ k by omega)
  have g0 := itoaB_size h0
  rw [esFormatTable, fsFormatInt h0 (by omega), Option.bind_some, if_pos (by show 3 + _ ≤ _; omega), if_pos (by rw [ByteArray.size_append, sz1]; show 3 + _ + 1 ≤ _; omega)]
  refine (up_inv0 (len := t.2.2.length) (fun (s : ByteArray) i => (s, i)) (fun s i => some (tableFrom t s i (t.2.2.drop i))) (fun s i => s.size ≤ 100 + 50 * i) (by omega) (fun m i s hI hi hn0 hn hw ih => ?_) (by omega) _ ?_).trans rfl
  · show BsFormatTable_0 k _ _ _ _ = _
    unfold BsFormatTable_0
    dsimp only
    by_cases hlt : i < t.2.2.length
    · have hx : t.2.2[i]? = some t.2.2[i] := List.getElem?_eq_getElem hlt
      have hok : ok64 t.2.2[i] := h2 _ (List.getElem_mem hlt)
      have z1 := dotB_size hok
      rw [if_pos (by simpa using hlt), List.drop_eq_getElem_cons hlt, tableFrom]
      by_cases hdl : i < t.2.1.length
      · have hy : t.2.1[i]? = some t.2.1[i] := List.getElem?_eq_getElem hdl
        have hok2 : ok64 t.2.1[i] := h1 _ (List.getElem_mem hdl)
        have z2 := dotB_size hok2
        have e : distAt t i = t.2.1[i] := by unfold distAt; rw [hy]
        rw [if_pos (by simpa using hdl), if_pos hn0, hn, ix_some hy, if_pos (by rw [sz1]; omega), if_pos hn0, ix_some hx, fsl39Dot hok (by omega), Option.bind_some, if_pos (by simp only [ByteArray.size_append, sz1]; omega), if_pos (by simp only [ByteArray.size_append, sz1]; omega), fsl39Dot hok2 (by omega), Option.bind_some, if_pos (by simp only [ByteArray.size_append, sz1]; omega), hw, ih hlt _ (by simp only [ByteArray.size_append, sz1]; omega)]
        unfold cellB
        rw [e]
        simp only [ba_assoc]
      · have e : distAt t i = -1 := by unfold distAt; rw [List.getElem?_eq_none (by omega)]
        have hok2 : ok64 (-1) := ⟨by decide, by decide⟩
        have z2 := dotB_size hok2
        rw [if_neg (by simpa using hdl), if_pos (by rw [sz1]; omega), if_pos hn0, hn, ix_some hx, fsl39Dot hok (by omega), Option.bind_some, if_pos (by simp only [ByteArray.size_append, sz1]; omega), if_pos (by simp only [ByteArray.size_append, sz1]; omega), fsl39Dot hok2 (by omega), Option.bind_some, if_pos (by simp only [ByteArray.size_append, sz1]; omega), hw, ih hlt _ (by simp only [ByteArray.size_append, sz1]; omega)]
        unfold cellB
        rw [e]
        simp only [ba_assoc]
    · have : i = t.2.2.length := by omega
      subst this
      rw [if_neg (by simp), List.drop_length, tableFrom]
  · simp only [ByteArray.size_append, sz1]
    show 3 + _ + 1 ≤ _
    omega
theorem fiFormatTable {k : Nat} (t : Int × List Int × List Int) (h0 : ok64 t.1) (h1 : ∀ d ∈ t.2.1, ok64 d) (h2 : ∀ d ∈ t.2.2, ok64 d) (hl : t.2.2.length ≤ 1048576) (hd : t.2.1.length ≤ 1048576) (hk : t.2.2.length + 60 ≤ k) : FiFormatTable k t = some (tableB t) := by
  obtain ⟨k, rfl⟩ := pred (d := 0) (show 1 ≤ k by omega)
  have g0 := itoaB_size h0
  rw [eiFormatTable, fiFormatInt h0 (by omega), Option.bind_some, if_pos (by show 3 + _ ≤ _; omega), if_pos (by rw [ByteArray.size_append, sz1]; show 3 + _ + 1 ≤ _; omega)]
  refine (up_inv0 (len := t.2.2.length) (fun (s : ByteArray) i => (s, i)) (fun s i => some (tableFrom t s i (t.2.2.drop i))) (fun s i => s.size ≤ 100 + 50 * i) (by omega) (fun m i s hI hi hn0 hn hw ih => ?_) (by omega) _ ?_).trans rfl
  · show BiFormatTable_0 k _ _ _ _ = _
    unfold BiFormatTable_0
    dsimp only
    by_cases hlt : i < t.2.2.length
    · have hx : t.2.2[i]? = some t.2.2[i] := List.getElem?_eq_getElem hlt
      have hok : ok64 t.2.2[i] := h2 _ (List.getElem_mem hlt)
      have z1 := dotB_size hok
      rw [if_pos (by simpa using hlt), if_pos hn0, hn, ix_some hx, List.drop_eq_getElem_cons hlt, tableFrom]
      by_cases hdl : i < t.2.1.length
      · have hy : t.2.1[i]? = some t.2.1[i] := List.getElem?_eq_getElem hdl
        have hok2 : ok64 t.2.1[i] := h1 _ (List.getElem_mem hdl)
        have z2 := dotB_size hok2
        have e : distAt t i = t.2.1[i] := by unfold distAt; rw [hy]
        rw [if_pos (by simpa using hdl), if_pos hn0, ix_some hy, fiorPoint hok (by omega), Option.bind_some, if_pos (by rw [sz1]; omega), if_pos (by simp only [ByteArray.size_append, sz1]; omega), fiorPoint hok2 (by omega), Option.bind_some, if_pos (by simp only [ByteArray.size_append, sz1]; omega), if_pos (by simp only [ByteArray.size_append, sz1]; omega), hw, ih hlt _ (by simp only [ByteArray.size_append, sz1]; omega)]
        unfold cellB
        rw [e]
      · have e : distAt t i = -1 := by unfold distAt; rw [List.getElem?_eq_none (by omega)]
        have hok2 : ok64 (-1) := ⟨by decide, by decide⟩
        have z2 := dotB_size hok2
        rw [if_neg (by simpa using hdl), fiorPoint hok (by omega), Option.bind_some, if_pos (by rw [sz1]; omega), if_pos (by simp only [ByteArray.size_append, sz1]; omega), fiorPoint hok2 (by omega), Option.bind_some, if_pos (by simp only [ByteArray.size_append, sz1]; omega), if_pos (by simp only [ByteArray.size_append, sz1]; omega), hw, ih hlt _ (by simp only [ByteArray.size_append, sz1]; omega)]
        unfold cellB
        rw [e]
    · have : i = t.2.2.length := by omega
      subst this
      rw [if_neg (by simp), List.drop_length, tableFrom]
  · simp only [ByteArray.size_append, sz1]
    show 3 + _ + 1 ≤ _
    omega
end Go.Proofs.YtmabdlkmiddoiaaDoor.World
namespace Go.Proofs.YtmabdlkmiddoiaaDoor.World
open Go Go.V Go.Proofs
set_option linter.unusedVariables false
set_option linter.unusedSimpArgs false
set_option maxRecDepth 100000
theorem ok_row {P : Program} {e : Nat} {xs : List Int} (h : wfT P (.l e (.i .i64)) xs) : ∀ d ∈ xs, ok64 d := by
  intro d hd
  have h1 : inL (wfT P (.i .i64)) (P.bytesOf e) xs := by simpa only [wfT] using h
  exact ok_wf (P := P) (h1.2 d hd)
theorem lFnExactFormatTable {P : Program} (t : Int × List Int × List Int) (hr : rowsLe 140737488351232 sTable t) (hw : wfT P sTable t) : ∃ k, FlFnExactFormatTable k t = some true := by
  refine ⟨szT sTable t + 1000, ?_⟩
  rw [elFnExactFormatTable, zlszTable _ t 1048576 hr (by omega) (by omega) (by omega), Option.bind_some]
  by_cases hz : szT sTable t ≤ 1048576
  · rw [szR_pos (by omega), if_neg (by simp; omega)]
    have hrow := rows_le sTable t _ (Nat.le_refl _)
    have h1 : t.2.1.length ≤ szT sTable t := (rowsLe_row hrow.2.1).1
    have h2 : t.2.2.length ≤ szT sTable t := (rowsLe_row hrow.2.2).1
    have w0 : ok64 t.1 := ok_wf hw.1
    have w1 := ok_row hw.2.1
    have w2 := ok_row hw.2.2
    have tw := tltoTable (szT sTable t + 999) t hz (by omega)
    have hs := fsFormatTable (k := szT sTable t + 999) t w0 w1 w2 (by omega) (by omega) (by omega)
    have hi := fiFormatTable (k := szT sTable t + 999) t w0 w1 w2 (by omega) (by omega) (by omega)
    have qw := qleqTable (szT sTable t + 999) t (by omega) (by omega)
    simp only [tw, hs, hi, qw, Option.bind_some, beq_self_eq_true, Bool.not_true, Bool.false_eq_true, if_false]
  · rw [szR_neg (by omega), if_pos (by decide)]
/-! ### FormatPiece -/
def linkB (x : Int × Int) : ByteArray := (((⟨#[32]⟩ : ByteArray) ++ itoaB x.1) ++ (⟨#[43]⟩ : ByteArray)) ++ itoaB x.2
def linksB (s : ByteArray) (l : List (Int × Int)) : ByteArray := l.foldl (fun s x => s ++ linkB x) s
def pieceB (x : TPiece) : ByteArray := linksB (((itoaB x.1.1 ++ (⟨#[45]⟩ : ByteArray)) ++ itoaB x.1.2) ++ (⟨#[58]⟩ : ByteArray)) x.2.1
theorem fsFormatPiece {k : Nat} (t : TPiece) (h0 : ok64 t.1.1) (h1 : ok64 t.1.2) (h2 : ∀ x ∈ t.2.1, ok64 x.1 ∧ ok64 x.2) (hl : t.2.1.length ≤ 1048576) (hk : t.2.1.length + 60 ≤ k) : FsFormatPiece k t = some (pieceB t) := by
  obtain ⟨k, rfl⟩ := pred (d := 0) (show 1 ≤ k by omega)
  have g0 := itoaB_size h0
  have g1 := itoaB_size h1
  rw [esFormatPiece, fsFormatInt h0 (by omega), Option.bind_some, if_pos (by rw [sz1]; omega), fsFormatInt h1 (by omega), Option.bind_some, if_pos (by simp only [ByteArray.size_append, sz1]; omega), if_pos (by simp only [ByteArray.size_append, sz1]; omega)]
  refine (up_inv0 (len := t.2.1.length) (fun (s : ByteArray) i => (s, i)) (fun s i => some (linksB s (t.2.1.drop i))) (fun s i => s.size ≤ 100 + 50 * i) (by omega) (fun m i s hI hi hn0 hn hw ih => ?_) (by omega) _ ?_).trans rfl
  · show BsFormatPiece_0 k _ _ _ _ = _
    unfold BsFormatPiece_0
    dsimp only
    by_cases hlt : i < t.2.1.length
    · have hx : t.2.1[i]? = some t.2.1[i] := List.getElem?_eq_getElem hlt
      obtain ⟨o1, o2⟩ := h2 _ (List.getElem_mem hlt)
      have z1 := itoaB_size o1
      have z2 := itoaB_size o2
      rw [if_pos (by simpa using hlt), if_pos (by rw [sz1]; omega), if_pos hn0, hn, ix_some hx, List.drop_eq_getElem_cons hlt, fsFormatInt o1 (by omega), Option.bind_some, if_pos (by simp only [ByteArray.size_append, sz1]; omega), if_pos (by simp only [ByteArray.size_append, sz1]; omega), if_pos hn0, ix_some hx, fsFormatInt o2 (by omega), Option.bind_some, if_pos (by simp only [ByteArray.size_append, sz1]; omega), hw, ih hlt _ (by simp only [ByteArray.size_append, sz1]; omega)]
      unfold linksB
      rw [List.foldl_cons]
      unfold linkB
      simp only [ba_assoc]
    · have : i = t.2.1.length := by omega
      subst this
      rw [if_neg (by simp), List.drop_length]
      rfl
  · simp only [ByteArray.size_append, sz1]
    omega
theorem fiFormatPiece {k : Nat} (t : TPiece) (h0 : ok64 t.1.1) (h1 : ok64 t.1.2) (h2 : ∀ x ∈ t.2.1, ok64 x.1 ∧ ok64 x.2) (hl : t.2.1.length ≤ 1048576) (hk : t.2.1.length + 60 ≤ k) : FiFormatPiece k t = some (pieceB t) := by
  obtain ⟨k, rfl⟩ := pred (d := 0) (show 1 ≤ k by omega)
  have g0 := itoaB_size h0
  have g1 := itoaB_size h1
  rw [eiFormatPiece, fiFormatInt h0 (by omega), Option.bind_some, if_pos (by rw [sz1]; omega), fiFormatInt h1 (by omega), Option.bind_some, if_pos (by simp only [ByteArray.size_append, sz1]; omega), if_pos (by simp only [ByteArray.size_append, sz1]; omega)]
  refine (up_inv0 (len := t.2.1.length) (fun (s : ByteArray) i => (s, i)) (fun s i => some (linksB s (t.2.1.drop i))) (fun s i => s.size ≤ 100 + 50 * i) (by omega) (fun m i s hI hi hn0 hn hw ih => ?_) (by omega) _ ?_).trans rfl
  · show BiFormatPiece_0 k _ _ _ _ = _
    unfold BiFormatPiece_0
    dsimp only
    by_cases hlt : i < t.2.1.length
    · have hx : t.2.1[i]? = some t.2.1[i] := List.getElem?_eq_getElem hlt
      obtain ⟨o1, o2⟩ := h2 _ (List.getElem_mem hlt)
      have z1 := itoaB_size o1
      have z2 := itoaB_size o2
      rw [if_pos (by simpa using hlt), if_pos hn0, hn, ix_some hx, List.drop_eq_getElem_cons hlt, fiFormatInt o1 (by omega), Option.bind_some, if_pos (by rw [sz1]; omega), if_pos (by simp only [ByteArray.size_append, sz1]; omega), fiFormatInt o2 (by omega), Option.bind_some, if_pos (by simp only [ByteArray.size_append, sz1]; omega), if_pos (by simp only [ByteArray.size_append, sz1]; omega), hw, ih hlt _ (by simp only [ByteArray.size_append, sz1]; omega)]
      rfl
    · have : i = t.2.1.length := by omega
      subst this
      rw [if_neg (by simp), List.drop_length]
      rfl
  · simp only [ByteArray.size_append, sz1]
    omega
theorem ok_links {P : Program} {e : Nat} {xs : List (Int × Int)} (h : wfT P (.l e sI2) xs) : ∀ d ∈ xs, ok64 d.1 ∧ ok64 d.2 := by
  intro d hd
  have h1 : inL (wfT P sI2) (P.bytesOf e) xs := by simpa only [wfT] using h
  have h2 := h1.2 d hd
  exact ⟨ok_wf (P := P) h2.1, ok_wf (P := P) h2.2⟩
theorem lFnExactFormatPiece {P : Program} (t : TPiece) (hr : rowsLe 140737488351232 sLPiece t) (hw : wfT P sLPiece t) : ∃ k, FlFnExactFormatPiece k t = some true := by
  refine ⟨szT sLPiece t + 1000, ?_⟩
  rw [elFnExactFormatPiece, zlszPiece _ t 1048576 hr (by omega) (by omega) (by omega), Option.bind_some]
  by_cases hz : szT sLPiece t ≤ 1048576
  · rw [szR_pos (by omega), if_neg (by simp; omega)]
    have hrow := rows_le sLPiece t _ (Nat.le_refl _)
    have h2 : t.2.1.length ≤ szT sLPiece t := (rowsLe_row hrow.2.1).1
    have w0 : ok64 t.1.1 := ok_wf hw.1.1
    have w1 : ok64 t.1.2 := ok_wf hw.1.2
    have w2 := ok_links hw.2.1
    have e60 : szT sPiece t = szT sLPiece t := rfl
    have tw := tltoPiece (szT sLPiece t + 999) t hz (by omega)
    have hs := fsFormatPiece (k := szT sLPiece t + 999) t w0 w1 w2 (by omega) (by omega)
    have hi := fiFormatPiece (k := szT sLPiece t + 999) t w0 w1 w2 (by omega) (by omega)
    have qw := qleqPiece (szT sLPiece t + 999) t (by rw [e60]; omega) (by rw [e60]; omega)
    simp only [tw, hs, hi, qw, Option.bind_some, beq_self_eq_true, Bool.not_true, Bool.false_eq_true, if_false]
  · rw [szR_neg (by omega), if_pos (by decide)]
end Go.Proofs.YtmabdlkmiddoiaaDoor.World
namespace Go.Proofs.YtmabdlkmiddoiaaDoor.World
open Go Go.V Go.Proofs
set_option linter.unusedVariables false
set_option linter.unusedSimpArgs false
set_option maxRecDepth 100000
/-! ### joined texts -/
def jstep (sep s : ByteArray) (i : Nat) (y : ByteArray) : ByteArray := if i = 0 then s ++ y else (s ++ sep) ++ y
def jfrom (sep : ByteArray) : ByteArray → Nat → List ByteArray → ByteArray
  | s, _, [] => s
  | s, i, y :: r => jfrom sep (jstep sep s i y) (i + 1) r
theorem jfrom_tail (sep : ByteArray) : ∀ (r : List ByteArray) (s : ByteArray) (i : Nat), 0 < i → (jfrom sep s i r).data.toList = s.data.toList ++ Lib.joinTail sep.data.toList (r.map (·.data.toList))
  | [], s, i, _ => by simp [jfrom, Lib.joinTail]
  | y :: r, s, i, h => by
    rw [jfrom, jfrom_tail sep r _ (i + 1) (by omega)]
    unfold jstep
    rw [if_neg (by omega)]
    simp [Lib.joinTail]
theorem joinB_eq (sep : ByteArray) (xs : List ByteArray) : joinB xs sep = jfrom sep ⟨#[]⟩ 0 xs := by
  cases xs with
  | nil => rfl
  | cons x r =>
    apply ba_ext
    apply Array.toList_inj.1
    rw [jfrom, jfrom_tail sep r _ 1 (by omega)]
    unfold joinB jstep
    rw [List.map_cons, Lib.join_cons, if_pos rfl]
    simp
theorem jstep_size (sep s : ByteArray) (i : Nat) (y : ByteArray) : (jstep sep s i y).size ≤ s.size + (sep.size + y.size) := by
  unfold jstep
  split
  · rw [ByteArray.size_append]; omega
  · rw [ByteArray.size_append, ByteArray.size_append]; omega
theorem jfrom_size (sep : ByteArray) (B : Nat) : ∀ (r : List ByteArray) (s : ByteArray) (i : Nat), (∀ y ∈ r, y.size ≤ B) → (jfrom sep s i r).size ≤ s.size + (sep.size + B) * r.length
  | [], s, i, _ => by rw [jfrom]; omega
  | y :: r, s, i, h => by
    have h1 := jfrom_size sep B r (jstep sep s i y) (i + 1) fun z hz => h z (List.mem_cons_of_mem _ hz)
    have h2 := jstep_size sep s i y
    have h3 := h y (List.mem_cons_self ..)
    rw [jfrom, List.length_cons, Nat.mul_succ]
    omega
theorem joinB_size {xs : List ByteArray} {sep : ByteArray} (hl : xs.length ≤ 1048576) (hs : sep.size ≤ 10) (hy : ∀ y ∈ xs, y.size ≤ 44) : (joinB xs sep).size ≤ 56623104 := by
  rw [joinB_eq]
  have h1 := jfrom_size sep 44 xs ⟨#[]⟩ 0 hy
  have h2 : (⟨#[]⟩ : ByteArray).size = 0 := rfl
  have h3 : (sep.size + 44) * xs.length ≤ 54 * 1048576 := Nat.mul_le_mul (by omega) hl
  omega
theorem fgJoin {k : Nat} {xs : List ByteArray} {sep : ByteArray} (hl : xs.length ≤ 1048576) (hs : sep.size ≤ 10) (hy : ∀ y ∈ xs, y.size ≤ 44) (hk : 1 ≤ k) : FgJoin k xs sep = some (joinB xs sep) := by
  obtain ⟨k, rfl⟩ := pred (d := 0) hk
  have := joinB_size hl hs hy
  rw [egJoin, if_pos (by omega), if_pos (by omega)]
theorem drop_map {α β : Type} (f : α → β) {l : List α} {i : Nat} (h : i < l.length) : (l.map f).drop i = f l[i] :: (l.map f).drop (i + 1) := by
  rw [List.drop_eq_getElem_cons (by simpa using h)]
  simp
theorem fsl39Join {k : Nat} (l : List Int) (sep : ByteArray) (hs : sep.size ≤ 10) (h : ∀ x ∈ l, ok64 x) (hl : l.length ≤ 1048576) (hk : l.length + 60 ≤ k) : Fsl39Join k l sep = some (joinB (l.map itoaB) sep) := by
  obtain ⟨k, rfl⟩ := pred (d := 0) (show 1 ≤ k by omega)
  rw [joinB_eq]
  refine (esl39Join k l sep).trans (up_inv0 (len := l.length) (fun (s : ByteArray) i => (s, i)) (fun s i => some (jfrom sep s i ((l.map itoaB).drop i))) (fun s i => s.size ≤ 40 * i) (by omega) (fun m i s hI hi hn0 hn hw ih => ?_) (by omega) _ (by decide))
  show Bsl39Join_0 k _ _ _ _ = _
  unfold Bsl39Join_0
  dsimp only
  by_cases hlt : i < l.length
  · have hx : l[i]? = some l[i] := List.getElem?_eq_getElem hlt
    have hok : ok64 l[i] := h _ (List.getElem_mem hlt)
    have z1 := itoaB_size hok
    rw [if_pos (by simpa using hlt), drop_map itoaB hlt, jfrom]
    by_cases h0 : i = 0
    · rw [if_neg (by simp; omega), if_pos hn0, hn, ix_some hx, fsFormatInt hok (by omega), Option.bind_some, if_pos (by omega), hw, ih hlt _ (by simp only [ByteArray.size_append]; omega)]
      unfold jstep
      rw [if_pos h0]
    · rw [if_pos (by simp; omega), if_pos (by omega), if_pos hn0, hn, ix_some hx, fsFormatInt hok (by omega), Option.bind_some, if_pos (by simp only [ByteArray.size_append]; omega), hw, ih hlt _ (by simp only [ByteArray.size_append]; omega)]
      unfold jstep
      rw [if_neg h0]
  · have : i = l.length := by omega
    subst this
    rw [if_neg (by simp), List.drop_eq_nil_of_le (by simp), jfrom]
/-! ### FormatList, FormatSpans -/
def joinedB (s : List ByteArray) : ByteArray := if s.length = 0 then ⟨#[45]⟩ else joinB s ⟨#[32]⟩
theorem fijoined {k : Nat} {s : List ByteArray} (hl : s.length ≤ 1048576) (hy : ∀ y ∈ s, y.size ≤ 44) (hk : 2 ≤ k) : Fijoined k s ⟨#[32]⟩ = some (joinedB s) := by
  obtain ⟨k, rfl⟩ := pred (d := 1) hk
  rw [eijoined]
  unfold joinedB
  by_cases h : s.length = 0
  · rw [if_pos (by simpa using h), if_pos h]
  · rw [if_neg (by simpa using h), if_neg h, fgJoin hl (by decide) hy (by omega), Option.bind_some]
theorem fsFormatList {k : Nat} (l : List Int) (h : ∀ x ∈ l, ok64 x) (hl : l.length ≤ 1048576) (hk : l.length + 70 ≤ k) : FsFormatList k l = some (joinedB (l.map itoaB)) := by
  obtain ⟨k, rfl⟩ := pred (d := 0) (show 1 ≤ k by omega)
  rw [esFormatList]
  unfold joinedB
  by_cases h0 : l.length = 0
  · rw [if_pos (by simpa using h0), if_pos (by simpa using h0)]
  · rw [if_neg (by simpa using h0), if_neg (by simpa using h0), fsl39Join l _ (by decide) h hl (by omega), Option.bind_some]
theorem fiFormatList {k : Nat} (l : List Int) (h : ∀ x ∈ l, ok64 x) (hl : l.length ≤ 1048576) (hk : l.length + 70 ≤ k) : FiFormatList k l = some (joinedB (l.map itoaB)) := by
  obtain ⟨k, rfl⟩ := pred (d := 0) (show 1 ≤ k by omega)
  refine (eiFormatList k l).trans (row_inv0 (a := l) (fun (s : List ByteArray) i => (i, s)) (fun s _ m => some (joinedB (s ++ m.map itoaB))) (fun s i => s.length = i ∧ ∀ x ∈ s, x.size ≤ 44) (fun _ _ _ => rfl) (by omega) (fun s hI => ?_) (fun m i s x r hI h0 hn hw hi hx ih => ?_) (by omega) [] (by simp))
  · dsimp only
    rw [fijoined (by omega) hI.2 (by omega), Option.bind_some]
    simp
  · dsimp only
    have hox := h x (List.mem_of_getElem? hx)
    have z := itoaB_size hox
    rw [fiFormatInt hox (by omega), Option.bind_some, if_pos (by have := hI.1; simp; omega), hw, ih (s ++ [itoaB x]) ⟨by simp [hI.1], by
      intro y hy
      rcases List.mem_append.1 hy with h | h
      · exact hI.2 y h
      · rw [List.mem_singleton.1 h]; omega⟩]
    simp
theorem lFnExactFormatList {P : Program} (l : List Int) (hr : rowsLe 140737488351232 (.l 3 (.i .i64)) l) (hw : wfT P (.l 3 (.i .i64)) l) : ∃ k, FlFnExactFormatList k l = some true := by
  refine ⟨List.length (α := Int) l + 1000, ?_⟩
  have hlen : List.length (α := Int) l ≤ 140737488351232 := (rowsLe_row hr).1
  rw [elFnExactFormatList]
  by_cases hz : List.length (α := Int) l ≤ 1048576
  · rw [if_neg (by simp; omega)]
    have w1 := ok_row hw
    have er : szT (.l 3 (.i .i64)) l = List.length (α := Int) l := szT_row (e := 3) (sh := .i .i64) rfl _
    have tw := tltoIntS (List.length (α := Int) l + 999) l (by rw [er]; omega) (by rw [er]; omega)
    have hs := fsFormatList (k := List.length (α := Int) l + 999) l w1 hz (by omega)
    have hi := fiFormatList (k := List.length (α := Int) l + 999) l w1 hz (by omega)
    have qw := qleqIntS (List.length (α := Int) l + 999) l (by rw [er]; omega) (by rw [er]; omega)
    simp only [tw, hs, hi, qw, Option.bind_some, beq_self_eq_true, Bool.not_true, Bool.false_eq_true, if_false]
  · rw [if_pos (by simp; omega)]
def spanB (x : Int × Int) : ByteArray := (itoaB x.1 ++ (⟨#[45]⟩ : ByteArray)) ++ itoaB x.2
theorem spanB_size {x : Int × Int} (h : ok64 x.1 ∧ ok64 x.2) : (spanB x).size ≤ 43 := by
  have h1 := itoaB_size h.1
  have h2 := itoaB_size h.2
  unfold spanB
  simp only [ByteArray.size_append, sz1]
  omega
theorem fsFormatSpans {k : Nat} (l : List (Int × Int)) (h : ∀ x ∈ l, ok64 x.1 ∧ ok64 x.2) (hl : l.length ≤ 1048576) (hk : l.length + 70 ≤ k) : FsFormatSpans k l = some (joinedB (l.map spanB)) := by
  obtain ⟨k, rfl⟩ := pred (d := 0) (show 1 ≤ k by omega)
  unfold joinedB
  rw [joinB_eq]
  refine (esFormatSpans k l).trans ((up_inv0 (len := l.length) (fun (s : ByteArray) i => (s, i)) (fun s i => some (if (l.map spanB).length = 0 then (⟨#[45]⟩ : ByteArray) else jfrom ⟨#[32]⟩ s i ((l.map spanB).drop i))) (fun s i => s.size ≤ 50 * i) (by omega) (fun m i s hI hi hn0 hn hw ih => ?_) (by omega) _ (by decide)))
  show BsFormatSpans_0 k _ _ _ _ = _
  unfold BsFormatSpans_0
  dsimp only
  by_cases hlt : i < l.length
  · have hx : l[i]? = some l[i] := List.getElem?_eq_getElem hlt
    have hok := h _ (List.getElem_mem hlt)
    have z1 := itoaB_size hok.1
    have z2 := itoaB_size hok.2
    rw [if_pos (by simpa using hlt), drop_map spanB hlt, jfrom]
    by_cases h0 : i = 0
    · rw [if_neg (by simp; omega), if_pos hn0, hn, ix_some hx, fsFormatInt hok.1 (by omega), Option.bind_some, if_pos (by omega), if_pos (by simp only [ByteArray.size_append, sz1]; omega), if_pos hn0, ix_some hx, fsFormatInt hok.2 (by omega), Option.bind_some, if_pos (by simp only [ByteArray.size_append, sz1]; omega), hw, ih hlt _ (by simp only [ByteArray.size_append, sz1]; omega)]
      unfold jstep spanB
      rw [if_pos h0]
      simp only [ba_assoc]
    · rw [if_pos (by simp; omega), if_pos (by simp only [ByteArray.size_append, sz1]; omega), if_pos hn0, hn, ix_some hx, fsFormatInt hok.1 (by omega), Option.bind_some, if_pos (by simp only [ByteArray.size_append, sz1]; omega), if_pos (by simp only [ByteArray.size_append, sz1]; omega), if_pos hn0, ix_some hx, fsFormatInt hok.2 (by omega), Option.bind_some, if_pos (by simp only [ByteArray.size_append, sz1]; omega), hw, ih hlt _ (by simp only [ByteArray.size_append, sz1]; omega)]
      unfold jstep spanB
      rw [if_neg h0]
      simp only [ba_assoc]
  · have : i = l.length := by omega
    subst this
    rw [if_neg (by simp), List.drop_eq_nil_of_le (by simp), jfrom]
    by_cases h0 : l.length = 0
    · rw [if_pos (by simpa using h0), if_pos (by simpa using h0)]
    · rw [if_neg (by simpa using h0), if_neg (by simpa using h0)]
theorem fiFormatSpans {k : Nat} (l : List (Int × Int)) (h : ∀ x ∈ l, ok64 x.1 ∧ ok64 x.2) (hl : l.length ≤ 1048576) (hk : l.length + 70 ≤ k) : FiFormatSpans k l = some (joinedB (l.map spanB)) := by
  obtain ⟨k, rfl⟩ := pred (d := 0) (show 1 ≤ k by omega)
  refine (eiFormatSpans k l).trans (row_inv0 (a := l) (fun (s : List ByteArray) i => (i, s)) (fun s _ m => some (joinedB (s ++ m.map spanB))) (fun s i => s.length = i ∧ ∀ x ∈ s, x.size ≤ 44) (fun _ _ _ => rfl) (by omega) (fun s hI => ?_) (fun m i s x r hI h0 hn hw hi hx ih => ?_) (by omega) [] (by simp))
  · dsimp only
    rw [fijoined (by omega) hI.2 (by omega), Option.bind_some]
    simp
  · dsimp only
    have hox := h x (List.mem_of_getElem? hx)
    have z1 := itoaB_size hox.1
    have z2 := itoaB_size hox.2
    have z := spanB_size hox
    rw [fiFormatInt hox.1 (by omega), Option.bind_some, if_pos (by rw [sz1]; omega), fiFormatInt hox.2 (by omega), Option.bind_some, if_pos (by simp only [ByteArray.size_append, sz1]; omega), if_pos (by have := hI.1; simp; omega), hw]
    refine (ih (s ++ [spanB x]) ⟨by simp [hI.1], by
      intro y hy
      rcases List.mem_append.1 hy with h | h
      · exact hI.2 y h
      · rw [List.mem_singleton.1 h]; omega⟩).trans ?_
    simp
theorem lFnExactFormatSpans {P : Program} (l : List (Int × Int)) (hr : rowsLe 140737488351232 (.l 43 sI2) l) (hw : wfT P (.l 43 sI2) l) : ∃ k, FlFnExactFormatSpans k l = some true := by
  refine ⟨List.length (α := Int × Int) l + 1000, ?_⟩
  have er : szT (.l 43 sI2) l = List.length (α := Int × Int) l := szT_row (e := 43) (sh := sI2) rfl _
  rw [elFnExactFormatSpans, zlszSpanS _ l 1048576 hr (by omega) (by omega) (by omega), Option.bind_some]
  by_cases hz : List.length (α := Int × Int) l ≤ 1048576
  · rw [szR_pos (by rw [er]; omega), if_neg (by rw [er]; simp; omega)]
    have w1 := ok_links hw
    have tw := tltoSpanS (List.length (α := Int × Int) l + 999) l (by rw [er]; omega) (by rw [er]; omega)
    have hs := fsFormatSpans (k := List.length (α := Int × Int) l + 999) l w1 hz (by omega)
    have hi := fiFormatSpans (k := List.length (α := Int × Int) l + 999) l w1 hz (by omega)
    have er2 : szT (.l 50 sI2) l = List.length (α := Int × Int) l := szT_row (e := 50) (sh := sI2) rfl _
    have qw := qleqSpanS (List.length (α := Int × Int) l + 999) l (by rw [er2]; omega) (by rw [er2]; omega)
    simp only [tw, hs, hi, qw, Option.bind_some, beq_self_eq_true, Bool.not_true, Bool.false_eq_true, if_false]
  · rw [szR_neg (by rw [er]; omega), if_pos (by decide)]
end Go.Proofs.YtmabdlkmiddoiaaDoor.World
namespace Go.Proofs.YtmabdlkmiddoiaaDoor.World
open Go Go.V Go.Proofs
open Go.ChangeShapes Go.WideShapes Go.ChangeAt Go.RowKit
set_option linter.unusedVariables false
set_option maxRecDepth 100000
theorem tyOk : ∀ t i, E.ty t = some i → TyOk E.P t i := by
  intro t i h
  replace h : ty t = some i := h
  unfold ty at h
  split at h <;> first | (cases h; done) | (cases h; exact ⟨by kernel_rfl, by kernel_rfl⟩)
theorem fn0Ok : ∀ f F, fn0 f = some F → E.P.funcs[f]? = some F ∧ F.name ≠ "runtime.NumGoroutine" ∧ ∀ c, F.body = some c → codeOk c = true := by
  intro f F h
  unfold fn0 at h
  split at h <;> first | (cases h; done) | (cases h; exact ⟨by kernel_rfl, of_decide_eq_true (by kernel_rfl), fun c hc => by cases hc; kernel_rfl⟩)
theorem fnOk : ∀ f F, E.fn f = some F → E.P.funcs[f]? = some F ∧ F.name ≠ "runtime.NumGoroutine" ∧ ∀ c, F.body = some c → codeOk c = true := by
  intro f F h
  replace h : fn f = some F := h
  unfold fn at h
  exact fn0Ok f F h
theorem envOk : EnvOk E := ⟨tyOk, fun f F h => (fnOk f F h).1, fun f F h => (fnOk f F h).2.1, by kernel_rfl⟩
theorem gPow : Tryd.prog.globalNamed "internal/strconv.uint64pow10" = some 0 := by kernel_rfl
theorem tabs_of {w : World} {L : List Nat} (h : TabW E w L) : Lib.TabIs Tryd.prog w "internal/strconv.uint64pow10" .u64 Lib.pow10Tab := by
  obtain ⟨⟨ty, fr, h1⟩, _⟩ := h (0, (Lib.pow10Tab.map fun z => Value.int .u64 z).toArray) (List.mem_singleton.2 rfl)
  unfold Lib.TabIs World.var?
  rw [gPow]
  simp only [Option.bind_some]
  rw [show w.heap[0]? = _ from h1]
theorem chg_grow (w : World) (k : Nat) (os : Array Obj) : Chg [] w (Sort.grow (w.drewN k) os) :=
  ⟨rfl, rfl, rfl, by simp [Sort.grow, World.drewN], fun j hj _ => by
    show (w.heap ++ os)[j]? = w.heap[j]?
    rw [Array.getElem?_append_left hj]⟩
theorem itoa_sound : Sound1 E 41 extItoa := by
  intro xs p hp
  unfold extItoa at hp
  split at hp
  · rename_i n
    split at hp
    · rename_i h0
      split at hp
      · rename_i h1
        cases hp
        refine ⟨⟨Tryd.f41, Tryd.func41, of_decide_eq_true (by kernel_rfl), by kernel_rfl⟩, fun G w us L0 htab hargs hnd hL0 => ?_⟩
        obtain ⟨ha, _, rfl⟩ : All2 (VA w G fun _ => undef) [AV.c (.v (.int .i64 n))] us ∧ (∀ x ∈ [AV.c (.v (.int .i64 n))], AV.lt 0 x) ∧ L0 = [] := hargs
        match us, ha with
        | [u], ha =>
          have hu : rep w G (.v (.int .i64 n)) u := ha.1
          simp only [rep] at hu
          obtain ⟨rfl, _⟩ := hu
          refine (Tryd.strconv_Itoa n h0 h1 w (tabs_of htab)).mono ?_
          rintro e w' ⟨rfl, k, os, rfl⟩
          refine ⟨_, rfl, chg_grow w k os, [.string (itoaB n)], rfl, rfl, ?_⟩
          exact ⟨[.string (itoaB n)], rfl, by simp only [repT]⟩
      · cases hp
    · cases hp
  · cases hp
theorem spot_of {w : World} {a : Addr} {v : Value} (h : w.cell? a = some v) : a = ⟨a.block, a.off, none⟩ := by
  unfold World.cell? at h
  split at h
  · split at h
    · cases h
    · rename_i hs
      have e : a.spot = none := by cases hh : a.spot with
        | none => rfl
        | some s => rw [hh] at hs; exact absurd rfl hs
      cases a
      simp at e
      rw [e]
  · cases h
theorem add_none (b o n : Nat) : (⟨b, o, none⟩ : Addr).add n = ⟨b, o + n, none⟩ := by
  unfold Addr.add
  split
  · rename_i h; rw [h]; rfl
  · rfl
theorem join_sound : Sound1 E 42 extJoin := by
  intro xs p hp
  unfold extJoin at hp
  split at hp
  · rename_i e xs sep
    split at hp
    · rename_i h0
      split at hp
      · rename_i h1
        cases hp
        refine ⟨⟨Tryd.f42, Tryd.func42, of_decide_eq_true (by kernel_rfl), by kernel_rfl⟩, fun G w us L0 htab hargs hnd hL0 => ?_⟩
        obtain ⟨ha, _, rfl⟩ : All2 (VA w G fun _ => undef) [AV.c (.l e .s xs), AV.c (.v (.string sep))] us ∧ (∀ x ∈ [AV.c (.l e .s xs), AV.c (.v (.string sep))], AV.lt 0 x) ∧ L0 = [] := hargs
        match us, ha with
        | [u, v], ha =>
          have hu : rep w G (.l e .s xs) u := ha.1
          have hv : rep w G (.v (.string sep)) v := ha.2.1
          simp only [rep] at hu hv
          obtain ⟨rfl, _⟩ := hv
          obtain ⟨A, c, rfl, g1, g2, g3⟩ := hu
          have key : Calls Tryd.prog 42 #[.slice A (List.length (α := ByteArray) xs) c, .string sep] w fun e w' => e = .returned (.string (joinB xs sep)) ∧ Chg [] w w' := by
            by_cases hx : List.length (α := ByteArray) xs = 0
            · have e0 : (xs : List ByteArray) = [] := List.eq_nil_of_length_eq_zero hx
              have ej : joinB xs sep = ⟨#[]⟩ := by rw [e0]; rfl
              rw [hx, ej]
              refine (Tryd.strings_Join_none A c sep w).mono ?_
              rintro e w' ⟨rfl, rfl⟩
              exact ⟨rfl, Chg.refl _ _⟩
            · obtain ⟨ad, rfl, h2, h3, h4⟩ := g3 (Nat.pos_of_ne_zero hx)
              have cell : ∀ (j : Nat) (x : ByteArray), (xs : List ByteArray)[j]? = some x → w.cell? (ad.add j) = some (.string x) := by
                intro j x hj
                obtain ⟨vs, r1, r2⟩ := h4 j x hj
                have r1' : vs = [.string x] := by simpa only [repT] using r1
                have := r2 0 (.string x) (by rw [r1']; rfl)
                simpa [Sh.n] using this
              have e1 : ad = ⟨ad.block, ad.off, none⟩ := by
                have hh := cell 0 _ (List.getElem?_eq_getElem (Nat.pos_of_ne_zero hx))
                exact spot_of (show w.cell? ad = _ from hh)
              rw [e1]
              refine (Tryd.strings_Join ad.block ad.off c xs sep w (fun j x hj => ?_) h3 h0 g1 (by simpa [joinB, ByteArray.size] using h1)).mono ?_
              · have hh := cell j x hj
                rw [e1, add_none] at hh
                exact hh
              · rintro e w' ⟨rfl, hb⟩
                exact ⟨rfl, Chg.of_below hb _⟩
          refine key.mono ?_
          rintro e w' ⟨rfl, hb⟩
          refine ⟨_, rfl, hb, [.string (joinB xs sep)], rfl, rfl, ?_⟩
          exact ⟨[.string (joinB xs sep)], rfl, by simp only [repT]⟩
      · cases hp
    · cases hp
  · cases hp
theorem extOk : ∀ f g, E.ext f = some g → Sound1 E f g := by
  intro f g h
  replace h : ext f = some g := h
  unfold ext at h
  split at h
  · cases h
    exact itoa_sound
  · cases h
    exact join_sound
  · cases h
theorem sound (k : Nat) : CallOk E (den E k) := den_sound envOk (fun f F c h => (fnOk f F h).2.2 c) extOk k
abbrev laid3 : List (String × DataW Unit) := YtmabdlkmiddoiaaDoor.Rows.fnExactFormatTableRow.laid
theorem tPow : (Tryd.prog.globals[0]?).map (·.type) = some 99 := by kernel_rfl
theorem laid_tab {w : World} (h : laidMetH Tryd.prog laid3 w) : TabW E w [] := by
  rw [MakeChecks.laidMetH_plain _ _ _ (by kernel_rfl)] at h
  obtain ⟨ps, ⟨g0, t0, cs0, f0, p0, q0, hg0, ht0, hv0, hd0, ⟨g1, t1, cs1, f1, p1, q1, hg1, ht1, hv1, hd1, ⟨g2, t2, cs2, f2, p2, q2, hg2, ht2, hv2, hd2, _, _⟩, _⟩, _⟩, _, _⟩ := h
  obtain rfl := Option.some.inj (gPow.symm.trans hg2)
  obtain rfl := Option.some.inj (tPow.symm.trans ht2)
  have hcs := Lib.cells_of_tab (n := 20) (e := 89) (k := .u64) (zs := Lib.pow10Tab) Tryd.underlying99 Tryd.underlying89 (by kernel_rfl) (by kernel_rfl) hd2
  intro p hp
  obtain rfl : p = (0, (Lib.pow10Tab.map fun z => Value.int .u64 z).toArray) := List.mem_singleton.1 hp
  refine ⟨?_, by simp⟩
  unfold World.var? at hv2
  rw [gPow] at hv2
  simp only [Option.bind_some] at hv2
  split at hv2
  · rename_i cs ty fr hh
    have : cs = cs2 := Option.some.inj hv2
    refine ⟨ty, fr, ?_⟩
    rw [show w.heap[0]? = some (.cells cs ty fr) from hh, this]
    congr 2
    rw [← hcs]
  · cases hv2
end Go.Proofs.YtmabdlkmiddoiaaDoor.World
namespace Go.Proofs.YtmabdlkmiddoiaaDoor.World
open Go Go.V Go.Proofs
open Go.ChangeShapes Go.WideShapes Go.ChangeAt Go.RowKit
set_option linter.unusedVariables false
set_option maxRecDepth 100000
theorem walk4 {k : Nat} {y0 : List Int} (h : FlFnExactFormatList k y0 = some true) {W : World} (htab : TabW E W []) {v0 : Value} (h0 : VA W (fun _ => True) (fun _ => undef) (argAV (.l 3 (.i .i64)) y0) v0) (l0 : (argAV (.l 3 (.i .i64)) y0).lt 0) :
    Calls Tryd.prog 4 #[v0] W fun e W' => e = .returned (.bool true) ∧ Go.RowKit.Below W.heap.size W W' := by
  have hs := (sound k) 4 [argAV (.l 3 (.i .i64)) y0] true h
  refine (hs.2 (fun _ => True) W [v0] [] htab (by
    show ArgsT W (fun _ => True) [] _ _ []
    exact ⟨⟨h0, trivial⟩, by intro x hx; simp at hx; rw [hx]; exact l0, rfl⟩) List.nodup_nil (by simp)).mono ?_
  rintro e W' ⟨v, rfl, hb, hr⟩
  exact ⟨by rw [resOk_bool hr], Chg.below hb⟩
theorem own : ownKnob Tryd.prog.godebug = none := by kernel_rfl
theorem door_met (os : Os) (args : Array Value) : laidMetH Tryd.prog laid3 ((World.doorLaid Tryd.prog 400 os).forCall (fun _ _ => 0) ⟨#[], args, []⟩).memory :=
  laidMetH_of_parts3 (fuel := 8) (laidMet_of_run' 8 (by kernel_rfl) (by kernel_rfl)) (by kernel_rfl) (by kernel_rfl)
theorem lifted (os : Os) (started : os.Started) (H : Type) (enc : TypeId × Value → H) :
    ReturnsInHanded {} Tryd.checked os 4 .any (fun w args => (YtmabdlkmiddoiaaDoor.Rows.fnExactFormatListSpec.pre enc Tryd.prog Tryd.f4 [] false w args ∧ laidMetH Tryd.prog laid3 w) ∧ sizedMet enc Tryd.prog Tryd.f4 (OpenSpec.ofChange YtmabdlkmiddoiaaDoor.Rows.fnExactFormatListSpec) false w args)
      (YtmabdlkmiddoiaaDoor.Rows.fnExactFormatListSpec.post enc Tryd.prog Tryd.f4 false true false false) := by
  refine returnsInHanded_of_change_and (C := Tryd.checked) (X := fun w _ => laidMetH Tryd.prog laid3 w) (fun _ _ _ hh h => h.of_heap hh) own started (by kernel_rfl) Tryd.func4
    (ChangeSpec.witness_shaped (enc := enc) (C := Tryd.checked) (os := os) (X := fun w _ => laidMetH Tryd.prog laid3 w) false (World.doorLaid Tryd.prog 400 os) #[.slice none 0 0] 8 rfl (World.shaped_of_RefB (by kernel_rfl) (by kernel_rfl)) (by kernel_rfl) (by kernel_rfl) (by kernel_rfl) (door_met os _)) ?_
  intro W base args ds gs before hval0 hW hcnd hsz0 hL _
  have hsz : (DataW.weightsEach Tryd.prog (Tryd.f4.params.toList ++ YtmabdlkmiddoiaaDoor.Rows.fnExactFormatListSpec.plain.varTypes Tryd.prog) (ds ++ gs)).all (· ≤ reachBytes) = true := hsz0
  have hval : ∀ (j : Nat) t v, Tryd.f4.params[j]? = some t → args[j]? = some v → Value.okWide Tryd.prog W .any base t v := hval0
  have hW' := hW
  obtain ⟨p, q, hA0, hV, rfl, hfz, hnd⟩ := hW
  have hA : DataW.TrodAll enc Tryd.prog W 0 (fun _ => true) true Tryd.f4.params.toList args.toList ds p := hA0
  have hAA := hA
  rw [Tryd.params4] at hA hval hsz
  obtain ⟨v0, vs0, d0, ds0, p0, q0, hargs, rfl, rfl, h0, r0⟩ := trodAll_cons hA
  obtain ⟨rfl, rfl, rfl⟩ := trodAll_nil r0
  obtain rfl : args = #[v0] := by cases args; simp_all
  obtain ⟨rfl, rfl⟩ := trodVars_none hV
  have hwt0 : ∀ n ∈ d0.weights Tryd.prog 22, n ≤ reachBytes := by
    intro n hn
    have := List.all_eq_true.1 hsz n (by simp [DataW.weightsEach, hn])
    simpa using this
  obtain ⟨y0, a0, b0, w0⟩ := arg_VA (sh := (.l 3 (.i .i64))) (by kernel_rfl) (hval 0 22 v0 rfl rfl) h0 hwt0
  obtain ⟨k, hk⟩ := lFnExactFormatList y0 (rows_wf (P := Tryd.prog) (.l 3 (.i .i64)) y0 (by kernel_rfl) w0) w0
  have hlt : ∀ x ∈ p0 ++ [], x.block < W.heap.size := fun x hx => hW'.lt x (by simpa using hx)
  refine (walk4 hk (laid_tab hL) a0 b0).mono fun e W' ⟨he, bel⟩ => ?_
  subst he
  exact ⟨_, rfl, _, _, _, [], _, [], hW', trodAll_mk1 (shut_bool Tryd.underlying4 _), below_trodAll (by kernel_rfl) bel _ _ _ _ (by kernel_rfl) hAA hlt, rfl, bel.frame _, fun h => by cases h⟩
theorem facts_of {P : Program} {f : FuncId} {fn : Func} {s : ChangeSpec} {c : OpenClaim} (k1 : (c.wf (OpenSpec.ofChange s)) = true) (k2 : (laidOutB P) = true) (k3 : (mapsRowed P) = true) (k4 : (fn.params.all (P.readableRec ·)) = true) (k5 : (namedTie P c.named s.vars) = true) (k6 : ((c.stops == [])) = true) (k7 : ((P.stops == [])) = true) (k8 : ((c.knobs == [])) = true) (k9 : ((P.stopKnobs == [])) = true) (k10 : ((c.inPlace == P.inPlace f)) = true) (k11 : ((c.unfollowed == P.unfollowed f)) = true) (k12 : ((c.recurses == P.recurses f)) = true) (k13 : ((c.named == P.varsNamed f)) = true) (k14 : ((c.maps == (fn.params.toList ++ s.plain.varTypes P).any (P.mapsRec ·))) = true) (k15 : ((c.ifaces == (fn.params.toList ++ s.plain.varTypes P).any (P.ifacesRec ·))) = true) (k16 : ((c.mapsOut == P.mapsAmong fn.resultTypes.toList)) = true) (k17 : ((c.loops == (fn.params.toList ++ s.plain.varTypes P).any (P.loopsFrom ·))) = true) (k18 : ((c.wideKeys == (fn.params.toList ++ s.plain.varTypes P ++ fn.resultTypes.toList).any (P.wideKeysFrom ·))) = true) (k19 : (s.vars.all (P.varReadable ·)) = true) (k20 : (fn.resultTypes.all (fun t => P.readableRec t && decide (t < P.types.size))) = true) (k21 : ((c.ifacesOut == fn.resultTypes.toList.any (P.ifacesRec ·))) = true) (k22 : ((c.loopsOut == fn.resultTypes.toList.any (P.loopsFrom ·))) = true) (k23 : ((c.plainKeys == P.plainKeys)) = true) (k24 : (c.shortTexts.isNone) = true) (k25 : (P.stopsHeard) = true) (k26 : (P.mayEnter) = true) (k27 : ((c.lifted == P.liftsFinal)) = true) (k28 : ((P.make == some c.make)) = true) (k29 : ((c.kinds == (if c.domain.isEmpty then [] else fn.params.toList.map fun t => match P.underlying t with | some (.int k) => some k | _ => none))) = true) (k30 : ((c.pinned == c.pinnedBy)) = true) (k31 : ((c.veiled == (fn.params.toList ++ s.plain.varTypes P ++ fn.resultTypes.toList).any (P.veiledRec ·))) = true) (k32 : (c.veiledFits P fn.params.toList (fn.params.toList ++ s.plain.varTypes P ++ fn.resultTypes.toList)) = true) : joinedFacts P f fn s c = true := by
  unfold joinedFacts
  simp only [k1, k2, k3, k4, k5, k6, k7, k8, k9, k10, k11, k12, k13, k14, k15, k16, k17, k18, k19, k20, k21, k22, k23, k24, k25, k26, k27, k28, k30, k31, k32, Bool.and_true, Bool.true_and]
  exact k29
theorem k1 : (YtmabdlkmiddoiaaDoor.Rows.fnExactFormatListRow.wf (OpenSpec.ofChange YtmabdlkmiddoiaaDoor.Rows.fnExactFormatListSpec)) = true := by kernel_rfl
theorem k2 : (laidOutB Tryd.checked.prog) = true := by kernel_rfl
theorem k3 : (mapsRowed Tryd.checked.prog) = true := by kernel_rfl
theorem k4 : (Tryd.f4.params.all (Tryd.checked.prog.readableRec ·)) = true := by kernel_rfl
theorem k5 : (namedTie Tryd.checked.prog YtmabdlkmiddoiaaDoor.Rows.fnExactFormatListRow.named YtmabdlkmiddoiaaDoor.Rows.fnExactFormatListSpec.vars) = true := by kernel_rfl
theorem k6 : ((YtmabdlkmiddoiaaDoor.Rows.fnExactFormatListRow.stops == [])) = true := by kernel_rfl
theorem k7 : ((Tryd.checked.prog.stops == [])) = true := by kernel_rfl
theorem k8 : ((YtmabdlkmiddoiaaDoor.Rows.fnExactFormatListRow.knobs == [])) = true := by kernel_rfl
theorem k9 : ((Tryd.checked.prog.stopKnobs == [])) = true := by kernel_rfl
theorem k10 : ((YtmabdlkmiddoiaaDoor.Rows.fnExactFormatListRow.inPlace == Tryd.checked.prog.inPlace 4)) = true := by kernel_rfl
theorem k11 : ((YtmabdlkmiddoiaaDoor.Rows.fnExactFormatListRow.unfollowed == Tryd.checked.prog.unfollowed 4)) = true := by kernel_rfl
theorem k12 : ((YtmabdlkmiddoiaaDoor.Rows.fnExactFormatListRow.recurses == Tryd.checked.prog.recurses 4)) = true := by kernel_rfl
theorem k13 : ((YtmabdlkmiddoiaaDoor.Rows.fnExactFormatListRow.named == Tryd.checked.prog.varsNamed 4)) = true := by kernel_rfl
theorem k14 : ((YtmabdlkmiddoiaaDoor.Rows.fnExactFormatListRow.maps == (Tryd.f4.params.toList ++ YtmabdlkmiddoiaaDoor.Rows.fnExactFormatListSpec.plain.varTypes Tryd.checked.prog).any (Tryd.checked.prog.mapsRec ·))) = true := by kernel_rfl
theorem k15 : ((YtmabdlkmiddoiaaDoor.Rows.fnExactFormatListRow.ifaces == (Tryd.f4.params.toList ++ YtmabdlkmiddoiaaDoor.Rows.fnExactFormatListSpec.plain.varTypes Tryd.checked.prog).any (Tryd.checked.prog.ifacesRec ·))) = true := by kernel_rfl
theorem k16 : ((YtmabdlkmiddoiaaDoor.Rows.fnExactFormatListRow.mapsOut == Tryd.checked.prog.mapsAmong Tryd.f4.resultTypes.toList)) = true := by kernel_rfl
theorem k17 : ((YtmabdlkmiddoiaaDoor.Rows.fnExactFormatListRow.loops == (Tryd.f4.params.toList ++ YtmabdlkmiddoiaaDoor.Rows.fnExactFormatListSpec.plain.varTypes Tryd.checked.prog).any (Tryd.checked.prog.loopsFrom ·))) = true := by kernel_rfl
theorem k18 : ((YtmabdlkmiddoiaaDoor.Rows.fnExactFormatListRow.wideKeys == (Tryd.f4.params.toList ++ YtmabdlkmiddoiaaDoor.Rows.fnExactFormatListSpec.plain.varTypes Tryd.checked.prog ++ Tryd.f4.resultTypes.toList).any (Tryd.checked.prog.wideKeysFrom ·))) = true := by kernel_rfl
theorem k19 : (YtmabdlkmiddoiaaDoor.Rows.fnExactFormatListSpec.vars.all (Tryd.checked.prog.varReadable ·)) = true := by kernel_rfl
theorem k20 : (Tryd.f4.resultTypes.all (fun t => Tryd.checked.prog.readableRec t && decide (t < Tryd.checked.prog.types.size))) = true := by kernel_rfl
theorem k21 : ((YtmabdlkmiddoiaaDoor.Rows.fnExactFormatListRow.ifacesOut == Tryd.f4.resultTypes.toList.any (Tryd.checked.prog.ifacesRec ·))) = true := by kernel_rfl
theorem k22 : ((YtmabdlkmiddoiaaDoor.Rows.fnExactFormatListRow.loopsOut == Tryd.f4.resultTypes.toList.any (Tryd.checked.prog.loopsFrom ·))) = true := by kernel_rfl
theorem k23 : ((YtmabdlkmiddoiaaDoor.Rows.fnExactFormatListRow.plainKeys == Tryd.checked.prog.plainKeys)) = true := by kernel_rfl
theorem k24 : (YtmabdlkmiddoiaaDoor.Rows.fnExactFormatListRow.shortTexts.isNone) = true := by kernel_rfl
theorem k25 : (Tryd.checked.prog.stopsHeard) = true := by kernel_rfl
theorem k26 : (Tryd.checked.prog.mayEnter) = true := by kernel_rfl
theorem k27 : ((YtmabdlkmiddoiaaDoor.Rows.fnExactFormatListRow.lifted == Tryd.checked.prog.liftsFinal)) = true := by kernel_rfl
theorem k28 : ((Tryd.checked.prog.make == some YtmabdlkmiddoiaaDoor.Rows.fnExactFormatListRow.make)) = true := by kernel_rfl
theorem k29 : ((YtmabdlkmiddoiaaDoor.Rows.fnExactFormatListRow.kinds == (if YtmabdlkmiddoiaaDoor.Rows.fnExactFormatListRow.domain.isEmpty then [] else Tryd.f4.params.toList.map fun t => match Tryd.checked.prog.underlying t with | some (.int k) => some k | _ => none))) = true := by kernel_rfl
theorem k30 : ((YtmabdlkmiddoiaaDoor.Rows.fnExactFormatListRow.pinned == YtmabdlkmiddoiaaDoor.Rows.fnExactFormatListRow.pinnedBy)) = true := by kernel_rfl
theorem k31 : ((YtmabdlkmiddoiaaDoor.Rows.fnExactFormatListRow.veiled == (Tryd.f4.params.toList ++ YtmabdlkmiddoiaaDoor.Rows.fnExactFormatListSpec.plain.varTypes Tryd.checked.prog ++ Tryd.f4.resultTypes.toList).any (Tryd.checked.prog.veiledRec ·))) = true := by kernel_rfl
theorem k32 : (YtmabdlkmiddoiaaDoor.Rows.fnExactFormatListRow.veiledFits Tryd.checked.prog Tryd.f4.params.toList (Tryd.f4.params.toList ++ YtmabdlkmiddoiaaDoor.Rows.fnExactFormatListSpec.plain.varTypes Tryd.checked.prog ++ Tryd.f4.resultTypes.toList)) = true := by kernel_rfl
theorem k0 : YtmabdlkmiddoiaaDoor.Tryd.pinned.checked.prog.funcNamed YtmabdlkmiddoiaaDoor.Rows.fnExactFormatListRow.func = some 4 := by kernel_rfl
theorem wrapper : Tryd.f4.isWrapper Tryd.checked.prog YtmabdlkmiddoiaaDoor.Rows.fnExactFormatListRow.wrapper YtmabdlkmiddoiaaDoor.Rows.fnExactFormatListRow.mainSum := by
  unfold Func.isWrapper
  first | (rw [if_pos (by decide +kernel)]; kernel_rfl) | (rw [if_neg (by decide +kernel)]; exact ⟨rfl, rfl⟩)
theorem facts : joinedFacts YtmabdlkmiddoiaaDoor.Tryd.pinned.checked.prog 4 Tryd.f4 YtmabdlkmiddoiaaDoor.Rows.fnExactFormatListSpec YtmabdlkmiddoiaaDoor.Rows.fnExactFormatListRow = true := facts_of k1 k2 k3 k4 k5 k6 k7 k8 k9 k10 k11 k12 k13 k14 k15 k16 k17 k18 k19 k20 k21 k22 k23 k24 k25 k26 k27 k28 k29 k30 k31 k32
theorem over : YtmabdlkmiddoiaaDoor.Rows.fnExactFormatListRow.holds YtmabdlkmiddoiaaDoor.Tryd.pinned (OpenSpec.ofChange YtmabdlkmiddoiaaDoor.Rows.fnExactFormatListSpec) :=
  OpenClaim.holds_of_wide 4 Tryd.f4 rfl rfl rfl rfl rfl rfl rfl ⟨rfl, rfl, rfl, rfl, rfl⟩ rfl rfl rfl rfl rfl k0 Tryd.func4 facts
    (of_decide_eq_true (by kernel_rfl)) wrapper
    (fun os started H enc _ => lifted os started H enc)
theorem named4 : Tryd.prog.funcNamed "loop.example/g00599/laws.FnExactFormatList" = some 4 := by kernel_rfl
theorem card : YtmabdlkmiddoiaaDoor.Rows.FnExactFormatListCardSaid :=
  Claim7.holds_tied_plain_at .later [] [.data, .data, .data] true (true, "bcef1a3cbc353db7eb794a86a4c395807eb50dd8fc8eb4bb29092c8437750403") false
    over (fun _ h => by cases h) (by kernel_rfl) (fun _ h => by cases h) YtmabdlkmiddoiaaDoor.fnExactFormatList_row_tie rfl ⟨rfl, rfl⟩ (by kernel_rfl) rfl
    (fun f fn hf hfn => by
      obtain rfl : f = 4 := Option.some.inj (named4.symm.trans hf) |>.symm
      obtain rfl : fn = Tryd.f4 := (Option.some.inj (Tryd.func4.symm.trans hfn)).symm
      exact ⟨by kernel_rfl, fun j t ht => by
        rw [Tryd.params4] at ht
        have hm : t ∈ [22] := by simpa using Array.mem_of_getElem? ht
        have hall : ([22].all fun u => !Tryd.prog.wantsStandIn u) = true := by kernel_rfl
        exact (show Tryd.prog.wantsStandIn t = false by simpa using List.all_eq_true.1 hall t hm)⟩)
    (by kernel_rfl)
end Go.Proofs.YtmabdlkmiddoiaaDoor.World
namespace Go.Proofs.YtmabdlkmiddoiaaDoor
/-- The card, under a short name. -/
theorem fnExactFormatList_holds : Rows.FnExactFormatListCardSaid := World.card
end Go.Proofs.YtmabdlkmiddoiaaDoor
