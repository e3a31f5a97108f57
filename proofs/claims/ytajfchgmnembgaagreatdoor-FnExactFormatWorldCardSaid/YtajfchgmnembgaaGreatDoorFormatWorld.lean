/- 'laws.FnExactFormatWorld' returns true for every input. No condition. -/
import Derived.Test.YtajfchgmnembgaaGreatDoorWp
import Derived.Test.YtajfchgmnembgaaGreatDoorShelf
import Derived.Test.YtajfchgmnembgaaGreatDoorRows
import Derived.Test.YtajfchgmnembgaaGreatDoorTie
import Derived.Test.YtajfchgmnembgaaGreatDoorCards
import Derived.Test.YtajfchgmnembgaaGreatDoorChecked
import Derived.KernelRfl
import Derived.ProofKit
import Derived.LaidMore
import Derived.OpenShut
import Derived.Stop.Joined
import Derived.SevenTiedAt
import Derived.Lib.LaidTab
import Derived.Lib.ItoaLen
namespace Go.Proofs.YtajfchgmnembgaaGreatDoor.World
open Go Go.V Go.Proofs
set_option linter.unusedVariables false
set_option linter.unusedSimpArgs false
set_option maxRecDepth 100000
abbrev TW := TWorld
theorem pred {k d : Nat} (h : d + 1 ≤ k) : ∃ q, k = q + 1 := ⟨k - 1, by omega⟩
def ok64 (n : Int) : Prop := -9223372036854775808 ≤ n ∧ n ≤ 9223372036854775807
theorem ok_wf {P : Program} {n : Int} (h : wfT P (.i .i64) n) : ok64 n := by
  have h1 : Go.V.inR .i64 n := by simpa only [wfT] using h
  unfold Go.V.inR at h1
  unfold ok64
  simp [IntKind.min, IntKind.max, IntKind.bits, IntKind.signed] at h1
  omega
/-! ### decimal -/
theorem ba_ext {a b : ByteArray} (h : a.data = b.data) : a = b := by cases a; cases b; simp at h; rw [h]
theorem ba_assoc (a b c : ByteArray) : a ++ b ++ c = a ++ (b ++ c) := by
  apply ba_ext
  simp [Array.append_assoc]
theorem itoaB_size {n : Int} (h : ok64 n) : (itoaB n).size ≤ 21 := by
  have := Lib.itoa_length_le n h.1 h.2
  unfold itoaB ByteArray.size
  simpa using this
theorem fgItoa {k : Nat} {n : Int} (h : ok64 n) (hk : 1 ≤ k) : FgItoa k n = some (itoaB n) := by
  obtain ⟨k, rfl⟩ := pred (d := 0) hk
  rw [egItoa, if_pos h.1, if_pos h.2]
theorem fiFormatInt {k : Nat} {n : Int} (h : ok64 n) (hk : 2 ≤ k) : FiFormatInt k n = some (itoaB n) := by
  obtain ⟨k, rfl⟩ := pred (d := 1) hk
  rw [eiFormatInt, fgItoa h (by omega), Option.bind_some]
/-- The digits of u, as bytes. -/
def dgB (u : Nat) : ByteArray := ⟨(Lib.decDigits u).toArray⟩
def one (u : Nat) : ByteArray := ⟨#[UInt8.ofNat (48 + u % 10)]⟩
theorem dgB_small {u : Nat} (h : u < 10) : dgB u = one u := by
  unfold dgB one
  rw [Lib.decDigits, dif_pos h, Nat.mod_eq_of_lt h]
theorem dgB_big {u : Nat} (h : ¬ u < 10) : dgB u = dgB (u / 10) ++ one u := by
  apply ba_ext
  unfold dgB one
  rw [Lib.decDigits, dif_neg h]
  simp
theorem digit_pos (u : Nat) (h : (u : Int) ≤ 9223372036854775808) : (decide (((u : Int)).tmod 10 < 0)) = false ∧ bytesOf [(IntKind.u8.wrap (IntKind.i64.wrap (48 + (((u : Int)).tmod 10))))] = one u ∧ IntKind.i64.wrap (((u : Int)).tdiv 10) = ((u / 10 : Nat) : Int) := by
  have e1 : ((u : Int)).tmod 10 = ((u % 10 : Nat) : Int) := rfl
  have e2 : ((u : Int)).tdiv 10 = ((u / 10 : Nat) : Int) := rfl
  have hm : u % 10 < 10 := Nat.mod_lt _ (by decide)
  refine ⟨by rw [e1, decide_eq_false]; omega, ?_, by rw [e2, wrap_id (by omega) (by omega)]⟩
  rw [e1, wrap_id (by omega) (by omega), IntKind.wrap_u8]
  have e3 : ((48 + ((u % 10 : Nat) : Int)) % 256).toNat = 48 + u % 10 := by omega
  unfold bytesOf one
  simp only [List.map_cons, List.map_nil, e3]
theorem digit_neg (u : Nat) (h : (u : Int) ≤ 9223372036854775808) (h0 : ¬ u % 10 = 0) : (decide ((-(u : Int)).tmod 10 < 0)) = true := by
  have e1 : (-(u : Int)).tmod 10 = -((u % 10 : Nat) : Int) := by rw [Int.neg_tmod]; rfl
  rw [e1, decide_eq_true]
  omega
theorem digit_neg2 (u : Nat) (h : (u : Int) ≤ 9223372036854775808) : bytesOf [(IntKind.u8.wrap (IntKind.i64.wrap (48 + (IntKind.i64.wrap (0 - ((-(u : Int)).tmod 10))))))] = one u ∧ IntKind.i64.wrap ((-(u : Int)).tdiv 10) = -((u / 10 : Nat) : Int) := by
  have e1 : (-(u : Int)).tmod 10 = -((u % 10 : Nat) : Int) := by rw [Int.neg_tmod]; rfl
  have e2 : (-(u : Int)).tdiv 10 = -((u / 10 : Nat) : Int) := by rw [Int.neg_tdiv]; rfl
  have hm : u % 10 < 10 := Nat.mod_lt _ (by decide)
  refine ⟨?_, by rw [e2, wrap_id (by omega) (by omega)]⟩
  rw [e1, wrap_id (n := 0 - -((u % 10 : Nat) : Int)) (by omega) (by omega), wrap_id (by omega) (by omega), IntKind.wrap_u8]
  have e3 : ((48 + (0 - -((u % 10 : Nat) : Int))) % 256).toNat = 48 + u % 10 := by omega
  unfold bytesOf one
  simp only [List.map_cons, List.map_nil, e3]
theorem digit_neg0 (u : Nat) (h : (u : Int) ≤ 9223372036854775808) (h0 : u % 10 = 0) : (decide ((-(u : Int)).tmod 10 < 0)) = false ∧ bytesOf [(IntKind.u8.wrap (IntKind.i64.wrap (48 + ((-(u : Int)).tmod 10))))] = one u := by
  have e1 : (-(u : Int)).tmod 10 = -((u % 10 : Nat) : Int) := by rw [Int.neg_tmod]; rfl
  rw [e1, h0]
  refine ⟨by decide, ?_⟩
  unfold bytesOf one
  rw [h0]
  rfl
theorem one_size (u : Nat) : (one u).size = 1 := rfl
/-- spec.FormatInt's loop. -/
theorem loopFI {k : Nat} (X : VsFormatInt_0 → Option ByteArray) (c : Int) : ∀ (m n u : Nat) (x : Int) (s : ByteArray), x = (u : Int) ∨ x = -(u : Int) → u < 10 ^ m → m < n → (u : Int) ≤ 9223372036854775808 → s.size + m ≤ 1000 →
    LsFormatInt_0 k X c n (s, x) = X ((if u = 0 then s else dgB u ++ s), 0)
  | 0, n + 1, u, x, s, hx, hu, _, _, _ => by
    have h0 : u = 0 := by simpa using hu
    subst h0
    obtain rfl : x = 0 := by rcases hx with h | h <;> simpa using h
    show BsFormatInt_0 k X c _ (s, 0) = _
    unfold BsFormatInt_0
    rw [if_neg (by simp), if_pos rfl]
  | m + 1, n + 1, u, x, s, hx, hu, hn, hb, hs => by
    show BsFormatInt_0 k X c (LsFormatInt_0 k X c n) (s, x) = _
    unfold BsFormatInt_0
    dsimp only
    by_cases h0 : u = 0
    · subst h0
      obtain rfl : x = 0 := by rcases hx with h | h <;> simpa using h
      rw [if_neg (by simp), if_pos rfl]
    · have hx0 : (x != 0) = true := by
        have : x ≠ 0 := by rcases hx with h | h <;> omega
        simpa using this
      have hu' : u / 10 < 10 ^ m := by
        rw [Nat.pow_succ] at hu
        omega
      have step : ∀ y, (y = ((u / 10 : Nat) : Int) ∨ y = -((u / 10 : Nat) : Int)) → LsFormatInt_0 k X c n (one u ++ s, y) = X (dgB u ++ s, 0) := by
        intro y hy
        rw [loopFI X c m n (u / 10) y (one u ++ s) hy hu' (by omega) (by omega) (by rw [ByteArray.size_append, one_size]; omega)]
        by_cases h9 : u < 10
        · rw [if_pos (by omega), dgB_small h9]
        · rw [if_neg (by omega), dgB_big h9, ba_assoc]
      rw [if_pos hx0, if_neg h0]
      rcases hx with rfl | rfl
      · obtain ⟨d1, d2, d3⟩ := digit_pos u hb
        rw [d1, if_neg (by decide), d2, d3, if_pos (by rw [one_size]; omega)]
        exact step _ (.inl rfl)
      · obtain ⟨d2, d3⟩ := digit_neg2 u hb
        by_cases hz : u % 10 = 0
        · obtain ⟨d4, d5⟩ := digit_neg0 u hb hz
          rw [d4, if_neg (by decide), d5, d3, if_pos (by rw [one_size]; omega)]
          exact step _ (.inr rfl)
        · rw [digit_neg u hb hz, if_pos rfl, d2, d3, if_pos (by rw [one_size]; omega)]
          exact step _ (.inr rfl)
theorem ba_empty (a : ByteArray) : a ++ (⟨#[]⟩ : ByteArray) = a := by
  apply ba_ext
  simp
theorem fsFormatInt {k : Nat} {n : Int} (h : ok64 n) (hk : 50 ≤ k) : FsFormatInt k n = some (itoaB n) := by
  obtain ⟨k, rfl⟩ := pred (d := 49) hk
  obtain ⟨h1, h2⟩ := h
  rw [esFormatInt]
  by_cases h0 : n = 0
  · subst h0
    rw [if_pos (by decide)]
    have : itoaB 0 = (⟨#[48]⟩ : ByteArray) := by
      unfold itoaB Lib.itoa
      rw [if_neg (by decide), show (0 : Int).toNat = 0 from rfl, Lib.decDigits, dif_pos (by decide)]
      rfl
    rw [this]
  · rw [if_neg (by simpa using h0)]
    have hu : n.natAbs < 10 ^ 19 := by
      have : (10 : Nat) ^ 19 = 10000000000000000000 := by decide
      omega
    have e : (if n.natAbs = 0 then (⟨#[]⟩ : ByteArray) else dgB n.natAbs ++ (⟨#[]⟩ : ByteArray)) = dgB n.natAbs := by rw [if_neg (by omega), ba_empty]
    rw [loopFI _ n 19 k n.natAbs n _ (by omega) hu (by omega) (by omega) (by decide), e]
    dsimp only
    have hl : (dgB n.natAbs).size ≤ 20 := by
      have := Lib.nDigits_le20 n.natAbs (by omega)
      unfold dgB ByteArray.size
      simpa [Lib.decDigits_length] using this
    by_cases hn : n < 0
    · rw [if_pos (by simpa using hn), if_pos (by show 1 + _ ≤ _; omega)]
      congr 1
      apply ba_ext
      unfold itoaB Lib.itoa dgB
      rw [if_pos hn]
      simp
    · rw [if_neg (by simpa using hn)]
      congr 1
      unfold itoaB Lib.itoa dgB
      rw [if_neg hn, show n.natAbs = n.toNat by omega]
theorem sz1 (a : UInt8) : (⟨#[a]⟩ : ByteArray).size = 1 := rfl
/-! ### numbers, rows -/
def isIdx (a b : Int) : Bool := decide (a ≥ 0) && decide (a < b)
def inR (n a b : Int) : Bool := decide (a ≤ n) && decide (n ≤ b)
theorem fiisIndex {k : Nat} (a b : Int) (hk : 1 ≤ k) : FiisIndex k a b = some (isIdx a b) := by
  obtain ⟨k, rfl⟩ := pred (d := 0) hk
  rw [eiisIndex]
  unfold isIdx
  cases decide (a ≥ 0) <;> rfl
theorem fiInRange {k : Nat} (n a b : Int) (hk : 1 ≤ k) : FiInRange k n a b = some (inR n a b) := by
  obtain ⟨k, rfl⟩ := pred (d := 0) hk
  rw [eiInRange]
  unfold inR
  cases decide (a ≤ n) <;> rfl
theorem fsl1In {k : Nat} (n a b : Int) (hk : 1 ≤ k) : Fsl1In k n a b = some (inR n a b) := by
  obtain ⟨k, rfl⟩ := pred (d := 0) hk
  rw [esl1In]
  unfold inR
  show (if ((decide (a ≤ n)) == true) = true then _ else _) = _
  cases decide (a ≤ n) <;> rfl
/-! ### skies, laws -/
def nodes (s : TSky) : Int := IntKind.i64.wrap ((s.2.1.length : Int) + (s.2.2.1.length : Int))
def site (s : TSky) (n : Int) : Bool := inR n (s.2.1.length : Int) (IntKind.i64.wrap (nodes s - 1))
theorem fiNodesOf {k : Nat} (s : TSky) (hk : 1 ≤ k) : FiNodesOf k s = some (nodes s) := by
  obtain ⟨k, rfl⟩ := pred (d := 0) hk
  exact eiNodesOf k s
theorem fsNodesOf {k : Nat} (s : TSky) (hk : 1 ≤ k) : FsNodesOf k s = some (nodes s) := by
  obtain ⟨k, rfl⟩ := pred (d := 0) hk
  exact esNodesOf k s
theorem fiIsSite {k : Nat} (s : TSky) (n : Int) (hk : 2 ≤ k) : FiIsSite k s n = some (site s n) := by
  obtain ⟨k, rfl⟩ := pred (d := 1) hk
  rw [eiIsSite, fiNodesOf s (by omega), Option.bind_some, fiInRange _ _ _ (by omega)]
  rfl
theorem fsIsSite {k : Nat} (s : TSky) (n : Int) (hk : 2 ≤ k) : FsIsSite k s n = some (site s n) := by
  obtain ⟨k, rfl⟩ := pred (d := 1) hk
  rw [esIsSite, fsNodesOf s (by omega), Option.bind_some, fsl1In _ _ _ (by omega)]
  rfl
/-! ### IsLawful -/
abbrev qDone (w : TW) := w.2.2.2.2.2.2.2.2.2.2.2.2.1
abbrev qLog (w : TW) := w.2.2.2.2.2.2.2.2.2.2.2.2.2
abbrev qQueues (w : TW) := w.2.2.2.2.2.1
theorem inR_last {len : Nat} (n : Int) (h : len ≤ 140737488351232) : inR n 0 (IntKind.i64.wrap ((len : Int) - 1)) = isIdx n (len : Int) := by
  rw [wrap_id (by omega) (by omega)]
  unfold inR isIdx
  have e : decide (n ≤ (len : Int) - 1) = decide (n < (len : Int)) := by
    by_cases h : n < (len : Int)
    · rw [decide_eq_true h, decide_eq_true (by omega)]
    · rw [decide_eq_false h, decide_eq_false (by omega)]
  rw [e]
theorem isIdx_pos {n : Int} {len : Nat} (h : isIdx n (len : Int) = true) : 0 ≤ n ∧ n.toNat < len := by
  unfold isIdx at h
  simp only [Bool.and_eq_true, decide_eq_true_eq] at h
  omega
def isSat (s : TSky) (n : Int) : Bool := isIdx n (s.2.1.length : Int)
theorem fiisSatellite {k : Nat} (s : TSky) (n : Int) (hl : s.2.1.length ≤ 140737488351232) (hk : 2 ≤ k) : FiisSatellite k s n = some (isSat s n) := by
  obtain ⟨k, rfl⟩ := pred (d := 1) hk
  rw [eiisSatellite, fiInRange _ _ _ (by omega), inR_last _ hl]
  rfl
/-! ### FormatNode -/
theorem sz2 (a b : UInt8) : (⟨#[a, b]⟩ : ByteArray).size = 2 := rfl
theorem nodes_nat {s : TSky} (h1 : s.2.1.length ≤ 1048576) (h2 : s.2.2.1.length ≤ 1048576) : nodes s = ((s.2.1.length + s.2.2.1.length : Nat) : Int) := by
  unfold nodes
  rw [wrap_id (by omega) (by omega)]
  omega
theorem sat_site {s : TSky} {n : Int} (h1 : s.2.1.length ≤ 1048576) (h2 : s.2.2.1.length ≤ 1048576) (h : isIdx n (nodes s) = true) : isSat s n = !site s n := by
  rw [nodes_nat h1 h2] at h
  obtain ⟨ha, hb⟩ := isIdx_pos h
  unfold isSat isIdx site inR
  rw [nodes_nat h1 h2, wrap_id (by omega) (by omega)]
  by_cases hc : n < (s.2.1.length : Int)
  · rw [decide_eq_true (show n ≥ 0 by omega), decide_eq_true hc, decide_eq_false (show ¬ (s.2.1.length : Int) ≤ n by omega)]
    rfl
  · rw [decide_eq_false hc, decide_eq_true (show (s.2.1.length : Int) ≤ n by omega), decide_eq_true (show n ≤ ((s.2.1.length + s.2.2.1.length : Nat) : Int) - 1 by omega)]
    simp
def headB (w : TW) (n : Int) (q : List (Int × Int × Int × Int × Int × Int)) : ByteArray := (((if site w.1 n then (⟨#[103]⟩ : ByteArray) else ⟨#[115]⟩) ++ itoaB n) ++ (⟨#[32, 113]⟩ : ByteArray)) ++ itoaB (q.length : Int)
def nodeB (w : TW) (n : Int) : ByteArray := if isIdx n (nodes w.1) then match w.2.2.2.2.2.1[n.toNat]? with
    | some q => if site w.1 n then headB w n q else match w.2.2.2.2.1[n.toNat]? with
      | some b => headB w n q ++ ((⟨#[32, 98]⟩ : ByteArray) ++ itoaB b.1)
      | none => headB w n q
    | none => ⟨#[]⟩
  else ⟨#[]⟩
structure NodeOk (w : TW) (n : Int) : Prop where
  n : ok64 n
  b : ∀ x ∈ w.2.2.2.2.1, ok64 x.1
  s1 : w.1.2.1.length ≤ 1048576
  s2 : w.1.2.2.1.length ≤ 1048576
  q : ∀ x ∈ w.2.2.2.2.2.1, x.length ≤ 1048576
theorem ok_len {n : Nat} (h : n ≤ 1048576) : ok64 (n : Int) := ⟨by omega, by omega⟩
theorem fsFormatNode {k : Nat} {w : TW} {n : Int} (H : NodeOk w n) (hk : 60 ≤ k) : FsFormatNode k w n = some (nodeB w n) := by
  obtain ⟨k, rfl⟩ := pred (d := 0) (show 1 ≤ k by omega)
  have g0 := itoaB_size H.n
  have hi : Fsl1In k n 0 (IntKind.i64.wrap (nodes w.1 - 1)) = some (isIdx n (nodes w.1)) := by
    rw [fsl1In _ _ _ (by omega), nodes_nat H.s1 H.s2, inR_last n (by have := H.s1; have := H.s2; omega)]
  rw [esFormatNode, fsNodesOf _ (by omega), Option.bind_some, hi, Option.bind_some]
  unfold nodeB
  cases hx : isIdx n (nodes w.1) with
  | false => rfl
  | true =>
    have hx' := hx
    rw [nodes_nat H.s1 H.s2] at hx'
    have hp := (isIdx_pos hx').1
    rw [if_pos (by decide), if_pos rfl]
    by_cases hq : n.toNat < w.2.2.2.2.2.1.length
    · have e : w.2.2.2.2.2.1[n.toNat]? = some w.2.2.2.2.2.1[n.toNat] := List.getElem?_eq_getElem hq
      have oq := ok_len (H.q _ (List.getElem_mem hq))
      have z1 := itoaB_size oq
      rw [if_neg (by simp; omega), fsIsSite _ _ (by omega), Option.bind_some, e]
      dsimp only
      unfold headB
      cases hs : site w.1 n with
      | true =>
        rw [if_pos rfl, if_pos rfl, if_pos rfl, fsFormatInt H.n (by omega), Option.bind_some, if_pos (by simp only [ByteArray.size_append, sz1, sz2]; omega), if_pos (by simp only [ByteArray.size_append, sz1, sz2]; omega), if_pos hp, ix_at hq, fsFormatInt oq (by omega), Option.bind_some, if_pos (by simp only [ByteArray.size_append, sz1, sz2]; omega), Option.bind_some, if_neg (by decide)]
      | false =>
        rw [if_neg (by decide), if_neg (by decide), if_neg (by decide), fsFormatInt H.n (by omega), Option.bind_some, if_pos (by simp only [ByteArray.size_append, sz1, sz2]; omega), if_pos (by simp only [ByteArray.size_append, sz1, sz2]; omega), if_pos hp, ix_at hq, fsFormatInt oq (by omega), Option.bind_some, if_pos (by simp only [ByteArray.size_append, sz1, sz2]; omega), Option.bind_some, if_pos (by decide)]
        by_cases hb : n.toNat < w.2.2.2.2.1.length
        · have eb : w.2.2.2.2.1[n.toNat]? = some w.2.2.2.2.1[n.toNat] := List.getElem?_eq_getElem hb
          have ob := H.b _ (List.getElem_mem hb)
          have z2 := itoaB_size ob
          rw [if_pos (by simp; omega), if_pos (by simp only [ByteArray.size_append, sz1, sz2]; omega), if_pos hp, ix_at hb, fsFormatInt ob (by omega), Option.bind_some, if_pos (by simp only [ByteArray.size_append, sz1, sz2]; omega), eb]
          dsimp only
          simp only [ba_assoc]
        · rw [if_neg (by simp; omega), List.getElem?_eq_none (by omega)]
    · rw [if_pos (by simp; omega), List.getElem?_eq_none (by omega)]
theorem fiFormatNode {k : Nat} {w : TW} {n : Int} (H : NodeOk w n) (hk : 60 ≤ k) : FiFormatNode k w n = some (nodeB w n) := by
  obtain ⟨k, rfl⟩ := pred (d := 0) (show 1 ≤ k by omega)
  have g0 := itoaB_size H.n
  rw [eiFormatNode, fiNodesOf _ (by omega), Option.bind_some, fiisIndex _ _ (by omega), Option.bind_some]
  unfold nodeB
  cases hx : isIdx n (nodes w.1) with
  | false => rfl
  | true =>
    have hx' := hx
    rw [nodes_nat H.s1 H.s2] at hx'
    have hp := (isIdx_pos hx').1
    have hsat := sat_site H.s1 H.s2 hx
    rw [if_pos (by decide), if_pos rfl]
    by_cases hq : n.toNat < w.2.2.2.2.2.1.length
    · have e : w.2.2.2.2.2.1[n.toNat]? = some w.2.2.2.2.2.1[n.toNat] := List.getElem?_eq_getElem hq
      have oq := ok_len (H.q _ (List.getElem_mem hq))
      have z1 := itoaB_size oq
      rw [if_neg (by simp; omega), fiIsSite _ _ (by omega), Option.bind_some, e]
      dsimp only
      unfold headB
      cases hs : site w.1 n with
      | true =>
        rw [hs] at hsat
        rw [if_pos rfl, if_pos rfl, if_pos rfl, fiFormatInt H.n (by omega), Option.bind_some, if_pos (by simp only [ByteArray.size_append, sz1, sz2]; omega), if_pos hp, ix_at hq, fiFormatInt oq (by omega), Option.bind_some, if_pos (by simp only [ByteArray.size_append, sz1, sz2]; omega), if_pos (by simp only [ByteArray.size_append, sz1, sz2]; omega), fiisSatellite _ _ (by have := H.s1; omega) (by omega), hsat, Option.bind_some, if_neg (by decide)]
        simp only [ba_assoc]
      | false =>
        rw [hs] at hsat
        rw [if_neg (by decide), if_neg (by decide), if_neg (by decide), fiFormatInt H.n (by omega), Option.bind_some, if_pos (by simp only [ByteArray.size_append, sz1, sz2]; omega), if_pos hp, ix_at hq, fiFormatInt oq (by omega), Option.bind_some, if_pos (by simp only [ByteArray.size_append, sz1, sz2]; omega), if_pos (by simp only [ByteArray.size_append, sz1, sz2]; omega), fiisSatellite _ _ (by have := H.s1; omega) (by omega), hsat, Option.bind_some, if_pos (by decide)]
        by_cases hb : n.toNat < w.2.2.2.2.1.length
        · have eb : w.2.2.2.2.1[n.toNat]? = some w.2.2.2.2.1[n.toNat] := List.getElem?_eq_getElem hb
          have ob := H.b _ (List.getElem_mem hb)
          have z2 := itoaB_size ob
          rw [if_pos (by simp; omega), if_pos hp, ix_at hb, fiFormatInt ob (by omega), Option.bind_some, if_pos (by simp only [ByteArray.size_append, sz1, sz2]; omega), if_pos (by simp only [ByteArray.size_append, sz1, sz2]; omega), eb]
          dsimp only
          simp only [ba_assoc]
        · rw [if_neg (by simp; omega), List.getElem?_eq_none (by omega)]
          simp only [ba_assoc]
    · rw [if_pos (by simp; omega), List.getElem?_eq_none (by omega)]
theorem ok_batt {P : Program} {e : Nat} {xs : List (Int × Int × Int × Int × Int × Int)} (h : wfT P (.l e sI6) xs) : ∀ d ∈ xs, ok64 d.1 := by
  intro d hd
  have h1 : inL (wfT P sI6) (P.bytesOf e) xs := by simpa only [wfT] using h
  exact ok_wf (P := P) (h1.2 d hd).1
theorem lFnExactFormatNode {P : Program} (w : TW) (n : Int) (hr : rowsLe 140737488351232 sLWorld w) (hw : wfT P sLWorld w) (hn : wfT P (.i .i64) n) : ∃ k, FlFnExactFormatNode k w n = some true := by
  refine ⟨3 * szT sLWorld w + 3000, ?_⟩
  rw [elFnExactFormatNode, zlszWorld _ w 1048576 hr (by omega) (by omega) (by omega), Option.bind_some]
  by_cases hz : szT sLWorld w ≤ 1048576
  · rw [szR_pos (by omega), if_neg (by simp; omega)]
    have hrow := rows_le sLWorld w _ (Nat.le_refl _)
    have h1 : w.1.2.1.length ≤ szT sLWorld w := (rowsLe_row hrow.1.2.1).1
    have h2 : w.1.2.2.1.length ≤ szT sLWorld w := (rowsLe_row hrow.1.2.2.1).1
    have h3 : ∀ x ∈ w.2.2.2.2.2.1, rowsLe (szT sLWorld w) sLQueue x := (rowsLe_row hrow.2.2.2.2.2.1).2
    have e60 : szT sWorld w = szT sLWorld w := rfl
    have H : NodeOk w n := ⟨ok_wf hn, ok_batt hw.2.2.2.2.1, by omega, by omega, fun x hx => by have h4 : rowsLe (szT sLWorld w) (.l 144 sI6) x := h3 x hx; exact Nat.le_trans (rowsLe_row h4).1 hz⟩
    have tw := tltoWorld (3 * szT sLWorld w + 2999) w hz (by omega)
    have hs := fsFormatNode (k := 3 * szT sLWorld w + 2999) H (by omega)
    have hi := fiFormatNode (k := 3 * szT sLWorld w + 2999) H (by omega)
    have qw := qleqWorld (3 * szT sLWorld w + 2999) w (by rw [e60]; omega) (by rw [e60]; omega)
    simp only [tw, hs, hi, qw, Option.bind_some, beq_self_eq_true, Bool.not_true, Bool.false_eq_true, if_false]
  · rw [szR_neg (by omega), if_pos (by decide)]
/-! ### joined texts -/
def jstep (sep s : ByteArray) (i : Nat) (y : ByteArray) : ByteArray := if i = 0 then s ++ y else (s ++ sep) ++ y
def jfrom (sep : ByteArray) : ByteArray → Nat → List ByteArray → ByteArray
  | s, _, [] => s
  | s, i, y :: r => jfrom sep (jstep sep s i y) (i + 1) r
theorem jfrom_tail (sep : ByteArray) : ∀ (r : List ByteArray) (s : ByteArray) (i : Nat), 0 < i → (jfrom sep s i r).data.toList = s.data.toList ++ Lib.joinTail sep.data.toList (r.map (·.data.toList))
  | [], s, i, _ => by simp [jfrom, Lib.joinTail]
  | y :: r, s, i, h => by
    rw [jfrom, jfrom_tail sep r _ (i + 1) (by omega)]
    unfold jstep
    rw [if_neg (by omega)]
    simp [Lib.joinTail]
theorem joinB_eq (sep : ByteArray) (xs : List ByteArray) : joinB xs sep = jfrom sep ⟨#[]⟩ 0 xs := by
  cases xs with
  | nil => rfl
  | cons x r =>
    apply ba_ext
    apply Array.toList_inj.1
    rw [jfrom, jfrom_tail sep r _ 1 (by omega)]
    unfold joinB jstep
    rw [List.map_cons, Lib.join_cons, if_pos rfl]
    simp
theorem jstep_size (sep s : ByteArray) (i : Nat) (y : ByteArray) : (jstep sep s i y).size ≤ s.size + (sep.size + y.size) := by
  unfold jstep
  split
  · rw [ByteArray.size_append]; omega
  · rw [ByteArray.size_append, ByteArray.size_append]; omega
theorem jfrom_size (sep : ByteArray) (B : Nat) : ∀ (r : List ByteArray) (s : ByteArray) (i : Nat), (∀ y ∈ r, y.size ≤ B) → (jfrom sep s i r).size ≤ s.size + (sep.size + B) * r.length
  | [], s, i, _ => by rw [jfrom]; omega
  | y :: r, s, i, h => by
    have h1 := jfrom_size sep B r (jstep sep s i y) (i + 1) fun z hz => h z (List.mem_cons_of_mem _ hz)
    have h2 := jstep_size sep s i y
    have h3 := h y (List.mem_cons_self ..)
    rw [jfrom, List.length_cons, Nat.mul_succ]
    omega
theorem joinB_size {xs : List ByteArray} {sep : ByteArray} (hl : xs.length ≤ 1048576) (hs : sep.size ≤ 10) (hy : ∀ y ∈ xs, y.size ≤ 44) : (joinB xs sep).size ≤ 56623104 := by
  rw [joinB_eq]
  have h1 := jfrom_size sep 44 xs ⟨#[]⟩ 0 hy
  have h2 : (⟨#[]⟩ : ByteArray).size = 0 := rfl
  have h3 : (sep.size + 44) * xs.length ≤ 54 * 1048576 := Nat.mul_le_mul (by omega) hl
  omega
theorem fgJoin {k : Nat} {xs : List ByteArray} {sep : ByteArray} (hl : xs.length ≤ 1048576) (hs : sep.size ≤ 10) (hy : ∀ y ∈ xs, y.size ≤ 44) (hk : 1 ≤ k) : FgJoin k xs sep = some (joinB xs sep) := by
  obtain ⟨k, rfl⟩ := pred (d := 0) hk
  have := joinB_size hl hs hy
  rw [egJoin, if_pos (by omega), if_pos (by omega)]
theorem drop_map {α β : Type} (f : α → β) {l : List α} {i : Nat} (h : i < l.length) : (l.map f).drop i = f l[i] :: (l.map f).drop (i + 1) := by
  rw [List.drop_eq_getElem_cons (by simpa using h)]
  simp
theorem fsl39Join {k : Nat} (l : List Int) (sep : ByteArray) (hs : sep.size ≤ 10) (h : ∀ x ∈ l, ok64 x) (hl : l.length ≤ 1048576) (hk : l.length + 60 ≤ k) : Fsl39Join k l sep = some (joinB (l.map itoaB) sep) := by
  obtain ⟨k, rfl⟩ := pred (d := 0) (show 1 ≤ k by omega)
  rw [joinB_eq]
  refine (esl39Join k l sep).trans (up_inv0 (len := l.length) (fun (s : ByteArray) i => (s, i)) (fun s i => some (jfrom sep s i ((l.map itoaB).drop i))) (fun s i => s.size ≤ 40 * i) (by omega) (fun m i s hI hi hn0 hn hw ih => ?_) (by omega) _ (by decide))
  show Bsl39Join_0 k _ _ _ _ = _
  unfold Bsl39Join_0
  dsimp only
  by_cases hlt : i < l.length
  · have hx : l[i]? = some l[i] := List.getElem?_eq_getElem hlt
    have hok : ok64 l[i] := h _ (List.getElem_mem hlt)
    have z1 := itoaB_size hok
    rw [if_pos (by simpa using hlt), drop_map itoaB hlt, jfrom]
    by_cases h0 : i = 0
    · rw [if_neg (by simp; omega), if_pos hn0, hn, ix_some hx, fsFormatInt hok (by omega), Option.bind_some, if_pos (by omega), hw, ih hlt _ (by simp only [ByteArray.size_append]; omega)]
      unfold jstep
      rw [if_pos h0]
    · rw [if_pos (by simp; omega), if_pos (by omega), if_pos hn0, hn, ix_some hx, fsFormatInt hok (by omega), Option.bind_some, if_pos (by simp only [ByteArray.size_append]; omega), hw, ih hlt _ (by simp only [ByteArray.size_append]; omega)]
      unfold jstep
      rw [if_neg h0]
  · have : i = l.length := by omega
    subst this
    rw [if_neg (by simp), List.drop_eq_nil_of_le (by simp), jfrom]
/-! ### FormatWorld -/
def waits (q : List (List (Int × Int × Int × Int × Int × Int))) (s : Int) : Int := q.foldl (fun s x => IntKind.i64.wrap (s + (x.length : Int))) s
theorem wrap_ok (n : Int) : ok64 (IntKind.i64.wrap n) := by
  unfold ok64
  rw [IntKind.wrap_i64]
  omega
theorem waits_ok : ∀ (q : List (List (Int × Int × Int × Int × Int × Int))) (s : Int), ok64 s → ok64 (waits q s)
  | [], s, h => h
  | x :: q, s, _ => waits_ok q _ (wrap_ok _)
theorem fsWaitingIn {k : Nat} (w : TW) (hl : w.2.2.2.2.2.1.length ≤ 1048576) (hk : w.2.2.2.2.2.1.length + 2 ≤ k) : FsWaitingIn k w = some (waits w.2.2.2.2.2.1 0) := by
  obtain ⟨k, rfl⟩ := pred (d := 0) (show 1 ≤ k by omega)
  refine (esWaitingIn k w).trans (row_inv0 (a := w.2.2.2.2.2.1) (fun (s : Int) i => (s, i)) (fun s _ l => some (waits l s)) (fun _ _ => True) (fun _ _ _ => rfl) (by omega) (fun _ _ => rfl) (fun m i s x r hI h0 hn hw hi hx ih => ?_) (by omega) 0 trivial)
  dsimp only
  rw [hw, ih _ trivial]
  rfl
theorem fiWaitingIn {k : Nat} (w : TW) (hl : w.2.2.2.2.2.1.length ≤ 1048576) (hk : w.2.2.2.2.2.1.length + 2 ≤ k) : FiWaitingIn k w = some (waits w.2.2.2.2.2.1 0) := by
  obtain ⟨k, rfl⟩ := pred (d := 0) (show 1 ≤ k by omega)
  refine (eiWaitingIn k w).trans (row_inv0 (a := w.2.2.2.2.2.1) (fun (s : Int) i => (s, i)) (fun s _ l => some (waits l s)) (fun _ _ => True) (fun _ _ _ => rfl) (by omega) (fun _ _ => rfl) (fun m i s x r hI h0 hn hw hi hx ih => ?_) (by omega) 0 trivial)
  dsimp only
  rw [hw, ih _ trivial]
  rfl
abbrev qNow (w : TW) := w.2.2.2.2.2.2.2.2.2.2.1
abbrev qEnd (w : TW) := w.2.2.2.2.2.2.2.2.2.2.2.1
def worldHead (w : TW) : ByteArray := ((((((((itoaB w.2.2.2.2.2.2.2.2.2.2.1 ++ (⟨#[47]⟩ : ByteArray)) ++ itoaB w.2.2.2.2.2.2.2.2.2.2.2.1) ++ (⟨#[32]⟩ : ByteArray)) ++ itoaB (waits w.2.2.2.2.2.1 0)) ++ (⟨#[32]⟩ : ByteArray)) ++ itoaB (w.2.2.2.2.2.2.2.2.2.2.2.2.1.length : Int)) ++ (⟨#[32]⟩ : ByteArray)) ++ itoaB (w.2.2.2.2.2.2.2.2.2.2.2.2.2.length : Int)) ++ (⟨#[32]⟩ : ByteArray)
def worldB (w : TW) : ByteArray := worldHead w ++ joinB (w.2.2.2.2.1.map fun b => itoaB b.1) ⟨#[44]⟩
structure WorldOk (w : TW) : Prop where
  b : ∀ x ∈ w.2.2.2.2.1, ok64 x.1
  now : ok64 w.2.2.2.2.2.2.2.2.2.2.1
  fin : ok64 w.2.2.2.2.2.2.2.2.2.2.2.1
  q : w.2.2.2.2.2.1.length ≤ 1048576
  d : w.2.2.2.2.2.2.2.2.2.2.2.2.1.length ≤ 1048576
  l : w.2.2.2.2.2.2.2.2.2.2.2.2.2.length ≤ 1048576
  n : w.2.2.2.2.1.length ≤ 1048576
theorem fsFormatWorld {k : Nat} {w : TW} (H : WorldOk w) (hk : w.2.2.2.2.2.1.length + w.2.2.2.2.1.length + 100 ≤ k) : FsFormatWorld k w = some (worldB w) := by
  obtain ⟨k, rfl⟩ := pred (d := 0) (show 1 ≤ k by omega)
  refine (esFormatWorld k w).trans ((row_inv0 (a := w.2.2.2.2.1) (fun (s : List Int) i => (i, s)) (fun s _ l => some (worldHead w ++ joinB ((s ++ l.map (·.1)).map itoaB) ⟨#[44]⟩)) (fun s i => s.length = i ∧ ∀ x ∈ s, ok64 x) (fun _ _ _ => rfl) (by have := H.n; omega) (fun s hI => ?_) (fun m i s x r hI h0 hn hw hi hx ih => ?_) (by omega) [] (by simp)).trans (by unfold worldB; simp [Function.comp_def]))
  · have hj := fsl39Join (k := k) s ⟨#[44]⟩ (by decide) hI.2 (by have := H.n; omega) (by omega)
    have zj := joinB_size (xs := s.map itoaB) (sep := ⟨#[44]⟩) (by have := H.n; simp; omega) (by decide) (by
      intro y hy
      obtain ⟨x, hx, rfl⟩ := List.mem_map.1 hy
      have := itoaB_size (hI.2 x hx)
      omega)
    have a1 := itoaB_size H.now
    have a2 := itoaB_size H.fin
    have ow := waits_ok w.2.2.2.2.2.1 0 ⟨by decide, by decide⟩
    have a3 := itoaB_size ow
    have a4 := itoaB_size (ok_len H.d)
    have a5 := itoaB_size (ok_len H.l)
    dsimp only
    rw [fsFormatInt H.now (by omega), Option.bind_some, if_pos (by simp only [ByteArray.size_append, sz1]; omega), fsFormatInt H.fin (by omega), Option.bind_some, if_pos (by simp only [ByteArray.size_append, sz1]; omega), if_pos (by simp only [ByteArray.size_append, sz1]; omega), fsWaitingIn w H.q (by omega), Option.bind_some, fsFormatInt ow (by omega), Option.bind_some, if_pos (by simp only [ByteArray.size_append, sz1]; omega), if_pos (by simp only [ByteArray.size_append, sz1]; omega), fsFormatInt (ok_len H.d) (by omega), Option.bind_some, if_pos (by simp only [ByteArray.size_append, sz1]; omega), if_pos (by simp only [ByteArray.size_append, sz1]; omega), fsFormatInt (ok_len H.l) (by omega), Option.bind_some, if_pos (by simp only [ByteArray.size_append, sz1]; omega), if_pos (by simp only [ByteArray.size_append, sz1]; omega), hj, Option.bind_some, if_pos (by simp only [ByteArray.size_append, sz1]; omega), List.map_nil, List.append_nil]
    rfl
  · dsimp only
    have hox := H.b x (List.mem_of_getElem? hx)
    rw [if_pos (by have := hI.1; have := H.n; simp; omega), hw, ih (s ++ [x.1]) ⟨by simp [hI.1], by
      intro y hy
      rcases List.mem_append.1 hy with h | h
      · exact hI.2 y h
      · rw [List.mem_singleton.1 h]; exact hox⟩]
    simp
theorem fiFormatWorld {k : Nat} {w : TW} (H : WorldOk w) (hk : w.2.2.2.2.2.1.length + w.2.2.2.2.1.length + 100 ≤ k) : FiFormatWorld k w = some (worldB w) := by
  obtain ⟨k, rfl⟩ := pred (d := 0) (show 1 ≤ k by omega)
  refine (eiFormatWorld k w).trans ((row_inv0 (a := w.2.2.2.2.1) (fun (s : List ByteArray) i => (i, s)) (fun s _ l => some (worldHead w ++ joinB (s ++ l.map fun b => itoaB b.1) ⟨#[44]⟩)) (fun s i => s.length = i ∧ ∀ x ∈ s, x.size ≤ 44) (fun _ _ _ => rfl) (by have := H.n; omega) (fun s hI => ?_) (fun m i s x r hI h0 hn hw hi hx ih => ?_) (by omega) [] (by simp)).trans (by unfold worldB; simp))
  · have hj := fgJoin (k := k) (xs := s) (sep := ⟨#[44]⟩) (by have := H.n; omega) (by decide) hI.2 (by omega)
    have zj := joinB_size (xs := s) (sep := ⟨#[44]⟩) (by have := H.n; omega) (by decide) hI.2
    have a1 := itoaB_size H.now
    have a2 := itoaB_size H.fin
    have ow := waits_ok w.2.2.2.2.2.1 0 ⟨by decide, by decide⟩
    have a3 := itoaB_size ow
    have a4 := itoaB_size (ok_len H.d)
    have a5 := itoaB_size (ok_len H.l)
    dsimp only
    rw [fiFormatInt H.now (by omega), Option.bind_some, if_pos (by simp only [ByteArray.size_append, sz1]; omega), fiFormatInt H.fin (by omega), Option.bind_some, if_pos (by simp only [ByteArray.size_append, sz1]; omega), if_pos (by simp only [ByteArray.size_append, sz1]; omega), fiWaitingIn w H.q (by omega), Option.bind_some, fiFormatInt ow (by omega), Option.bind_some, if_pos (by simp only [ByteArray.size_append, sz1]; omega), if_pos (by simp only [ByteArray.size_append, sz1]; omega), fiFormatInt (ok_len H.d) (by omega), Option.bind_some, if_pos (by simp only [ByteArray.size_append, sz1]; omega), if_pos (by simp only [ByteArray.size_append, sz1]; omega), fiFormatInt (ok_len H.l) (by omega), Option.bind_some, if_pos (by simp only [ByteArray.size_append, sz1]; omega), if_pos (by simp only [ByteArray.size_append, sz1]; omega), hj, Option.bind_some, if_pos (by simp only [ByteArray.size_append, sz1]; omega), List.map_nil, List.append_nil]
    rfl
  · dsimp only
    have hox := H.b x (List.mem_of_getElem? hx)
    have z := itoaB_size hox
    rw [fiFormatInt hox (by omega), Option.bind_some, if_pos (by have := hI.1; have := H.n; simp; omega), hw, ih (s ++ [itoaB x.1]) ⟨by simp [hI.1], by
      intro y hy
      rcases List.mem_append.1 hy with h | h
      · exact hI.2 y h
      · rw [List.mem_singleton.1 h]; omega⟩]
    simp
theorem lFnExactFormatWorld {P : Program} (w : TW) (hr : rowsLe 140737488351232 sLWorld w) (hw : wfT P sLWorld w) : ∃ k, FlFnExactFormatWorld k w = some true := by
  refine ⟨3 * szT sLWorld w + 3000, ?_⟩
  rw [elFnExactFormatWorld, zlszWorld _ w 1048576 hr (by omega) (by omega) (by omega), Option.bind_some]
  by_cases hz : szT sLWorld w ≤ 1048576
  · rw [szR_pos (by omega), if_neg (by simp; omega)]
    have hrow := rows_le sLWorld w _ (Nat.le_refl _)
    have h1 : w.2.2.2.2.1.length ≤ szT sLWorld w := (rowsLe_row hrow.2.2.2.2.1).1
    have h2 : w.2.2.2.2.2.1.length ≤ szT sLWorld w := (rowsLe_row hrow.2.2.2.2.2.1).1
    have h3 : w.2.2.2.2.2.2.2.2.2.2.2.2.1.length ≤ szT sLWorld w := (rowsLe_row hrow.2.2.2.2.2.2.2.2.2.2.2.2.1).1
    have h4 : w.2.2.2.2.2.2.2.2.2.2.2.2.2.length ≤ szT sLWorld w := (rowsLe_row hrow.2.2.2.2.2.2.2.2.2.2.2.2.2).1
    have e60 : szT sWorld w = szT sLWorld w := rfl
    have H : WorldOk w := ⟨ok_batt hw.2.2.2.2.1, ok_wf hw.2.2.2.2.2.2.2.2.2.2.1, ok_wf hw.2.2.2.2.2.2.2.2.2.2.2.1, by omega, by omega, by omega, by omega⟩
    have tw := tltoWorld (3 * szT sLWorld w + 2999) w hz (by omega)
    have hs := fsFormatWorld (k := 3 * szT sLWorld w + 2999) H (by omega)
    have hi := fiFormatWorld (k := 3 * szT sLWorld w + 2999) H (by omega)
    have qw := qleqWorld (3 * szT sLWorld w + 2999) w (by rw [e60]; omega) (by rw [e60]; omega)
    simp only [tw, hs, hi, qw, Option.bind_some, beq_self_eq_true, Bool.not_true, Bool.false_eq_true, if_false]
  · rw [szR_neg (by omega), if_pos (by decide)]
end Go.Proofs.YtajfchgmnembgaaGreatDoor.World
namespace Go.Proofs.YtajfchgmnembgaaGreatDoor.World
open Go Go.V Go.Proofs
open Go.ChangeShapes Go.WideShapes Go.ChangeAt Go.RowKit
set_option linter.unusedVariables false
set_option maxRecDepth 100000
theorem tyOk : ∀ t i, E.ty t = some i → TyOk E.P t i := by
  intro t i h
  replace h : ty t = some i := h
  unfold ty at h
  split at h <;> first | (cases h; done) | (cases h; exact ⟨by kernel_rfl, by kernel_rfl⟩)
theorem fn0Ok : ∀ f F, fn0 f = some F → E.P.funcs[f]? = some F ∧ F.name ≠ "runtime.NumGoroutine" ∧ ∀ c, F.body = some c → codeOk c = true := by
  intro f F h
  unfold fn0 at h
  split at h <;> first | (cases h; done) | (cases h; exact ⟨by kernel_rfl, of_decide_eq_true (by kernel_rfl), fun c hc => by cases hc; kernel_rfl⟩)
theorem fn1Ok : ∀ f F, fn1 f = some F → E.P.funcs[f]? = some F ∧ F.name ≠ "runtime.NumGoroutine" ∧ ∀ c, F.body = some c → codeOk c = true := by
  intro f F h
  unfold fn1 at h
  split at h <;> first | (cases h; done) | (cases h; exact ⟨by kernel_rfl, of_decide_eq_true (by kernel_rfl), fun c hc => by cases hc; kernel_rfl⟩)
theorem fnOk : ∀ f F, E.fn f = some F → E.P.funcs[f]? = some F ∧ F.name ≠ "runtime.NumGoroutine" ∧ ∀ c, F.body = some c → codeOk c = true := by
  intro f F h
  replace h : fn f = some F := h
  unfold fn at h
  split at h
  · rename_i F' hF
    rw [← Option.some.inj h]
    exact fn0Ok f F' hF
  exact fn1Ok f F h
theorem envOk : EnvOk E := ⟨tyOk, fun f F h => (fnOk f F h).1, fun f F h => (fnOk f F h).2.1, by kernel_rfl⟩
theorem gPow : Tryz.prog.globalNamed "internal/strconv.uint64pow10" = some 1 := by kernel_rfl
theorem tabs_of {w : World} {L : List Nat} (h : TabW E w L) : Lib.TabIs Tryz.prog w "internal/strconv.uint64pow10" .u64 Lib.pow10Tab := by
  obtain ⟨⟨ty, fr, h1⟩, _⟩ := h (1, (Lib.pow10Tab.map fun z => Value.int .u64 z).toArray) (List.mem_singleton.2 rfl)
  unfold Lib.TabIs World.var?
  rw [gPow]
  simp only [Option.bind_some]
  rw [show w.heap[1]? = _ from h1]
theorem chg_grow (w : World) (k : Nat) (os : Array Obj) : Chg [] w (Sort.grow (w.drewN k) os) :=
  ⟨rfl, rfl, rfl, by simp [Sort.grow, World.drewN], fun j hj _ => by
    show (w.heap ++ os)[j]? = w.heap[j]?
    rw [Array.getElem?_append_left hj]⟩
theorem itoa_sound : Sound1 E 76 extItoa := by
  intro xs p hp
  unfold extItoa at hp
  split at hp
  · rename_i n
    split at hp
    · rename_i h0
      split at hp
      · rename_i h1
        cases hp
        refine ⟨⟨Tryz.f76, Tryz.func76, of_decide_eq_true (by kernel_rfl), by kernel_rfl⟩, fun G w us L0 htab hargs hnd hL0 => ?_⟩
        obtain ⟨ha, _, rfl⟩ : All2 (VA w G fun _ => undef) [AV.c (.v (.int .i64 n))] us ∧ (∀ x ∈ [AV.c (.v (.int .i64 n))], AV.lt 0 x) ∧ L0 = [] := hargs
        match us, ha with
        | [u], ha =>
          have hu : rep w G (.v (.int .i64 n)) u := ha.1
          simp only [rep] at hu
          obtain ⟨rfl, _⟩ := hu
          refine (Tryz.strconv_Itoa n h0 h1 w (tabs_of htab)).mono ?_
          rintro e w' ⟨rfl, k, os, rfl⟩
          refine ⟨_, rfl, chg_grow w k os, [.string (itoaB n)], rfl, rfl, ?_⟩
          exact ⟨[.string (itoaB n)], rfl, by simp only [repT]⟩
      · cases hp
    · cases hp
  · cases hp
theorem spot_of {w : World} {a : Addr} {v : Value} (h : w.cell? a = some v) : a = ⟨a.block, a.off, none⟩ := by
  unfold World.cell? at h
  split at h
  · split at h
    · cases h
    · rename_i hs
      have e : a.spot = none := by cases hh : a.spot with
        | none => rfl
        | some s => rw [hh] at hs; exact absurd rfl hs
      cases a
      simp at e
      rw [e]
  · cases h
theorem add_none (b o n : Nat) : (⟨b, o, none⟩ : Addr).add n = ⟨b, o + n, none⟩ := by
  unfold Addr.add
  split
  · rename_i h; rw [h]; rfl
  · rfl
theorem join_sound : Sound1 E 57 extJoin := by
  intro xs p hp
  unfold extJoin at hp
  split at hp
  · rename_i e xs sep
    split at hp
    · rename_i h0
      split at hp
      · rename_i h1
        cases hp
        refine ⟨⟨Tryz.f57, Tryz.func57, of_decide_eq_true (by kernel_rfl), by kernel_rfl⟩, fun G w us L0 htab hargs hnd hL0 => ?_⟩
        obtain ⟨ha, _, rfl⟩ : All2 (VA w G fun _ => undef) [AV.c (.l e .s xs), AV.c (.v (.string sep))] us ∧ (∀ x ∈ [AV.c (.l e .s xs), AV.c (.v (.string sep))], AV.lt 0 x) ∧ L0 = [] := hargs
        match us, ha with
        | [u, v], ha =>
          have hu : rep w G (.l e .s xs) u := ha.1
          have hv : rep w G (.v (.string sep)) v := ha.2.1
          simp only [rep] at hu hv
          obtain ⟨rfl, _⟩ := hv
          obtain ⟨A, c, rfl, g1, g2, g3⟩ := hu
          have key : Calls Tryz.prog 57 #[.slice A (List.length (α := ByteArray) xs) c, .string sep] w fun e w' => e = .returned (.string (joinB xs sep)) ∧ Chg [] w w' := by
            by_cases hx : List.length (α := ByteArray) xs = 0
            · have e0 : (xs : List ByteArray) = [] := List.eq_nil_of_length_eq_zero hx
              have ej : joinB xs sep = ⟨#[]⟩ := by rw [e0]; rfl
              rw [hx, ej]
              refine (Tryz.strings_Join_none A c sep w).mono ?_
              rintro e w' ⟨rfl, rfl⟩
              exact ⟨rfl, Chg.refl _ _⟩
            · obtain ⟨ad, rfl, h2, h3, h4⟩ := g3 (Nat.pos_of_ne_zero hx)
              have cell : ∀ (j : Nat) (x : ByteArray), (xs : List ByteArray)[j]? = some x → w.cell? (ad.add j) = some (.string x) := by
                intro j x hj
                obtain ⟨vs, r1, r2⟩ := h4 j x hj
                have r1' : vs = [.string x] := by simpa only [repT] using r1
                have := r2 0 (.string x) (by rw [r1']; rfl)
                simpa [Sh.n] using this
              have e1 : ad = ⟨ad.block, ad.off, none⟩ := by
                have hh := cell 0 _ (List.getElem?_eq_getElem (Nat.pos_of_ne_zero hx))
                exact spot_of (show w.cell? ad = _ from hh)
              rw [e1]
              refine (Tryz.strings_Join ad.block ad.off c xs sep w (fun j x hj => ?_) h3 h0 g1 (by simpa [joinB, ByteArray.size] using h1)).mono ?_
              · have hh := cell j x hj
                rw [e1, add_none] at hh
                exact hh
              · rintro e w' ⟨rfl, hb⟩
                exact ⟨rfl, Chg.of_below hb _⟩
          refine key.mono ?_
          rintro e w' ⟨rfl, hb⟩
          refine ⟨_, rfl, hb, [.string (joinB xs sep)], rfl, rfl, ?_⟩
          exact ⟨[.string (joinB xs sep)], rfl, by simp only [repT]⟩
      · cases hp
    · cases hp
  · cases hp
theorem extOk : ∀ f g, E.ext f = some g → Sound1 E f g := by
  intro f g h
  replace h : ext f = some g := h
  unfold ext at h
  split at h
  · cases h
    exact join_sound
  · cases h
    exact itoa_sound
  · cases h
theorem sound (k : Nat) : CallOk E (den E k) := den_sound envOk (fun f F c h => (fnOk f F h).2.2 c) extOk k
abbrev laid3 : List (String × DataW Unit) := YtajfchgmnembgaaGreatDoor.Rows.fnExactFormatNodeRow.laid
theorem tPow : (Tryz.prog.globals[1]?).map (·.type) = some 236 := by kernel_rfl
theorem laid_tab {w : World} (h : laidMetH Tryz.prog laid3 w) : TabW E w [] := by
  rw [MakeChecks.laidMetH_plain _ _ _ (by kernel_rfl)] at h
  obtain ⟨ps, ⟨g0, t0, cs0, f0, p0, q0, hg0, ht0, hv0, hd0, ⟨g1, t1, cs1, f1, p1, q1, hg1, ht1, hv1, hd1, ⟨g2, t2, cs2, f2, p2, q2, hg2, ht2, hv2, hd2, _, _⟩, _⟩, _⟩, _, _⟩ := h
  obtain rfl := Option.some.inj (gPow.symm.trans hg2)
  obtain rfl := Option.some.inj (tPow.symm.trans ht2)
  have hcs := Lib.cells_of_tab (n := 20) (e := 227) (k := .u64) (zs := Lib.pow10Tab) Tryz.underlying236 Tryz.underlying227 (by kernel_rfl) (by kernel_rfl) hd2
  intro p hp
  obtain rfl : p = (1, (Lib.pow10Tab.map fun z => Value.int .u64 z).toArray) := List.mem_singleton.1 hp
  refine ⟨?_, by simp⟩
  unfold World.var? at hv2
  rw [gPow] at hv2
  simp only [Option.bind_some] at hv2
  split at hv2
  · rename_i cs ty fr hh
    have : cs = cs2 := Option.some.inj hv2
    refine ⟨ty, fr, ?_⟩
    rw [show w.heap[1]? = some (.cells cs ty fr) from hh, this]
    congr 2
    rw [← hcs]
  · cases hv2
end Go.Proofs.YtajfchgmnembgaaGreatDoor.World
namespace Go.Proofs.YtajfchgmnembgaaGreatDoor.World
open Go Go.V Go.Proofs
open Go.ChangeShapes Go.WideShapes Go.ChangeAt Go.RowKit
set_option linter.unusedVariables false
set_option maxRecDepth 100000
theorem walk4 {k : Nat} {y0 : TW} (h : FlFnExactFormatWorld k y0 = some true) {W : World} (htab : TabW E W []) {v0 : Value} (h0 : VA W (fun _ => True) (fun _ => undef) (argAV sLWorld y0) v0) (l0 : (argAV sLWorld y0).lt 0) :
    Calls Tryz.prog 4 #[v0] W fun e W' => e = .returned (.bool true) ∧ Go.RowKit.Below W.heap.size W W' := by
  have hs := (sound k) 4 [argAV sLWorld y0] true h
  refine (hs.2 (fun _ => True) W [v0] [] htab (by
    show ArgsT W (fun _ => True) [] _ _ []
    exact ⟨⟨h0, trivial⟩, by intro x hx; simp at hx; rw [hx]; exact l0, rfl⟩) List.nodup_nil (by simp)).mono ?_
  rintro e W' ⟨v, rfl, hb, hr⟩
  exact ⟨by rw [resOk_bool hr], Chg.below hb⟩
theorem own : ownKnob Tryz.prog.godebug = none := by kernel_rfl
theorem door_met (os : Os) (args : Array Value) : laidMetH Tryz.prog laid3 ((World.doorLaid Tryz.prog 400 os).forCall (fun _ _ => 0) ⟨#[], args, []⟩).memory :=
  laidMetH_of_parts3 (fuel := 8) (laidMet_of_run' 8 (by kernel_rfl) (by kernel_rfl)) (by kernel_rfl) (by kernel_rfl)
theorem lifted (os : Os) (started : os.Started) (H : Type) (enc : TypeId × Value → H) :
    ReturnsInHanded {} Tryz.checked os 4 .any (fun w args => (YtajfchgmnembgaaGreatDoor.Rows.fnExactFormatWorldSpec.pre enc Tryz.prog Tryz.f4 [] false w args ∧ laidMetH Tryz.prog laid3 w) ∧ sizedMet enc Tryz.prog Tryz.f4 (OpenSpec.ofChange YtajfchgmnembgaaGreatDoor.Rows.fnExactFormatWorldSpec) false w args)
      (YtajfchgmnembgaaGreatDoor.Rows.fnExactFormatWorldSpec.post enc Tryz.prog Tryz.f4 false true false false) := by
  refine returnsInHanded_of_change_and (C := Tryz.checked) (X := fun w _ => laidMetH Tryz.prog laid3 w) (fun _ _ _ hh h => h.of_heap hh) own started (by kernel_rfl) Tryz.func4
    (ChangeSpec.witness_shaped (enc := enc) (C := Tryz.checked) (os := os) (X := fun w _ => laidMetH Tryz.prog laid3 w) false (World.doorLaid Tryz.prog 400 os) #[.agg #[(.int .i64 0), (.slice none 0 0), (.slice none 0 0), (.int .i64 0), (.int .i64 0), (.int .i64 0), (.int .i64 0), (.int .i64 0), (.slice none 0 0), (.int .i64 0), (.int .i64 0), (.int .i64 0), (.int .i64 0), (.slice none 0 0), (.slice none 0 0), (.slice none 0 0), (.slice none 0 0), (.slice none 0 0), (.slice none 0 0), (.slice none 0 0), (.slice none 0 0), (.slice none 0 0), (.int .i64 0), (.int .i64 0), (.slice none 0 0), (.slice none 0 0)]] 8 rfl (World.shaped_of_RefB (by kernel_rfl) (by kernel_rfl)) (by kernel_rfl) (by kernel_rfl) (by kernel_rfl) (door_met os _)) ?_
  intro W base args ds gs before hval0 hW hcnd hsz0 hL _
  have hsz : (DataW.weightsEach Tryz.prog (Tryz.f4.params.toList ++ YtajfchgmnembgaaGreatDoor.Rows.fnExactFormatWorldSpec.plain.varTypes Tryz.prog) (ds ++ gs)).all (· ≤ reachBytes) = true := hsz0
  have hval : ∀ (j : Nat) t v, Tryz.f4.params[j]? = some t → args[j]? = some v → Value.okWide Tryz.prog W .any base t v := hval0
  have hW' := hW
  obtain ⟨p, q, hA0, hV, rfl, hfz, hnd⟩ := hW
  have hA : DataW.TrodAll enc Tryz.prog W 0 (fun _ => true) true Tryz.f4.params.toList args.toList ds p := hA0
  have hAA := hA
  rw [Tryz.params4] at hA hval hsz
  obtain ⟨v0, vs0, d0, ds0, p0, q0, hargs, rfl, rfl, h0, r0⟩ := trodAll_cons hA
  obtain ⟨rfl, rfl, rfl⟩ := trodAll_nil r0
  obtain rfl : args = #[v0] := by cases args; simp_all
  obtain ⟨rfl, rfl⟩ := trodVars_none hV
  have hwt0 : ∀ n ∈ d0.weights Tryz.prog 41, n ≤ reachBytes := by
    intro n hn
    have := List.all_eq_true.1 hsz n (by simp [DataW.weightsEach, hn])
    simpa using this
  obtain ⟨y0, a0, b0, w0⟩ := arg_VA (sh := sLWorld) (by kernel_rfl) (hval 0 41 v0 rfl rfl) h0 hwt0
  obtain ⟨k, hk⟩ := lFnExactFormatWorld y0 (rows_wf (P := Tryz.prog) sLWorld y0 (by kernel_rfl) w0) w0
  have hlt : ∀ x ∈ p0 ++ [], x.block < W.heap.size := fun x hx => hW'.lt x (by simpa using hx)
  refine (walk4 hk (laid_tab hL) a0 b0).mono fun e W' ⟨he, bel⟩ => ?_
  subst he
  exact ⟨_, rfl, _, _, _, [], _, [], hW', trodAll_mk1 (shut_bool Tryz.underlying4 _), below_trodAll (by kernel_rfl) bel _ _ _ _ (by kernel_rfl) hAA hlt, rfl, bel.frame _, fun h => by cases h⟩
theorem facts_of {P : Program} {f : FuncId} {fn : Func} {s : ChangeSpec} {c : OpenClaim} (k1 : (c.wf (OpenSpec.ofChange s)) = true) (k2 : (laidOutB P) = true) (k3 : (mapsRowed P) = true) (k4 : (fn.params.all (P.readableRec ·)) = true) (k5 : (namedTie P c.named s.vars) = true) (k6 : ((c.stops == [])) = true) (k7 : ((P.stops == [])) = true) (k8 : ((c.knobs == [])) = true) (k9 : ((P.stopKnobs == [])) = true) (k10 : ((c.inPlace == P.inPlace f)) = true) (k11 : ((c.unfollowed == P.unfollowed f)) = true) (k12 : ((c.recurses == P.recurses f)) = true) (k13 : ((c.named == P.varsNamed f)) = true) (k14 : ((c.maps == (fn.params.toList ++ s.plain.varTypes P).any (P.mapsRec ·))) = true) (k15 : ((c.ifaces == (fn.params.toList ++ s.plain.varTypes P).any (P.ifacesRec ·))) = true) (k16 : ((c.mapsOut == P.mapsAmong fn.resultTypes.toList)) = true) (k17 : ((c.loops == (fn.params.toList ++ s.plain.varTypes P).any (P.loopsFrom ·))) = true) (k18 : ((c.wideKeys == (fn.params.toList ++ s.plain.varTypes P ++ fn.resultTypes.toList).any (P.wideKeysFrom ·))) = true) (k19 : (s.vars.all (P.varReadable ·)) = true) (k20 : (fn.resultTypes.all (fun t => P.readableRec t && decide (t < P.types.size))) = true) (k21 : ((c.ifacesOut == fn.resultTypes.toList.any (P.ifacesRec ·))) = true) (k22 : ((c.loopsOut == fn.resultTypes.toList.any (P.loopsFrom ·))) = true) (k23 : ((c.plainKeys == P.plainKeys)) = true) (k24 : (c.shortTexts.isNone) = true) (k25 : (P.stopsHeard) = true) (k26 : (P.mayEnter) = true) (k27 : ((c.lifted == P.liftsFinal)) = true) (k28 : ((P.make == some c.make)) = true) (k29 : ((c.kinds == (if c.domain.isEmpty then [] else fn.params.toList.map fun t => match P.underlying t with | some (.int k) => some k | _ => none))) = true) (k30 : ((c.pinned == c.pinnedBy)) = true) (k31 : ((c.veiled == (fn.params.toList ++ s.plain.varTypes P ++ fn.resultTypes.toList).any (P.veiledRec ·))) = true) (k32 : (c.veiledFits P fn.params.toList (fn.params.toList ++ s.plain.varTypes P ++ fn.resultTypes.toList)) = true) : joinedFacts P f fn s c = true := by
  unfold joinedFacts
  simp only [k1, k2, k3, k4, k5, k6, k7, k8, k9, k10, k11, k12, k13, k14, k15, k16, k17, k18, k19, k20, k21, k22, k23, k24, k25, k26, k27, k28, k30, k31, k32, Bool.and_true, Bool.true_and]
  exact k29
theorem k1 : (YtajfchgmnembgaaGreatDoor.Rows.fnExactFormatWorldRow.wf (OpenSpec.ofChange YtajfchgmnembgaaGreatDoor.Rows.fnExactFormatWorldSpec)) = true := by kernel_rfl
theorem k2 : (laidOutB Tryz.checked.prog) = true := by kernel_rfl
theorem k3 : (mapsRowed Tryz.checked.prog) = true := by kernel_rfl
theorem k4 : (Tryz.f4.params.all (Tryz.checked.prog.readableRec ·)) = true := by kernel_rfl
theorem k5 : (namedTie Tryz.checked.prog YtajfchgmnembgaaGreatDoor.Rows.fnExactFormatWorldRow.named YtajfchgmnembgaaGreatDoor.Rows.fnExactFormatWorldSpec.vars) = true := by kernel_rfl
theorem k6 : ((YtajfchgmnembgaaGreatDoor.Rows.fnExactFormatWorldRow.stops == [])) = true := by kernel_rfl
theorem k7 : ((Tryz.checked.prog.stops == [])) = true := by kernel_rfl
theorem k8 : ((YtajfchgmnembgaaGreatDoor.Rows.fnExactFormatWorldRow.knobs == [])) = true := by kernel_rfl
theorem k9 : ((Tryz.checked.prog.stopKnobs == [])) = true := by kernel_rfl
theorem k10 : ((YtajfchgmnembgaaGreatDoor.Rows.fnExactFormatWorldRow.inPlace == Tryz.checked.prog.inPlace 4)) = true := by kernel_rfl
theorem k11 : ((YtajfchgmnembgaaGreatDoor.Rows.fnExactFormatWorldRow.unfollowed == Tryz.checked.prog.unfollowed 4)) = true := by kernel_rfl
theorem k12 : ((YtajfchgmnembgaaGreatDoor.Rows.fnExactFormatWorldRow.recurses == Tryz.checked.prog.recurses 4)) = true := by kernel_rfl
theorem k13 : ((YtajfchgmnembgaaGreatDoor.Rows.fnExactFormatWorldRow.named == Tryz.checked.prog.varsNamed 4)) = true := by kernel_rfl
theorem k14 : ((YtajfchgmnembgaaGreatDoor.Rows.fnExactFormatWorldRow.maps == (Tryz.f4.params.toList ++ YtajfchgmnembgaaGreatDoor.Rows.fnExactFormatWorldSpec.plain.varTypes Tryz.checked.prog).any (Tryz.checked.prog.mapsRec ·))) = true := by kernel_rfl
theorem k15 : ((YtajfchgmnembgaaGreatDoor.Rows.fnExactFormatWorldRow.ifaces == (Tryz.f4.params.toList ++ YtajfchgmnembgaaGreatDoor.Rows.fnExactFormatWorldSpec.plain.varTypes Tryz.checked.prog).any (Tryz.checked.prog.ifacesRec ·))) = true := by kernel_rfl
theorem k16 : ((YtajfchgmnembgaaGreatDoor.Rows.fnExactFormatWorldRow.mapsOut == Tryz.checked.prog.mapsAmong Tryz.f4.resultTypes.toList)) = true := by kernel_rfl
theorem k17 : ((YtajfchgmnembgaaGreatDoor.Rows.fnExactFormatWorldRow.loops == (Tryz.f4.params.toList ++ YtajfchgmnembgaaGreatDoor.Rows.fnExactFormatWorldSpec.plain.varTypes Tryz.checked.prog).any (Tryz.checked.prog.loopsFrom ·))) = true := by kernel_rfl
theorem k18 : ((YtajfchgmnembgaaGreatDoor.Rows.fnExactFormatWorldRow.wideKeys == (Tryz.f4.params.toList ++ YtajfchgmnembgaaGreatDoor.Rows.fnExactFormatWorldSpec.plain.varTypes Tryz.checked.prog ++ Tryz.f4.resultTypes.toList).any (Tryz.checked.prog.wideKeysFrom ·))) = true := by kernel_rfl
theorem k19 : (YtajfchgmnembgaaGreatDoor.Rows.fnExactFormatWorldSpec.vars.all (Tryz.checked.prog.varReadable ·)) = true := by kernel_rfl
theorem k20 : (Tryz.f4.resultTypes.all (fun t => Tryz.checked.prog.readableRec t && decide (t < Tryz.checked.prog.types.size))) = true := by kernel_rfl
theorem k21 : ((YtajfchgmnembgaaGreatDoor.Rows.fnExactFormatWorldRow.ifacesOut == Tryz.f4.resultTypes.toList.any (Tryz.checked.prog.ifacesRec ·))) = true := by kernel_rfl
theorem k22 : ((YtajfchgmnembgaaGreatDoor.Rows.fnExactFormatWorldRow.loopsOut == Tryz.f4.resultTypes.toList.any (Tryz.checked.prog.loopsFrom ·))) = true := by kernel_rfl
theorem k23 : ((YtajfchgmnembgaaGreatDoor.Rows.fnExactFormatWorldRow.plainKeys == Tryz.checked.prog.plainKeys)) = true := by kernel_rfl
theorem k24 : (YtajfchgmnembgaaGreatDoor.Rows.fnExactFormatWorldRow.shortTexts.isNone) = true := by kernel_rfl
theorem k25 : (Tryz.checked.prog.stopsHeard) = true := by kernel_rfl
theorem k26 : (Tryz.checked.prog.mayEnter) = true := by kernel_rfl
theorem k27 : ((YtajfchgmnembgaaGreatDoor.Rows.fnExactFormatWorldRow.lifted == Tryz.checked.prog.liftsFinal)) = true := by kernel_rfl
theorem k28 : ((Tryz.checked.prog.make == some YtajfchgmnembgaaGreatDoor.Rows.fnExactFormatWorldRow.make)) = true := by kernel_rfl
theorem k29 : ((YtajfchgmnembgaaGreatDoor.Rows.fnExactFormatWorldRow.kinds == (if YtajfchgmnembgaaGreatDoor.Rows.fnExactFormatWorldRow.domain.isEmpty then [] else Tryz.f4.params.toList.map fun t => match Tryz.checked.prog.underlying t with | some (.int k) => some k | _ => none))) = true := by kernel_rfl
theorem k30 : ((YtajfchgmnembgaaGreatDoor.Rows.fnExactFormatWorldRow.pinned == YtajfchgmnembgaaGreatDoor.Rows.fnExactFormatWorldRow.pinnedBy)) = true := by kernel_rfl
theorem k31 : ((YtajfchgmnembgaaGreatDoor.Rows.fnExactFormatWorldRow.veiled == (Tryz.f4.params.toList ++ YtajfchgmnembgaaGreatDoor.Rows.fnExactFormatWorldSpec.plain.varTypes Tryz.checked.prog ++ Tryz.f4.resultTypes.toList).any (Tryz.checked.prog.veiledRec ·))) = true := by kernel_rfl
theorem k32 : (YtajfchgmnembgaaGreatDoor.Rows.fnExactFormatWorldRow.veiledFits Tryz.checked.prog Tryz.f4.params.toList (Tryz.f4.params.toList ++ YtajfchgmnembgaaGreatDoor.Rows.fnExactFormatWorldSpec.plain.varTypes Tryz.checked.prog ++ Tryz.f4.resultTypes.toList)) = true := by kernel_rfl
theorem k0 : YtajfchgmnembgaaGreatDoor.Tryz.pinned.checked.prog.funcNamed YtajfchgmnembgaaGreatDoor.Rows.fnExactFormatWorldRow.func = some 4 := by kernel_rfl
theorem wrapper : Tryz.f4.isWrapper Tryz.checked.prog YtajfchgmnembgaaGreatDoor.Rows.fnExactFormatWorldRow.wrapper YtajfchgmnembgaaGreatDoor.Rows.fnExactFormatWorldRow.mainSum := by
  unfold Func.isWrapper
  first | (rw [if_pos (by decide +kernel)]; kernel_rfl) | (rw [if_neg (by decide +kernel)]; exact ⟨rfl, rfl⟩)
theorem facts : joinedFacts YtajfchgmnembgaaGreatDoor.Tryz.pinned.checked.prog 4 Tryz.f4 YtajfchgmnembgaaGreatDoor.Rows.fnExactFormatWorldSpec YtajfchgmnembgaaGreatDoor.Rows.fnExactFormatWorldRow = true := facts_of k1 k2 k3 k4 k5 k6 k7 k8 k9 k10 k11 k12 k13 k14 k15 k16 k17 k18 k19 k20 k21 k22 k23 k24 k25 k26 k27 k28 k29 k30 k31 k32
theorem over : YtajfchgmnembgaaGreatDoor.Rows.fnExactFormatWorldRow.holds YtajfchgmnembgaaGreatDoor.Tryz.pinned (OpenSpec.ofChange YtajfchgmnembgaaGreatDoor.Rows.fnExactFormatWorldSpec) :=
  OpenClaim.holds_of_wide 4 Tryz.f4 rfl rfl rfl rfl rfl rfl rfl ⟨rfl, rfl, rfl, rfl, rfl⟩ rfl rfl rfl rfl rfl k0 Tryz.func4 facts
    (of_decide_eq_true (by kernel_rfl)) wrapper
    (fun os started H enc _ => lifted os started H enc)
theorem named4 : Tryz.prog.funcNamed "loop.example/g00599/laws.FnExactFormatWorld" = some 4 := by kernel_rfl
theorem card : YtajfchgmnembgaaGreatDoor.Rows.FnExactFormatWorldCardSaid :=
  Claim7.holds_tied_plain_at .later [] [.data, .data, .data] true (true, "3303adaf0995594c4f40baa3e1921ecd07705a4c1b604cc18a723c3c03d644c0") false
    over (fun _ h => by cases h) (by kernel_rfl) (fun _ h => by cases h) YtajfchgmnembgaaGreatDoor.fnExactFormatWorld_row_tie rfl ⟨rfl, rfl⟩ (by kernel_rfl) rfl
    (fun f fn hf hfn => by
      obtain rfl : f = 4 := Option.some.inj (named4.symm.trans hf) |>.symm
      obtain rfl : fn = Tryz.f4 := (Option.some.inj (Tryz.func4.symm.trans hfn)).symm
      exact ⟨by kernel_rfl, fun j t ht => by
        rw [Tryz.params4] at ht
        have hm : t ∈ [41] := by simpa using Array.mem_of_getElem? ht
        have hall : ([41].all fun u => !Tryz.prog.wantsStandIn u) = true := by kernel_rfl
        exact (show Tryz.prog.wantsStandIn t = false by simpa using List.all_eq_true.1 hall t hm)⟩)
    (by kernel_rfl)
end Go.Proofs.YtajfchgmnembgaaGreatDoor.World
namespace Go.Proofs.YtajfchgmnembgaaGreatDoor
/-- The card, under a short name. -/
theorem fnExactFormatWorld_holds : Rows.FnExactFormatWorldCardSaid := World.card
end Go.Proofs.YtajfchgmnembgaaGreatDoor
