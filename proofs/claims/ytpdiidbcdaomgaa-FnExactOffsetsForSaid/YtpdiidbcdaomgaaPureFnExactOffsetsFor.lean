/- The law FnExactOffsetsFor answers true for all numbers: the program's list of offsets is the reference's, and it lies in memory of its own. No conditions. -/
import Derived.Test.YtpdiidbcdaomgaaPFnExactOffsetsForx2
namespace Go.Proofs.Ytpdiidbcdaomgaa.Pure
open Go.RowKit Go.Proofs.Ytpdiidbcdaomgaa.PFnExactOffsetsFor Go.Proofs.YtpdiidbcdaomgaaW.PrintWords Go.Proofs.YtpdiidbcdaomgaaW.PrintLast

theorem w64 {i : Int} (h0 : -1000 ≤ i) (h : i ≤ 1000) : wrap64 i = i := by
  unfold wrap64
  omega

/-- Both loops make one and the same list. -/
theorem both (n b s : Int) (hn : n ≤ 12) (hb : (1 ≤ b ∧ s = 1) ∨ (b < 1 ∧ s = 0)) (d : Nat) : ∀ (k : Nat) (i : Int) (xs : List Int), 0 ≤ i → i ≤ n → n - i = d → d < k → (xs.length : Int) = i →
    ∃ r, spec_OffsetsFor.l0 k n xs s i = some r ∧ impl_OffsetsFor.l0 k b xs n i = some r ∧ r.length ≤ 12 := by
  induction d with
  | zero =>
    intro k i xs h0 h1 hd hk hl
    obtain ⟨k, rfl⟩ : ∃ m, k = m + 1 := ⟨k - 1, by omega⟩
    refine ⟨xs, ?_, ?_, by omega⟩
    · simp only [spec_OffsetsFor.l0]; rw [if_neg (by omega)]
    · simp only [impl_OffsetsFor.l0]; rw [if_neg (by omega)]
  | succ d ih =>
    intro k i xs h0 h1 hd hk hl
    obtain ⟨k, rfl⟩ : ∃ m, k = m + 1 := ⟨k - 1, by omega⟩
    have hw : wrap64 (i + 1) = i + 1 := w64 (by omega) (by omega)
    have ht : Int.tmod i 3 = i % 3 := Int.tmod_eq_emod_of_nonneg h0
    have hv : wrap64 (Int.tmod i 3 - 1) = i % 3 - 1 := by rw [ht]; exact w64 (by omega) (by omega)
    rcases hb with ⟨hb, rfl⟩ | ⟨hb, rfl⟩
    · obtain ⟨r, h2, h3, h4⟩ := ih k (i + 1) (xs ++ [i % 3 - 1]) (by omega) (by omega) (by omega) (by omega) (by simp; omega)
      refine ⟨r, ?_, ?_, h4⟩
      · simp only [spec_OffsetsFor.l0]
        rw [if_pos (by omega), if_pos (by omega), hw, hv, Int.one_mul, w64 (i := i % 3 - 1) (by omega) (by omega)]
        exact h2
      · simp only [impl_OffsetsFor.l0]
        rw [if_pos (by omega), if_pos (by omega), if_pos (by omega), hw, hv]
        exact h3
    · obtain ⟨r, h2, h3, h4⟩ := ih k (i + 1) (xs ++ [0]) (by omega) (by omega) (by omega) (by omega) (by simp; omega)
      refine ⟨r, ?_, ?_, h4⟩
      · simp only [spec_OffsetsFor.l0]
        rw [if_pos (by omega), if_pos (by omega), hw, hv, Int.zero_mul, w64 (i := 0) (by omega) (by omega)]
        exact h2
      · simp only [impl_OffsetsFor.l0]
        rw [if_pos (by omega), if_neg (by omega), if_pos (by omega), hw]
        exact h3

theorem same (xs : List Int) (hx : xs.length ≤ 12) (d : Nat) : ∀ (k : Nat) (i : Int), 0 ≤ i → i ≤ xs.length → (xs.length : Int) - i = d → d < k → laws_eqIntS.l0 k xs xs i = some true := by
  induction d with
  | zero =>
    intro k i h0 h1 hd hk
    obtain ⟨k, rfl⟩ : ∃ m, k = m + 1 := ⟨k - 1, by omega⟩
    simp only [laws_eqIntS.l0]; rw [if_neg (by omega)]
  | succ d ih =>
    intro k i h0 h1 hd hk
    obtain ⟨k, rfl⟩ : ∃ m, k = m + 1 := ⟨k - 1, by omega⟩
    simp only [laws_eqIntS.l0]; rw [if_pos (by omega), if_pos h0, if_pos (by omega), if_pos trivial, w64 (by omega) (by omega)]
    exact ih k (i + 1) (by omega) (by omega) (by omega) (by omega)

theorem marks (d : Nat) : ∀ (xs : List Int) (k : Nat) (i : Nat), xs.length ≤ 12 → i ≤ xs.length → xs.length - i = d → d < k → (∀ j : Nat, j < i → xs.getD j 0 = 1 + j) →
    ∃ r, laws_markIntS.l0 k xs (1 + i) i = some (1 + (xs.length : Int), r) ∧ r.length = xs.length ∧ ∀ j : Nat, j < r.length → r.getD j 0 = 1 + j := by
  induction d with
  | zero =>
    intro xs k i hx h1 hd hk hj
    obtain ⟨k, rfl⟩ : ∃ m, k = m + 1 := ⟨k - 1, by omega⟩
    obtain rfl : i = xs.length := by omega
    exact ⟨xs, by simp only [laws_markIntS.l0]; rw [if_neg (by omega)], rfl, hj⟩
  | succ d ih =>
    intro xs k i hx h1 hd hk hj
    obtain ⟨k, rfl⟩ : ∃ m, k = m + 1 := ⟨k - 1, by omega⟩
    obtain ⟨r, h2, h3, h4⟩ := ih (xs.set i (1 + i)) k (i + 1) (by simpa using hx) (by simp; omega) (by simp; omega) (by omega) (fun j hlt => by
      rcases Nat.lt_or_ge j i with h | h
      · rw [List.getD_eq_getElem?_getD, List.getElem?_set_ne (by omega), ← List.getD_eq_getElem?_getD]; exact hj j h
      · obtain rfl : j = i := by omega
        rw [List.getD_eq_getElem?_getD, List.getElem?_set_self (by omega)]; rfl)
    rw [List.length_set] at h2 h3
    refine ⟨r, ?_, h3, h4⟩
    simp only [laws_markIntS.l0]
    rw [if_pos (by omega), if_pos (by omega), w64 (by omega) (by omega), w64 (by omega) (by omega), Int.toNat_natCast]
    rw [show (1 + (i : Int) + 1) = 1 + ((i + 1 : Nat) : Int) by omega, show ((i : Int) + 1) = ((i + 1 : Nat) : Int) by omega]
    exact h2

theorem held (r : List Int) (hx : r.length ≤ 12) (hr : ∀ j : Nat, j < r.length → r.getD j 0 = 1 + j) (d : Nat) : ∀ (k : Nat) (i : Nat), i ≤ r.length → r.length - i = d → d < k → laws_heldIntS.l0 k r (1 + i) i = some (1 + (r.length : Int)) := by
  induction d with
  | zero =>
    intro k i h1 hd hk
    obtain ⟨k, rfl⟩ : ∃ m, k = m + 1 := ⟨k - 1, by omega⟩
    obtain rfl : i = r.length := by omega
    simp only [laws_heldIntS.l0]; rw [if_neg (by omega)]
  | succ d ih =>
    intro k i h1 hd hk
    obtain ⟨k, rfl⟩ : ∃ m, k = m + 1 := ⟨k - 1, by omega⟩
    simp only [laws_heldIntS.l0]
    rw [if_pos (by omega), if_pos (by omega), if_pos (by unfold rd; rw [Int.toNat_natCast]; exact hr i (by omega)), w64 (by omega) (by omega), w64 (by omega) (by omega)]
    rw [show (1 + (i : Int) + 1) = 1 + ((i + 1 : Nat) : Int) by omega, show ((i : Int) + 1) = ((i + 1 : Nat) : Int) by omega]
    exact ih k (i + 1) (by omega) (by omega) (by omega)

theorem end_of (k : Nat) (a b : Int) (r : List Int) (hk : 20 ≤ k) (hr : r.length ≤ 12) (h1 : spec_OffsetsFor.f k a b = some r) (h2 : impl_OffsetsFor.f k a b = some r) : laws_FnExactOffsetsFor.f k a b = some true := by
  have he : laws_eqIntS.f k r r = some true := by
    unfold laws_eqIntS.f
    rw [if_pos rfl]
    exact same r hr r.length k 0 (by omega) (by omega) (by omega) (by omega)
  obtain ⟨m, hm, hml, hmj⟩ := marks r.length r k 0 hr (by omega) (by omega) (by omega) (fun j h => by omega)
  have hm' : laws_markIntS.f k r 1 = some (1 + (r.length : Int), m) := hm
  have hh : laws_heldIntS.f k m 1 = some (1 + (r.length : Int)) := by
    rw [← hml]
    exact held m (by omega) hmj m.length k 0 (by omega) (by omega) (by omega)
  unfold laws_FnExactOffsetsFor.f
  rw [h1, h2]; simp only [Option.bind_some]
  rw [he]; simp only [Option.bind_some, if_true]
  rw [hm']; simp only [Option.bind_some]
  rw [hh]; simp only [Option.bind_some]
  rw [if_neg (by omega), if_pos trivial, if_neg (by omega), if_pos trivial]

theorem FnExactOffsetsFor : laws_FnExactOffsetsFor.Pure := by
  intro a b _ _
  refine ⟨20, ?_⟩
  by_cases hin : 1 ≤ a ∧ a ≤ 12
  · obtain ⟨h1, h2⟩ := hin
    by_cases hb : 1 ≤ b
    · obtain ⟨r, h3, h4, h5⟩ := both a b 1 h2 (.inl ⟨hb, rfl⟩) a.toNat 19 0 [] (by omega) (by omega) (by omega) (by omega) rfl
      obtain ⟨r', h3', h4', h5'⟩ := both a b 1 h2 (.inl ⟨hb, rfl⟩) a.toNat 20 0 [] (by omega) (by omega) (by omega) (by omega) rfl
      have hr : r' = r := by
        have := (spec_OffsetsFor.mono_l 19).2 a [] 1 0 r h3
        rw [h3'] at this
        exact Option.some.inj this
      subst hr
      refine end_of 20 a b r' (by omega) h5 ?_ ?_
      · unfold spec_OffsetsFor.f spec_l1In.f
        simp only [Option.bind_some]
        rw [if_pos (by omega)]; simp only [Option.bind_some]
        rw [if_pos (by simpa using h2), if_pos hb]
        simp only [spec_OffsetsFor.j0]
        exact h3
      · unfold impl_OffsetsFor.f impl_isNumber.f impl_InRange.f
        simp only [Option.bind_some]
        rw [if_pos (by omega)]; simp only [Option.bind_some]
        rw [if_pos (by simpa using h2)]
        exact h4'
    · obtain ⟨r, h3, h4, h5⟩ := both a b 0 h2 (.inr ⟨by omega, rfl⟩) a.toNat 19 0 [] (by omega) (by omega) (by omega) (by omega) rfl
      obtain ⟨r', h3', h4', h5'⟩ := both a b 0 h2 (.inr ⟨by omega, rfl⟩) a.toNat 20 0 [] (by omega) (by omega) (by omega) (by omega) rfl
      have hr : r' = r := by
        have := (spec_OffsetsFor.mono_l 19).2 a [] 0 0 r h3
        rw [h3'] at this
        exact Option.some.inj this
      subst hr
      refine end_of 20 a b r' (by omega) h5 ?_ ?_
      · unfold spec_OffsetsFor.f spec_l1In.f
        simp only [Option.bind_some]
        rw [if_pos (by omega)]; simp only [Option.bind_some]
        rw [if_pos (by simpa using h2), if_neg hb]
        simp only [spec_OffsetsFor.j0]
        exact h3
      · unfold impl_OffsetsFor.f impl_isNumber.f impl_InRange.f
        simp only [Option.bind_some]
        rw [if_pos (by omega)]; simp only [Option.bind_some]
        rw [if_pos (by simpa using h2)]
        exact h4'
  · refine end_of 20 a b [] (by omega) (by simp) ?_ ?_
    · unfold spec_OffsetsFor.f spec_l1In.f
      simp only [Option.bind_some]
      by_cases h : a ≥ 1
      · rw [if_pos h]; simp only [Option.bind_some]
        rw [if_neg (by simp; omega)]
      · rw [if_neg h]; simp
    · unfold impl_OffsetsFor.f impl_isNumber.f impl_InRange.f
      simp only [Option.bind_some]
      by_cases h : 1 ≤ a
      · rw [if_pos h]; simp only [Option.bind_some]
        rw [if_neg (by simp; omega)]
      · rw [if_neg h]; simp

end Go.Proofs.Ytpdiidbcdaomgaa.Pure
