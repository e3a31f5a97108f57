/- 'laws.FnExactIsQuiet' returns true for every input. No condition. -/
import Derived.Test.YtmkkoalilmgpcaaGreatWp
import Derived.Test.YtmkkoalilmgpcaaGreatRows
import Derived.Test.YtmkkoalilmgpcaaGreatChecked
import Derived.KernelRfl
namespace Go.Proofs.YtmkkoalilmgpcaaGreat.World
open Go Go.V Go.Proofs
set_option linter.unusedVariables false
set_option linter.unusedSimpArgs false
set_option maxRecDepth 100000
abbrev TW := T40
theorem pred {k d : Nat} (h : d + 1 ≤ k) : ∃ q, k = q + 1 := ⟨k - 1, by omega⟩
/-! ### numbers, rows -/
def isIdx (a b : Int) : Bool := decide (a ≥ 0) && decide (a < b)
def inR (n a b : Int) : Bool := decide (a ≤ n) && decide (n ≤ b)
theorem f104 {k : Nat} (a b : Int) (hk : 1 ≤ k) : F104 k a b = some (isIdx a b) := by
  obtain ⟨k, rfl⟩ := pred (d := 0) hk
  rw [e104]
  unfold isIdx
  cases decide (a ≥ 0) <;> rfl
theorem f106 {k : Nat} (n a b : Int) (hk : 1 ≤ k) : F106 k n a b = some (inR n a b) := by
  obtain ⟨k, rfl⟩ := pred (d := 0) hk
  rw [e106]
  unfold inR
  cases decide (a ≤ n) <;> rfl
theorem f91 {k : Nat} (n a b : Int) (hk : 1 ≤ k) : F91 k n a b = some (inR n a b) := by
  obtain ⟨k, rfl⟩ := pred (d := 0) hk
  rw [e91]
  unfold inR
  show (if ((decide (a ≤ n)) == true) = true then _ else _) = _
  cases decide (a ≤ n) <;> rfl
def has (l : List Int) (n : Int) : Bool := l.any fun y => n == y
theorem f90 {k : Nat} (a : List Int) (n : Int) (hl : a.length ≤ 140737488351232) (hk : a.length + 2 ≤ k) : F90 k a n = some (has a n) := by
  obtain ⟨k, rfl⟩ := pred (d := 0) (show 1 ≤ k by omega)
  refine (e90 k a n).trans (row_i (a := a) (fun _ l => some (l.any fun y => n == y)) (fun _ _ => rfl) hl rfl (fun m i x r h0 hn hw hi hx ih => ?_) (by omega))
  dsimp only
  rw [hw, ih, List.any_cons, BEq.comm (a := x)]
  cases n == x <;> rfl
theorem f140 {k : Nat} (a : List Int) (n : Int) (hl : a.length ≤ 140737488351232) (hk : a.length + 2 ≤ k) : F140 k a n = some (findFrom (fun y => n == y) 0 a) := by
  obtain ⟨k, rfl⟩ := pred (d := 0) (show 1 ≤ k by omega)
  refine (e140 k a n).trans (row_i (a := a) (fun i l => some (findFrom (fun y => n == y) i l)) (fun _ _ => rfl) hl rfl (fun m i x r h0 hn hw hi hx ih => ?_) (by omega))
  dsimp only
  rw [hw, ih, findFrom]
  cases n == x <;> rfl
theorem f105 {k : Nat} (a : List Int) (n : Int) (hl : a.length ≤ 140737488351232) (hk : a.length + 3 ≤ k) : F105 k a n = some (has a n) := by
  obtain ⟨k, rfl⟩ := pred (d := 0) (show 1 ≤ k by omega)
  rw [e105, f140 a n hl (by omega), Option.bind_some, findFrom_any]
  rfl
/-! ### skies, laws -/
def nodes (s : T25) : Int := IntKind.i64.wrap ((s.2.1.length : Int) + (s.2.2.1.length : Int))
def site (s : T25) (n : Int) : Bool := inR n (s.2.1.length : Int) (IntKind.i64.wrap (nodes s - 1))
theorem f107 {k : Nat} (s : T25) (hk : 1 ≤ k) : F107 k s = some (nodes s) := by
  obtain ⟨k, rfl⟩ := pred (d := 0) hk
  exact e107 k s
theorem f92 {k : Nat} (s : T25) (hk : 1 ≤ k) : F92 k s = some (nodes s) := by
  obtain ⟨k, rfl⟩ := pred (d := 0) hk
  exact e92 k s
theorem f43 {k : Nat} (s : T25) (n : Int) (hk : 2 ≤ k) : F43 k s n = some (site s n) := by
  obtain ⟨k, rfl⟩ := pred (d := 1) hk
  rw [e43, f107 s (by omega), Option.bind_some, f106 _ _ _ (by omega)]
  rfl
theorem f30 {k : Nat} (s : T25) (n : Int) (hk : 2 ≤ k) : F30 k s n = some (site s n) := by
  obtain ⟨k, rfl⟩ := pred (d := 1) hk
  rw [e30, f92 s (by omega), Option.bind_some, f91 _ _ _ (by omega)]
  rfl
def landing (l : List Int) (p : T28) (n : Int) : Bool := isIdx n p.1 && (decide (n < p.2.1) || has l n)
theorem f42 {k : Nat} (l : List Int) (p : T28) (n : Int) (hl : l.length ≤ 140737488351232) (hk : l.length + 4 ≤ k) : F42 k l p n = some (landing l p n) := by
  obtain ⟨k, rfl⟩ := pred (d := 0) (show 1 ≤ k by omega)
  rw [e42, f104 _ _ (by omega), Option.bind_some, f105 l n hl (by omega)]
  unfold landing
  cases isIdx n p.1
  · rfl
  · cases decide (n < p.2.1) <;> rfl
theorem f29 {k : Nat} (l : List Int) (p : T28) (n : Int) (hl : l.length ≤ 140737488351232) (hk : l.length + 3 ≤ k) : F29 k l p n = some (landing l p n) := by
  obtain ⟨k, rfl⟩ := pred (d := 0) (show 1 ≤ k by omega)
  rw [e29, f90 l n hl (by omega)]
  unfold landing isIdx
  cases decide (n ≥ 0)
  · rfl
  · cases decide (n < p.1)
    · rfl
    · cases decide (n < p.2.1) <;> rfl
/-! ### IsLawful -/
abbrev qDone (w : TW) := w.2.2.2.2.2.2.2.2.2.2.2.2.1
abbrev qLog (w : TW) := w.2.2.2.2.2.2.2.2.2.2.2.2.2
abbrev qQueues (w : TW) := w.2.2.2.2.2.1
def lawDone (w : TW) : Bool := (qDone w).all fun x => landing w.2.2.1 w.2.1 x.2.2.2.2.1
def lawAt (w : TW) (i : Int) (q : List (Int × Int × Int × Int × Int × Int)) : Bool := q.all fun x => !(site w.1 i && x.2.2.2.1 != i)
def lawQ (w : TW) : Bool := allIdx (fun i q => lawAt w (i : Int) q) 0 (qQueues w)
def lawLog (w : TW) : Bool := (qLog w).all fun x => !(decide (x.2.2.1 ≥ w.2.1.2.1) && !landing w.2.2.1 w.2.1 x.2.2.1)
def lawful (w : TW) : Bool := lawDone w && (lawQ w && lawLog w)
theorem f10 {k N : Nat} (w : TW) (h1 : w.2.2.1.length ≤ N) (h2 : (qDone w).length ≤ N) (h3 : (qQueues w).length ≤ N) (h4 : (qLog w).length ≤ N) (h5 : ∀ q ∈ qQueues w, q.length ≤ N) (hN : N ≤ 1048576) (hk : N + 6 ≤ k) : F10 k w = some (lawful w) := by
  obtain ⟨k, rfl⟩ := pred (d := 0) (show 1 ≤ k by omega)
  have hd : ∀ d : Nat, d ≤ N → d ≤ 140737488351232 := fun d h => by omega
  have hlog : ∀ v1 v2 : Int, L10_3 k (fun (v3 : Int) (x1 : Int × Int × Int × Int) (p2 : Bool) => some false) (fun (v3 : Int) => some true) (qDone w, ((qDone w).length : Int), v1, qQueues w, ((qQueues w).length : Int), v2, qLog w, ((qLog w).length : Int), w) k 0 = some (lawLog w) := by
    intro v1 v2
    refine row_i (a := qLog w) (fun _ l => some (l.all fun x => !(decide (x.2.2.1 ≥ w.2.1.2.1) && !landing w.2.2.1 w.2.1 x.2.2.1))) (fun _ _ => rfl) (hd _ h4) rfl (fun m i x r h0 hn hw hi hx ih => ?_) (by omega)
    dsimp only
    rw [hw, ih, f42 _ _ _ (hd _ h1) (by omega), Option.bind_some, List.all_cons]
    cases decide (x.2.2.1 ≥ w.2.1.2.1)
    · rfl
    · cases landing w.2.2.1 w.2.1 x.2.2.1 <;> rfl
  have hq : ∀ v1 : Int, L10_1 k (fun (v1 : Int) (x1 : List (Int × Int × Int × Int × Int × Int)) (v2 : Int) (x2 : Int × Int × Int × Int × Int × Int) (p3 : Bool) => some false) (fun (v2 : Int) => some (lawLog w)) (qDone w, ((qDone w).length : Int), v1, qQueues w, ((qQueues w).length : Int), w) k 0 = some (lawQ w && lawLog w) := by
    intro v1
    refine row_i (a := qQueues w) (fun j l => some (allIdx (fun i q => lawAt w (i : Int) q) j l && lawLog w)) (fun _ _ => rfl) (hd _ h3) (by simp [allIdx]) (fun m i x r h0 hn hw hi hx ih => ?_) (by omega)
    dsimp only
    rw [allIdx, Bool.and_assoc]
    rw [hw, ih]
    have hxl := h5 x (List.mem_of_getElem? hx)
    refine (row_i (a := x) (fun _ l => if (l.all fun x => !(site w.1 (i : Int) && x.2.2.2.1 != (i : Int))) = true then some (allIdx (fun i q => lawAt w (i : Int) q) (i + 1) r && lawLog w) else some false) (fun _ _ => rfl) (hd _ hxl) rfl (fun m i' x' r' h0' hn' hw' hi' hx' ih' => ?_) (by omega)).trans ?_
    · dsimp only
      rw [hw', ih', f43 _ _ (by omega), Option.bind_some, List.all_cons]
      cases site w.1 (i : Int)
      · rfl
      · cases x'.2.2.2.1 != (i : Int) <;> rfl
    · unfold lawAt
      cases x.all fun x => !(site w.1 (i : Int) && x.2.2.2.1 != (i : Int)) <;> rfl
  rw [e10]
  refine (row_i (a := qDone w) (fun _ l => if (l.all fun x => landing w.2.2.1 w.2.1 x.2.2.2.2.1) = true then some (lawQ w && lawLog w) else some false) (fun _ _ => rfl) (hd _ h2) ?_ (fun m i x r h0 hn hw hi hx ih => ?_) (by omega)).trans ?_
  · simp only [hlog]
    exact hq _
  · dsimp only
    rw [hw, ih, f42 _ _ _ (hd _ h1) (by omega), Option.bind_some, List.all_cons]
    cases landing w.2.2.1 w.2.1 x.2.2.2.2.1 <;> rfl
  · unfold lawful lawDone
    cases (qDone w).all fun x => landing w.2.2.1 w.2.1 x.2.2.2.2.1 <;> rfl
theorem f8 {k N : Nat} (w : TW) (h1 : w.2.2.1.length ≤ N) (h2 : (qDone w).length ≤ N) (h3 : (qQueues w).length ≤ N) (h4 : (qLog w).length ≤ N) (h5 : ∀ q ∈ qQueues w, q.length ≤ N) (hN : N ≤ 1048576) (hk : N + 6 ≤ k) : F8 k w = some (lawful w) := by
  obtain ⟨k, rfl⟩ := pred (d := 0) (show 1 ≤ k by omega)
  have hd : ∀ d : Nat, d ≤ N → d ≤ 140737488351232 := fun d h => by omega
  have hlog : ∀ v0 v1 : Int, L8_3 k (fun (v3 : Int) (x1 : Int × Int × Int × Int) (x2 : Int × Int × Int × Int) (p3 : Bool) => some false) (fun (v3 : Int) => some true) (v0, v1, w) k 0 = some (lawLog w) := by
    intro v0 v1
    refine row_i (a := qLog w) (fun _ l => some (l.all fun x => !(decide (x.2.2.1 ≥ w.2.1.2.1) && !landing w.2.2.1 w.2.1 x.2.2.1))) (fun _ _ => rfl) (hd _ h4) rfl (fun m i x r h0 hn hw hi hx ih => ?_) (by omega)
    dsimp only
    rw [hw, ih, hn, ix_some hx, if_pos h0, f29 _ _ _ (hd _ h1) (by omega), Option.bind_some, List.all_cons]
    cases decide (x.2.2.1 ≥ w.2.1.2.1)
    · rfl
    · cases landing w.2.2.1 w.2.1 x.2.2.1 <;> rfl
  have hq : ∀ v0 : Int, L8_1 k (fun (v1 : Int) (v2 : Int) (x1 : List (Int × Int × Int × Int × Int × Int)) (p2 : Bool) (x3 : List (Int × Int × Int × Int × Int × Int)) (x4 : Int × Int × Int × Int × Int × Int) => some false) (fun (v1 : Int) => some (lawLog w)) (v0, w) k 0 = some (lawQ w && lawLog w) := by
    intro v0
    have hgen : ∀ (i : Nat), i ≤ (qQueues w).length → True := fun _ _ => trivial
    refine (up_loop0 (len := (qQueues w).length) (fun j => some (allIdx (fun i q => lawAt w (i : Int) q) j ((qQueues w).drop j) && lawLog w)) (hd _ h3) (fun m i hi h0 hn hw ih => ?_) (by omega)).trans (by simp [lawQ])
    by_cases hlt : i < (qQueues w).length
    · have ih := ih hlt
      have hx : (qQueues w)[i]? = some (qQueues w)[i] := List.getElem?_eq_getElem hlt
      have hxl := h5 _ (List.getElem_mem hlt)
      rw [List.drop_eq_getElem_cons hlt, allIdx, Bool.and_assoc]
      generalize hxe : (qQueues w)[i] = x at hx hxl
      show (if decide ((i : Int) < ((qQueues w).length : Int)) = true then L8_2 k _ _ _ (v0, (i : Int), w) k 0 else _) = _
      rw [if_pos (by simp; omega)]
      rw [hw, ih]
      refine (up_loop0 (len := x.length) (fun j => if ((x.drop j).all fun x => !(site w.1 (i : Int) && x.2.2.2.1 != (i : Int))) = true then some (allIdx (fun i q => lawAt w (i : Int) q) (i + 1) ((qQueues w).drop (i + 1)) && lawLog w) else some false) (hd _ hxl) (fun m' i' hi' h0' hn' hw' ih' => ?_) (by omega)).trans ?_
      · show (if 0 ≤ (i : Int) then ix (qQueues w) (i : Int).toNat _ else none) = _
        rw [if_pos h0, hn, ix_some hx]
        by_cases hlt' : i' < x.length
        · have ih' := ih' hlt'
          have hx' : x[i']? = some x[i'] := List.getElem?_eq_getElem hlt'
          rw [List.drop_eq_getElem_cons hlt', List.all_cons]
          rw [if_pos (by simp; omega), f30 _ _ (by omega), Option.bind_some]
          cases hs : site w.1 (i : Int)
          · simp [hs]
          · rw [if_pos rfl, if_pos h0, ix_some hx, if_pos h0', hn', ix_some hx', hw', ih']
            simp only [hs, Bool.true_and]
            cases x[i'].2.2.2.1 != (i : Int) <;> rfl
        · have e : i' = x.length := by omega
          rw [if_neg (by simp; omega), e, List.drop_length]
          rfl
      · unfold lawAt
        simp only [List.drop_zero]
        cases x.all fun x => !(site w.1 (i : Int) && x.2.2.2.1 != (i : Int)) <;> rfl
    · have e : i = (qQueues w).length := by omega
      show (if decide ((i : Int) < ((qQueues w).length : Int)) = true then _ else some (lawLog w)) = _
      rw [if_neg (by simp; omega), e, List.drop_length]
      rfl
  rw [e8]
  refine (row_i (a := qDone w) (fun _ l => if (l.all fun x => landing w.2.2.1 w.2.1 x.2.2.2.2.1) = true then some (lawQ w && lawLog w) else some false) (fun _ _ => rfl) (hd _ h2) ?_ (fun m i x r h0 hn hw hi hx ih => ?_) (by omega)).trans ?_
  · simp only [hlog]
    exact hq _
  · dsimp only
    rw [hw, ih, f29 _ _ _ (hd _ h1) (by omega), Option.bind_some, List.all_cons]
    cases landing w.2.2.1 w.2.1 x.2.2.2.2.1 <;> rfl
  · unfold lawful lawDone
    cases (qDone w).all fun x => landing w.2.2.1 w.2.1 x.2.2.2.2.1 <;> rfl
end Go.Proofs.YtmkkoalilmgpcaaGreat.World
namespace Go.Proofs.YtmkkoalilmgpcaaGreat.World
open Go Go.V Go.Proofs
set_option linter.unusedVariables false
set_option linter.unusedSimpArgs false
set_option maxRecDepth 100000
theorem inR_last {len : Nat} (n : Int) (h : len ≤ 140737488351232) : inR n 0 (IntKind.i64.wrap ((len : Int) - 1)) = isIdx n (len : Int) := by
  rw [wrap_id (by omega) (by omega)]
  unfold inR isIdx
  have e : decide (n ≤ (len : Int) - 1) = decide (n < (len : Int)) := by
    by_cases h : n < (len : Int)
    · rw [decide_eq_true h, decide_eq_true (by omega)]
    · rw [decide_eq_false h, decide_eq_false (by omega)]
  rw [e]
theorem isIdx_pos {n : Int} {len : Nat} (h : isIdx n (len : Int) = true) : 0 ≤ n ∧ n.toNat < len := by
  unfold isIdx at h
  simp only [Bool.and_eq_true, decide_eq_true_eq] at h
  omega
/-! ### spans -/
def isSpan (s : Int × Int) : Bool := decide (s.1 ≥ 0) && (decide (s.2 ≤ 1000) && decide (s.1 < s.2))
def inSpan (s : Int × Int) (t : Int) : Bool := isSpan s && (decide (s.1 ≤ t) && decide (t < s.2))
theorem f167 {k : Nat} (s : Int × Int) (hk : 1 ≤ k) : F167 k s = some (isSpan s) := by
  obtain ⟨k, rfl⟩ := pred (d := 0) hk
  rw [e167]
  unfold isSpan
  cases decide (s.1 ≥ 0)
  · rfl
  · cases decide (s.2 ≤ 1000) <;> rfl
theorem f150 {k : Nat} (s : Int × Int) (hk : 1 ≤ k) : F150 k s = some (isSpan s) := by
  obtain ⟨k, rfl⟩ := pred (d := 0) hk
  rw [e150]
  unfold isSpan
  cases decide (s.1 ≥ 0)
  · rfl
  · cases decide (s.2 ≤ 1000) <;> rfl
theorem f145 {k : Nat} (s : Int × Int) (t : Int) (hk : 2 ≤ k) : F145 k s t = some (inSpan s t) := by
  obtain ⟨k, rfl⟩ := pred (d := 1) hk
  rw [e145, f167 s (by omega), Option.bind_some]
  unfold inSpan
  cases isSpan s
  · rfl
  · cases decide (s.1 ≤ t) <;> rfl
theorem f125 {k : Nat} (s : Int × Int) (t : Int) (hk : 2 ≤ k) : F125 k s t = some (inSpan s t) := by
  obtain ⟨k, rfl⟩ := pred (d := 1) hk
  rw [e125, f150 s (by omega), Option.bind_some]
  unfold inSpan
  cases isSpan s
  · rfl
  · cases decide (s.1 ≤ t) <;> rfl
/-! ### pieces, links -/
def pieceAt (p : T28) (t : Int) : Int := findFrom (fun (x : T193) => inSpan x.1 t) 0 p.2.2.2
theorem f120 {k : Nat} (p : T28) (t : Int) (hl : p.2.2.2.length ≤ 140737488351232) (hk : p.2.2.2.length + 4 ≤ k) : F120 k p t = some (pieceAt p t) := by
  obtain ⟨k, rfl⟩ := pred (d := 0) (show 1 ≤ k by omega)
  refine (e120 k p t).trans (row_i (a := p.2.2.2) (fun i l => some (findFrom (fun (x : T193) => inSpan x.1 t) i l)) (fun _ _ => rfl) hl rfl (fun m i x r h0 hn hw hi hx ih => ?_) (by omega))
  dsimp only
  rw [hw, ih, f145 _ _ (by omega), Option.bind_some, findFrom]
  cases inSpan x.1 t <;> rfl
theorem f148 {k : Nat} (a : List T193) (t : Int) (hl : a.length ≤ 140737488351232) (hk : a.length + 5 ≤ k) : F148v0 k a t = some (findFrom (fun (x : T193) => inSpan x.1 t) 0 a) := by
  obtain ⟨k, rfl⟩ := pred (d := 0) (show 1 ≤ k by omega)
  refine (e148v0 k a t).trans (row_i (a := a) (fun i l => some (findFrom (fun (x : T193) => inSpan x.1 t) i l)) (fun _ _ => rfl) hl rfl (fun m i x r h0 hn hw hi hx ih => ?_) (by omega))
  dsimp only
  obtain ⟨k, rfl⟩ := pred (d := 0) (show 1 ≤ k by omega)
  rw [hw, ih, e149v0, f125 _ _ (by omega), Option.bind_some, Option.bind_some, findFrom]
  cases inSpan x.1 t <;> rfl
theorem f124 {k : Nat} (p : T28) (t : Int) (hl : p.2.2.2.length ≤ 140737488351232) (hk : p.2.2.2.length + 6 ≤ k) : F124 k p t = some (pieceAt p t) := by
  obtain ⟨k, rfl⟩ := pred (d := 0) (show 1 ≤ k by omega)
  rw [e124, f148 _ _ hl (by omega)]
  rfl
def joins (a b : Int) (x : Int × Int) : Bool := (x.1 == a && x.2 == b) || (x.1 == b && x.2 == a)
def hasLink (p : T28) (q a b : Int) : Bool := if isIdx q (p.2.2.2.length : Int) then match p.2.2.2[q.toNat]? with
  | some x => x.2.1.any (joins a b)
  | none => false
  else false
theorem f119 {k : Nat} (p : T28) (q a b : Int) (hl : p.2.2.2.length ≤ 140737488351232) (N : Nat) (hN : N ≤ 140737488351232) (hx : ∀ x ∈ p.2.2.2, x.2.1.length ≤ N) (hk : N + 2 ≤ k) : F119 k p q a b = some (hasLink p q a b) := by
  obtain ⟨k, rfl⟩ := pred (d := 0) (show 1 ≤ k by omega)
  rw [e119, f91 _ _ _ (by omega), inR_last _ hl, Option.bind_some]
  unfold hasLink
  cases h : isIdx q (p.2.2.2.length : Int) with
  | false => rfl
  | true =>
    obtain ⟨h0, h1⟩ := isIdx_pos h
    simp only [Bool.not_true, Bool.false_eq_true, if_false, if_true]
    rw [if_pos h0, ix_at h1, List.getElem?_eq_getElem h1]
    have hle := hx _ (List.getElem_mem h1)
    generalize p.2.2.2[q.toNat] = z at hle
    refine row_i (a := z.2.1) (fun _ l => some (l.any (joins a b))) (fun _ _ => rfl) (Nat.le_trans hle hN) rfl (fun m i x r h0 hn hw hi hx ih => ?_) (by omega)
    dsimp only
    rw [hw, ih, hn, ix_some hx, if_pos h0, List.any_cons]
    have g1 : eqT s117 x (a, b) = (x.1 == a && x.2 == b) := rfl
    have g2 : eqT s117 x (b, a) = (x.1 == b && x.2 == a) := rfl
    rw [g1, g2]
    unfold joins
    cases (x.1 == a && x.2 == b)
    · cases (x.1 == b && x.2 == a) <;> rfl
    · rfl
theorem f147 {k : Nat} (x : Int × Int) (a b : Int) (hk : 1 ≤ k) : F147v0 k x a b = some (joins a b x) := by
  obtain ⟨k, rfl⟩ := pred (d := 0) hk
  rw [e147v0]
  unfold joins
  cases x.1 == a <;> cases x.2 == b <;> cases x.1 == b <;> rfl
theorem f168 {k : Nat} (l : List (Int × Int)) (a b : Int) (hl : l.length ≤ 140737488351232) (hk : l.length + 3 ≤ k) : F168v0 k l a b = some (findFrom (joins a b) 0 l) := by
  obtain ⟨k, rfl⟩ := pred (d := 0) (show 1 ≤ k by omega)
  refine (e168v0 k l a b).trans (row_i (a := l) (fun i l => some (findFrom (joins a b) i l)) (fun _ _ => rfl) hl rfl (fun m i x r h0 hn hw hi hx ih => ?_) (by omega))
  dsimp only
  rw [hw, ih, f147 _ _ _ (by omega), Option.bind_some, findFrom]
  cases joins a b x <;> rfl
theorem f123 {k : Nat} (p : T28) (q a b : Int) (hl : p.2.2.2.length ≤ 140737488351232) (N : Nat) (hN : N ≤ 140737488351232) (hx : ∀ x ∈ p.2.2.2, x.2.1.length ≤ N) (hk : N + 6 ≤ k) : F123 k p q a b = some (hasLink p q a b) := by
  obtain ⟨k, rfl⟩ := pred (d := 0) (show 1 ≤ k by omega)
  rw [e123, f104 _ _ (by omega), Option.bind_some]
  unfold hasLink
  cases h : isIdx q (p.2.2.2.length : Int) with
  | false => rfl
  | true =>
    obtain ⟨h0, h1⟩ := isIdx_pos h
    simp only [beq_self_eq_true, if_true]
    rw [if_pos h0, ix_at h1, List.getElem?_eq_getElem h1]
    have hle := hx _ (List.getElem_mem h1)
    generalize p.2.2.2[q.toNat] = z at hle
    obtain ⟨k, rfl⟩ := pred (d := 0) (show 1 ≤ k by omega)
    rw [e146v0, f168 _ _ _ (Nat.le_trans hle hN) (by omega), Option.bind_some, findFrom_any]
    rfl
def linked (p : T28) (a b t : Int) : Bool := hasLink p (pieceAt p t) a b
theorem f55 {k : Nat} (p : T28) (a b t : Int) (N : Nat) (hN : N ≤ 140737488351232) (hl : p.2.2.2.length ≤ N) (hx : ∀ x ∈ p.2.2.2, x.2.1.length ≤ N) (hk : N + 8 ≤ k) : F55 k p a b t = some (linked p a b t) := by
  obtain ⟨k, rfl⟩ := pred (d := 0) (show 1 ≤ k by omega)
  rw [e55, f120 _ _ (by omega) (by omega), Option.bind_some, f119 _ _ _ _ (by omega) N hN hx (by omega)]
  rfl
theorem f57 {k : Nat} (p : T28) (a b t : Int) (N : Nat) (hN : N ≤ 140737488351232) (hl : p.2.2.2.length ≤ N) (hx : ∀ x ∈ p.2.2.2, x.2.1.length ≤ N) (hk : N + 8 ≤ k) : F57 k p a b t = some (linked p a b t) := by
  obtain ⟨k, rfl⟩ := pred (d := 0) (show 1 ≤ k by omega)
  rw [e57, f124 _ _ (by omega) (by omega), Option.bind_some, f123 _ _ _ _ (by omega) N hN hx (by omega)]
  rfl
/-! ### faults -/
def downAt (n t : Int) (x : Int × Int × Int × Int) : Bool := x.1 == n && (x.2.1 == -1 && inSpan x.2.2 t)
def down (l : List (Int × Int × Int × Int)) (n t : Int) : Bool := l.any (downAt n t)
theorem f121 {k : Nat} (x : Int × Int × Int × Int) (t : Int) (hk : 3 ≤ k) : F121 k x t = some (inSpan x.2.2 t) := by
  obtain ⟨k, rfl⟩ := pred (d := 2) hk
  rw [e121, f145 _ _ (by omega)]
  rfl
theorem f122 {k : Nat} (l : List (Int × Int × Int × Int)) (n t : Int) (hl : l.length ≤ 140737488351232) (hk : l.length + 5 ≤ k) : F122 k l n t = some (down l n t) := by
  obtain ⟨k, rfl⟩ := pred (d := 0) (show 1 ≤ k by omega)
  refine (e122 k l n t).trans (row_i (a := l) (fun _ l => some (l.any (downAt n t))) (fun _ _ => rfl) hl rfl (fun m i x r h0 hn hw hi hx ih => ?_) (by omega))
  dsimp only
  simp only [hw, ih, hn, ix_some hx, if_pos h0, List.any_cons, f121 x t (show 3 ≤ k by omega), Option.bind_some]
  unfold downAt
  cases x.1 == n <;> cases x.2.1 == -1 <;> cases inSpan x.2.2 t <;> rfl
theorem f126 {k : Nat} (l : List (Int × Int × Int × Int)) (n t : Int) (hl : l.length ≤ 140737488351232) (hk : l.length + 5 ≤ k) : F126 k l n t = some (down l n t) := by
  obtain ⟨k, rfl⟩ := pred (d := 0) (show 1 ≤ k by omega)
  refine (e126 k l n t).trans (row_i (a := l) (fun _ l => some (l.any (downAt n t))) (fun _ _ => rfl) hl rfl (fun m i x r h0 hn hw hi hx ih => ?_) (by omega))
  dsimp only
  simp only [hw, ih, List.any_cons, f125 x.2.2 t (show 2 ≤ k by omega), Option.bind_some]
  unfold downAt
  cases x.1 == n <;> cases x.2.1 == -1 <;> cases inSpan x.2.2 t <;> rfl
def cutAt (a b t : Int) (x : Int × Int × Int × Int) : Bool := ((x.1 == a && x.2.1 == b) || (x.1 == b && x.2.1 == a)) && inSpan x.2.2 t
def cut (l : List (Int × Int × Int × Int)) (a b t : Int) : Bool := l.any (cutAt a b t) || (down l a t || down l b t)
theorem f56 {k : Nat} (l : List (Int × Int × Int × Int)) (a b t : Int) (hl : l.length ≤ 140737488351232) (hk : l.length + 6 ≤ k) : F56 k l a b t = some (cut l a b t) := by
  obtain ⟨k, rfl⟩ := pred (d := 0) (show 1 ≤ k by omega)
  rw [e56, f122 l a t hl (by omega), f122 l b t hl (by omega)]
  simp only [Option.bind_some]
  refine (row_i (a := l) (fun _ m => some (m.any (cutAt a b t) || (down l a t || down l b t))) (fun _ _ => rfl) hl ?_ (fun m i x r h0 hn hw hi hx ih => ?_) (by omega))
  · cases down l a t <;> cases down l b t <;> rfl
  · dsimp only
    simp only [hw, ih, hn, ix_some hx, if_pos h0, List.any_cons, f121 x t (show 3 ≤ k by omega), Option.bind_some]
    unfold cutAt
    cases x.1 == a <;> cases x.2.1 == b <;> cases x.1 == b <;> cases x.2.1 == a <;> cases inSpan x.2.2 t <;> rfl
theorem f58 {k : Nat} (l : List (Int × Int × Int × Int)) (a b t : Int) (hl : l.length ≤ 140737488351232) (hk : l.length + 6 ≤ k) : F58 k l a b t = some (cut l a b t) := by
  obtain ⟨k, rfl⟩ := pred (d := 0) (show 1 ≤ k by omega)
  rw [e58, f126 l a t hl (by omega), f126 l b t hl (by omega)]
  simp only [Option.bind_some]
  refine (row_i (a := l) (fun _ m => some (m.any (cutAt a b t) || (down l a t || down l b t))) (fun _ _ => rfl) hl ?_ (fun m i x r h0 hn hw hi hx ih => ?_) (by omega))
  · cases down l a t <;> cases down l b t <;> rfl
  · dsimp only
    simp only [hw, ih, List.any_cons, f125 x.2.2 t (show 2 ≤ k by omega), Option.bind_some]
    unfold cutAt
    cases x.1 == a <;> cases x.2.1 == b <;> cases x.1 == b <;> cases x.2.1 == a <;> cases inSpan x.2.2 t <;> rfl
/-! ### IsInContact -/
abbrev qFaults (w : TW) := w.2.2.2.2.2.2.2.2.2.1
def contactAt (w : TW) (x : Int × Int × Int × Int) : Bool := linked w.2.1 x.2.1 x.2.2.1 x.1 && !cut (qFaults w) x.2.1 x.2.2.1 x.1
def inContact (w : TW) : Bool := (qLog w).all (contactAt w)
theorem f12 {k : Nat} (w : TW) (N : Nat) (hN : N ≤ 1048576) (h1 : (qLog w).length ≤ N) (h2 : (qFaults w).length ≤ N) (h3 : w.2.1.2.2.2.length ≤ N) (h4 : ∀ x ∈ w.2.1.2.2.2, x.2.1.length ≤ N) (hk : N + 10 ≤ k) : F12 k w = some (inContact w) := by
  obtain ⟨k, rfl⟩ := pred (d := 0) (show 1 ≤ k by omega)
  refine (e12 k w).trans (row_i (a := qLog w) (fun _ l => some (l.all (contactAt w))) (fun _ _ => rfl) (by omega) rfl (fun m i x r h0 hn hw hi hx ih => ?_) (by omega))
  dsimp only
  have g1 := f55 (k := k) w.2.1 x.2.1 x.2.2.1 x.1 N (by omega) h3 h4 (by omega)
  have g2 := f56 (k := k) (qFaults w) x.2.1 x.2.2.1 x.1 (by omega) (by omega)
  simp only [hw, ih, g1, Option.bind_some, g2, List.all_cons]
  unfold contactAt
  cases linked w.2.1 x.2.1 x.2.2.1 x.1 <;> cases cut (qFaults w) x.2.1 x.2.2.1 x.1 <;> rfl
theorem f13 {k : Nat} (w : TW) (N : Nat) (hN : N ≤ 1048576) (h1 : (qLog w).length ≤ N) (h2 : (qFaults w).length ≤ N) (h3 : w.2.1.2.2.2.length ≤ N) (h4 : ∀ x ∈ w.2.1.2.2.2, x.2.1.length ≤ N) (hk : N + 10 ≤ k) : F13 k w = some (inContact w) := by
  obtain ⟨k, rfl⟩ := pred (d := 0) (show 1 ≤ k by omega)
  refine (e13 k w).trans (row_i (a := qLog w) (fun _ l => some (l.all (contactAt w))) (fun _ _ => rfl) (by omega) rfl (fun m i x r h0 hn hw hi hx ih => ?_) (by omega))
  dsimp only
  have g1 := f57 (k := k) w.2.1 x.2.1 x.2.2.1 x.1 N (by omega) h3 h4 (by omega)
  have g2 := f58 (k := k) (qFaults w) x.2.1 x.2.2.1 x.1 (by omega) (by omega)
  simp only [hw, ih, g1, Option.bind_some, g2, List.all_cons]
  unfold contactAt
  cases linked w.2.1 x.2.1 x.2.2.1 x.1 <;> cases cut (qFaults w) x.2.1 x.2.2.1 x.1 <;> rfl
end Go.Proofs.YtmkkoalilmgpcaaGreat.World
namespace Go.Proofs.YtmkkoalilmgpcaaGreat.World
open Go Go.V Go.Proofs
set_option linter.unusedVariables false
set_option linter.unusedSimpArgs false
set_option maxRecDepth 100000
/-! ### angles -/
theorem tmod_neg' (a : Int) (h : a < 0) : a.tmod 360 = -((-a) % 360) := by
  have : a = -(-a) := by omega
  rw [this, Int.neg_tmod, Int.tmod_eq_emod_of_nonneg (by omega)]
  simp
def angle (n : Int) : Int := n % 360
theorem angle_range (n : Int) : 0 ≤ angle n ∧ angle n < 360 := by unfold angle; omega
theorem f180 {k : Nat} (n : Int) (hk : 2 ≤ k) : F180 k n 360 = some (angle n) := by
  obtain ⟨k, rfl⟩ := pred (d := 1) hk
  rw [e180, f91 _ _ _ (by omega)]
  have e : inR 360 1 1000000000000 = true := by decide
  rw [e, Option.bind_some, if_neg (by decide), if_neg (by decide), if_neg (by decide)]
  congr 1
  unfold angle
  by_cases h : 0 ≤ n
  · rw [Int.tmod_eq_emod_of_nonneg h, wrap_id (by omega) (by omega), Int.tmod_eq_emod_of_nonneg (by omega)]
    omega
  · rw [tmod_neg' n (by omega), wrap_id (by omega) (by omega), Int.tmod_eq_emod_of_nonneg (by omega)]
    omega
theorem f183 {k : Nat} (n : Int) (hk : 2 ≤ k) : F183 k n 360 = some (angle n) := by
  obtain ⟨k, rfl⟩ := pred (d := 1) hk
  rw [e183, f106 _ _ _ (by omega)]
  have e : inR 360 1 1000000000000 = true := by decide
  rw [e, Option.bind_some, if_neg (by decide), if_neg (by decide)]
  unfold angle
  by_cases h : 0 ≤ n
  · rw [Int.tmod_eq_emod_of_nonneg h, if_neg (by simp; omega)]
  · rw [tmod_neg' n (by omega)]
    split
    · rename_i h2
      simp only [decide_eq_true_eq] at h2
      rw [wrap_id (by omega) (by omega)]
      congr 1
      omega
    · rename_i h2
      simp only [decide_eq_true_eq] at h2
      congr 1
      omega
theorem f169 {k : Nat} (n : Int) (hk : 3 ≤ k) : F169 k n = some (angle n) := by
  obtain ⟨k, rfl⟩ := pred (d := 2) hk
  rw [e169, f180 _ (by omega)]
  rfl
theorem f173 {k : Nat} (n : Int) (hk : 3 ≤ k) : F173 k n = some (angle n) := by
  obtain ⟨k, rfl⟩ := pred (d := 2) hk
  rw [e173, f183 _ (by omega)]
  rfl
/-! ### arcs -/
def inArc (x : Int × Int) (a : Int) : Bool := decide (angle (angle a - angle x.1) ≤ x.2)
theorem angle_sub (a b : Int) : IntKind.i64.wrap (angle a - angle b) = angle a - angle b := by
  have := angle_range a
  have := angle_range b
  exact wrap_id (by omega) (by omega)
theorem f151 {k : Nat} (x : Int × Int) (a : Int) (hk : 4 ≤ k) : F151 k x a = some (decide (x.2 ≥ 0) && inArc x a) := by
  obtain ⟨k, rfl⟩ := pred (d := 3) hk
  rw [e151, f169 _ (by omega), Option.bind_some, f169 _ (by omega), Option.bind_some, f169 _ (by omega), Option.bind_some, angle_sub]
  unfold inArc
  cases decide (x.2 ≥ 0) <;> rfl
theorem f156 {k : Nat} (x : Int × Int) (a : Int) (hk : 4 ≤ k) : F156 k x a = some (inArc x a) := by
  obtain ⟨k, rfl⟩ := pred (d := 3) hk
  rw [e156, f173 _ (by omega), Option.bind_some, f173 _ (by omega), Option.bind_some, f173 _ (by omega), Option.bind_some, angle_sub]
  rfl
def meet (x y : Int × Int) : Bool := decide (x.2 ≥ 0) && (decide (y.2 ≥ 0) && (inArc x y.1 || inArc y x.1))
theorem f127 {k : Nat} (x y : Int × Int) (hk : 5 ≤ k) : F127 k x y = some (meet x y) := by
  obtain ⟨k, rfl⟩ := pred (d := 4) hk
  rw [e127, f151 _ _ (by omega), Option.bind_some, f151 _ _ (by omega), Option.bind_some]
  unfold meet
  cases decide (x.2 ≥ 0)
  · rfl
  · cases decide (y.2 ≥ 0)
    · rfl
    · cases inArc x y.1 <;> rfl
/-- Is there an angle from i on, in both? -/
def meetFrom (x y : Int × Int) (i : Nat) : Bool := (List.range' i (360 - i)).any fun (a : Nat) => inArc x (a : Int) && inArc y (a : Int)
theorem meet_iff (x y : Int × Int) : meetFrom x y 0 = meet x y := by
  rw [Bool.eq_iff_iff]
  unfold meetFrom meet inArc
  simp only [List.any_eq_true, List.mem_range', Bool.and_eq_true, decide_eq_true_eq, Bool.or_eq_true]
  unfold angle
  constructor
  · rintro ⟨a, ⟨i, hi, rfl⟩, h1, h2⟩
    omega
  · rintro ⟨h1, h2, h3 | h3⟩
    · exact ⟨(y.1 % 360).toNat, ⟨(y.1 % 360).toNat, by omega, by omega⟩, by omega, by omega⟩
    · exact ⟨(x.1 % 360).toNat, ⟨(x.1 % 360).toNat, by omega, by omega⟩, by omega, by omega⟩
theorem f131 {k : Nat} (x y : Int × Int) (hk : 370 ≤ k) : F131 k x y = some (meet x y) := by
  obtain ⟨k, rfl⟩ := pred (d := 369) hk
  rw [e131, ← meet_iff]
  refine up_loop0 (len := 360) (fun i => some (meetFrom x y i)) (by decide) (fun n i hi h0 hn hw ih => ?_) (by omega)
  show (if decide ((i : Int) < 360) = true then (F156 k x (i : Int)).bind _ else _) = _
  by_cases hlt : i < 360
  · have ih := ih hlt
    have e : meetFrom x y i = ((inArc x (i : Int) && inArc y (i : Int)) || meetFrom x y (i + 1)) := by
      unfold meetFrom
      have : 360 - i = (360 - (i + 1)) + 1 := by omega
      rw [this, List.range'_succ, List.any_cons]
    rw [if_pos (by simp; omega), f156 _ _ (by omega), Option.bind_some, f156 _ _ (by omega), hw, ih, e]
    cases inArc x (i : Int) <;> cases inArc y (i : Int) <;> rfl
  · have e : i = 360 := by omega
    subst e
    rfl
/-! ### places -/
def speed (v : Int) : Int := if inR v (-60) 60 then v else 0
theorem f171 {k : Nat} (v : Int) (hk : 2 ≤ k) : F171 k v = some (speed v) := by
  obtain ⟨k, rfl⟩ := pred (d := 1) hk
  rw [e171, f91 _ _ _ (by omega), Option.bind_some]
  unfold speed
  cases inR v (-60) 60 <;> rfl
theorem f174 {k : Nat} (s : Int × Int × Int × Int) (hk : 2 ≤ k) : F174 k s = some (speed s.2.2.1) := by
  obtain ⟨k, rfl⟩ := pred (d := 1) hk
  rw [e174, f106 _ _ _ (by omega), Option.bind_some]
  unfold speed
  cases inR s.2.2.1 (-60) 60 <;> rfl
def placeAt (s : Int × Int × Int × Int) (t : Int) : Int := angle (IntKind.i64.wrap (angle s.2.1 + IntKind.i64.wrap (speed s.2.2.1 * (if inR t 0 1000 then t else 0))))
theorem f153 {k : Nat} (s : Int × Int × Int × Int) (t : Int) (hk : 4 ≤ k) : F153 k s t = some (placeAt s t) := by
  obtain ⟨k, rfl⟩ := pred (d := 3) hk
  simp only [e153, f91 t 0 1000 (show 1 ≤ k by omega), Option.bind_some, f169 s.2.1 (show 3 ≤ k by omega), f171 s.2.2.1 (show 2 ≤ k by omega)]
  unfold placeAt
  cases inR t 0 1000
  · simp only [Bool.not_false, if_true, Bool.false_eq_true, if_false]
    rw [f169 _ (by omega)]
    rfl
  · simp only [Bool.not_true, if_true, Bool.false_eq_true, if_false]
    rw [f169 _ (by omega)]
    rfl
theorem f155 {k : Nat} (s : Int × Int × Int × Int) (t : Int) (hk : 4 ≤ k) : F155 k s t = some (placeAt s t) := by
  obtain ⟨k, rfl⟩ := pred (d := 3) hk
  simp only [e155, f106 t 0 1000 (show 1 ≤ k by omega), Option.bind_some, f173 s.2.1 (show 3 ≤ k by omega), f174 s (show 2 ≤ k by omega)]
  unfold placeAt
  cases inR t 0 1000
  · simp only [Bool.not_false, if_true, Bool.false_eq_true, if_false]
    rw [f173 _ (by omega)]
    rfl
  · simp only [Bool.not_true, if_true, Bool.false_eq_true, if_false]
    rw [f173 _ (by omega)]
    rfl
def widen (x : Int × Int) (by_ : Int) : Int × Int := if inR by_ 0 360 && inR x.2 0 359 then (angle (IntKind.i64.wrap (angle x.1 - by_)), mn (IntKind.i64.wrap (x.2 + IntKind.i64.wrap (2 * by_))) 359) else (angle x.1, x.2)
theorem f170 {k : Nat} (x : Int × Int) (n : Int) (hk : 4 ≤ k) : F170 k x n = some (widen x n) := by
  obtain ⟨k, rfl⟩ := pred (d := 3) hk
  simp only [e170, f91 n 0 360 (show 1 ≤ k by omega), f91 x.2 0 359 (show 1 ≤ k by omega), Option.bind_some, f169 x.1 (show 3 ≤ k by omega), f169 (IntKind.i64.wrap (angle x.1 - n)) (show 3 ≤ k by omega)]
  obtain ⟨k, rfl⟩ := pred (d := 2) (show 3 ≤ k by omega)
  rw [e181]
  unfold widen mn
  cases inR n 0 360
  · rfl
  · cases inR x.2 0 359
    · rfl
    · simp only [Bool.not_true, beq_self_eq_true, if_true, Bool.false_eq_true, if_false, Bool.and_self]
      generalize IntKind.i64.wrap (x.2 + IntKind.i64.wrap (2 * n)) = z
      by_cases h1 : z < 359
      · rw [if_pos (by simpa using h1), Option.bind_some, if_neg (by omega)]
      · rw [if_neg (by simpa using h1), Option.bind_some]
        by_cases h2 : 359 < z
        · rw [if_pos h2]
        · rw [if_neg h2]
          have : z = 359 := by omega
          rw [this]
theorem f182 {k : Nat} (n : Int) (hk : 2 ≤ k) : F182 k n = some (inR n 0 359) := by
  obtain ⟨k, rfl⟩ := pred (d := 1) hk
  rw [e182, f106 _ _ _ (by omega)]
  rfl
theorem f172 {k : Nat} (x : Int × Int) (n : Int) (hk : 4 ≤ k) : F172 k x n = some (widen x n) := by
  obtain ⟨k, rfl⟩ := pred (d := 3) hk
  simp only [e172, f106 n 0 360 (show 1 ≤ k by omega), f182 x.2 (show 2 ≤ k by omega), Option.bind_some, f173 x.1 (show 3 ≤ k by omega), f173 (IntKind.i64.wrap (angle x.1 - n)) (show 3 ≤ k by omega)]
  unfold widen
  cases inR n 0 360
  · rfl
  · cases inR x.2 0 359 <;> rfl
def placesAt (s : Int × Int × Int × Int) (t : Int) : Int × Int := widen (placeAt s t, 0) s.2.2.2
theorem f152 {k : Nat} (s : Int × Int × Int × Int) (t : Int) (hk : 5 ≤ k) : F152 k s t = some (placesAt s t) := by
  obtain ⟨k, rfl⟩ := pred (d := 4) hk
  rw [e152, f153 _ _ (by omega), Option.bind_some, f170 _ _ (by omega)]
  rfl
theorem f154 {k : Nat} (s : Int × Int × Int × Int) (t : Int) (hk : 5 ≤ k) : F154 k s t = some (placesAt s t) := by
  obtain ⟨k, rfl⟩ := pred (d := 4) hk
  rw [e154, f155 _ _ (by omega), Option.bind_some, f172 _ _ (by omega)]
  rfl
/-- Where a satellite may be. -/
def satAt (s : T25) (n t : Int) : Int × Int := match s.2.1[n.toNat]? with
  | some x => placesAt x t
  | none => (0, 0)
def isSat (s : T25) (n : Int) : Bool := isIdx n (s.2.1.length : Int)
theorem f128 {k : Nat} (s : T25) (n t : Int) (hl : s.2.1.length ≤ 140737488351232) (h : isSat s n = true) (hk : 6 ≤ k) : F128 k s n t = some (satAt s n t) := by
  obtain ⟨k, rfl⟩ := pred (d := 5) hk
  have h' : isIdx n (s.2.1.length : Int) = true := h
  obtain ⟨h0, h1⟩ := isIdx_pos h'
  rw [e128, f91 _ _ _ (by omega), inR_last _ hl, h', Option.bind_some, if_pos rfl, if_pos h0, ix_at h1, f152 _ _ (by omega)]
  unfold satAt
  rw [List.getElem?_eq_getElem h1]
  rfl
theorem f129 {k : Nat} (s : T25) (n : Int) (hl : s.2.1.length ≤ 140737488351232) (hk : 2 ≤ k) : F129 k s n = some (isSat s n) := by
  obtain ⟨k, rfl⟩ := pred (d := 1) hk
  rw [e129, f106 _ _ _ (by omega), inR_last _ hl]
  rfl
theorem f130 {k : Nat} (s : T25) (n t : Int) (hl : s.2.1.length ≤ 140737488351232) (h : isSat s n = true) (hk : 6 ≤ k) : F130 k s n t = some (satAt s n t) := by
  obtain ⟨k, rfl⟩ := pred (d := 5) hk
  have h' : isIdx n (s.2.1.length : Int) = true := h
  obtain ⟨h0, h1⟩ := isIdx_pos h'
  rw [e130, f129 _ _ hl (by omega), h, Option.bind_some, if_pos rfl, if_pos h0, ix_at h1, f154 _ _ (by omega)]
  unfold satAt
  rw [List.getElem?_eq_getElem h1]
  rfl
/-! ### MayDisturb, IsQuiet -/
def planeAt (s : T25) (n : Int) : Int := match s.2.1[n.toNat]? with
  | some x => x.1
  | none => 0
def disturbs (s : T25) (n t : Int) : Bool := isSat s n && s.2.2.2.2.2.2.2.2.1.any fun z => z.1 == planeAt s n && meet (satAt s n t) z.2
theorem f59 {k : Nat} (s : T25) (n t : Int) (hl : s.2.1.length ≤ 140737488351232) (hz : s.2.2.2.2.2.2.2.2.1.length ≤ 140737488351232) (hk : s.2.2.2.2.2.2.2.2.1.length + 10 ≤ k) : F59 k s n t = some (disturbs s n t) := by
  obtain ⟨k, rfl⟩ := pred (d := 0) (show 1 ≤ k by omega)
  rw [e59, f91 _ _ _ (by omega), inR_last _ hl, Option.bind_some]
  unfold disturbs
  cases h : isSat s n with
  | false =>
    have h' : isIdx n (s.2.1.length : Int) = false := h
    rw [h']
    rfl
  | true =>
    have h' : isIdx n (s.2.1.length : Int) = true := h
    obtain ⟨g0, g1⟩ := isIdx_pos h'
    rw [h', if_neg (by decide), Bool.true_and]
    refine row_i (a := s.2.2.2.2.2.2.2.2.1) (fun _ l => some (l.any fun z => z.1 == planeAt s n && meet (satAt s n t) z.2)) (fun _ _ => rfl) hz rfl (fun m i x r h0 hn hw hi hx ih => ?_) (by omega)
    dsimp only
    have a1 := f128 (k := k) s n t hl h (by omega)
    have a2 := f127 (k := k) (satAt s n t) x.2 (by omega)
    have a3 : planeAt s n = s.2.1[n.toNat].1 := by unfold planeAt; rw [List.getElem?_eq_getElem g1]
    simp only [hw, ih, hn, ix_some hx, if_pos h0, if_pos g0, ix_at g1, a1, a2, Option.bind_some, List.any_cons, a3]
    cases x.1 == s.2.1[n.toNat].1 <;> cases meet (satAt s n t) x.2 <;> rfl
theorem f60 {k : Nat} (s : T25) (n t : Int) (hl : s.2.1.length ≤ 140737488351232) (hz : s.2.2.2.2.2.2.2.2.1.length ≤ 140737488351232) (hk : s.2.2.2.2.2.2.2.2.1.length + 380 ≤ k) : F60 k s n t = some (disturbs s n t) := by
  obtain ⟨k, rfl⟩ := pred (d := 0) (show 1 ≤ k by omega)
  rw [e60, f129 _ _ hl (by omega), Option.bind_some]
  unfold disturbs
  cases h : isSat s n with
  | false => rfl
  | true =>
    have h' : isIdx n (s.2.1.length : Int) = true := h
    obtain ⟨g0, g1⟩ := isIdx_pos h'
    rw [if_neg (by decide), Bool.true_and, f130 s n t hl h (by omega), Option.bind_some]
    refine row_i (a := s.2.2.2.2.2.2.2.2.1) (fun _ l => some (l.any fun z => z.1 == planeAt s n && meet (satAt s n t) z.2)) (fun _ _ => rfl) hz rfl (fun m i x r h0 hn hw hi hx ih => ?_) (by omega)
    dsimp only
    have a2 := f131 (k := k) (satAt s n t) x.2 (by omega)
    have a3 : planeAt s n = s.2.1[n.toNat].1 := by unfold planeAt; rw [List.getElem?_eq_getElem g1]
    simp only [hw, ih, if_pos g0, ix_at g1, a2, Option.bind_some, List.any_cons, a3]
    cases x.1 == s.2.1[n.toNat].1 <;> cases meet (satAt s n t) x.2 <;> rfl
def quietAt (w : TW) (x : Int × Int × Int × Int) : Bool := !(disturbs w.1 x.2.1 x.1 || disturbs w.1 x.2.2.1 x.1)
def quiet (w : TW) : Bool := (qLog w).all (quietAt w)
theorem f14 {k : Nat} (w : TW) (N : Nat) (hN : N ≤ 1048576) (h1 : (qLog w).length ≤ N) (h2 : w.1.2.1.length ≤ N) (h3 : w.1.2.2.2.2.2.2.2.2.1.length ≤ N) (hk : N + 400 ≤ k) : F14 k w = some (quiet w) := by
  obtain ⟨k, rfl⟩ := pred (d := 0) (show 1 ≤ k by omega)
  refine (e14 k w).trans (row_i (a := qLog w) (fun _ l => some (l.all (quietAt w))) (fun _ _ => rfl) (by omega) rfl (fun m i x r h0 hn hw hi hx ih => ?_) (by omega))
  dsimp only
  have g1 := f59 (k := k) w.1 x.2.1 x.1 (by omega) (by omega) (by omega)
  have g2 := f59 (k := k) w.1 x.2.2.1 x.1 (by omega) (by omega) (by omega)
  simp only [hw, ih, g1, Option.bind_some, g2, List.all_cons]
  unfold quietAt
  cases disturbs w.1 x.2.1 x.1 <;> cases disturbs w.1 x.2.2.1 x.1 <;> rfl
theorem f15 {k : Nat} (w : TW) (N : Nat) (hN : N ≤ 1048576) (h1 : (qLog w).length ≤ N) (h2 : w.1.2.1.length ≤ N) (h3 : w.1.2.2.2.2.2.2.2.2.1.length ≤ N) (hk : N + 400 ≤ k) : F15 k w = some (quiet w) := by
  obtain ⟨k, rfl⟩ := pred (d := 0) (show 1 ≤ k by omega)
  refine (e15 k w).trans (row_i (a := qLog w) (fun _ l => some (l.all (quietAt w))) (fun _ _ => rfl) (by omega) rfl (fun m i x r h0 hn hw hi hx ih => ?_) (by omega))
  dsimp only
  have g1 := f60 (k := k) w.1 x.2.1 x.1 (by omega) (by omega) (by omega)
  have g2 := f60 (k := k) w.1 x.2.2.1 x.1 (by omega) (by omega) (by omega)
  simp only [hw, ih, g1, Option.bind_some, g2, List.all_cons]
  unfold quietAt
  cases disturbs w.1 x.2.1 x.1 <;> cases disturbs w.1 x.2.2.1 x.1 <;> rfl
end Go.Proofs.YtmkkoalilmgpcaaGreat.World
namespace Go.Proofs.YtmkkoalilmgpcaaGreat.World
open Go Go.V Go.Proofs
set_option linter.unusedVariables false
set_option linter.unusedSimpArgs false
set_option maxRecDepth 100000
theorem law5 (w : T40) (hr : rowsLe 140737488351232 s40 w) : ∃ k, F5 k w = some true := by
  refine ⟨szT s40 w + 500, ?_⟩
  rw [e5, z7 _ w 1048576 hr (by omega) (by omega) (by omega), Option.bind_some]
  by_cases hz : szT s40 w ≤ 1048576
  · rw [szR_pos (by omega), if_neg (by simp; omega)]
    have hrow := rows_le s40 w _ (Nat.le_refl _)
    have h1 : (qLog w).length ≤ szT s40 w := (rowsLe_row hrow.2.2.2.2.2.2.2.2.2.2.2.2.2).1
    have h2 : w.1.2.1.length ≤ szT s40 w := (rowsLe_row hrow.1.2.1).1
    have h3 : w.1.2.2.2.2.2.2.2.2.1.length ≤ szT s40 w := (rowsLe_row hrow.1.2.2.2.2.2.2.2.2.1).1
    have e60 : szT s60 w = szT s40 w := rfl
    rw [t9 _ w hz (by omega), Option.bind_some, f14 w _ hz h1 h2 h3 (by omega), Option.bind_some, Option.bind_some, f15 w _ hz h1 h2 h3 (by omega), Option.bind_some]
    rw [if_neg (by simp), Option.bind_some, q11 _ w (by rw [e60]; exact hz) (by rw [e60]; omega), Option.bind_some]
    rfl
  · rw [szR_neg (by omega), if_pos (by decide)]
end Go.Proofs.YtmkkoalilmgpcaaGreat.World
namespace Go.Proofs.YtmkkoalilmgpcaaGreat.World
open Go Go.V Go.Proofs
open Go.ChangeShapes Go.WideShapes Go.ChangeAt Go.RowKit
set_option linter.unusedVariables false
set_option maxRecDepth 100000
theorem tyOk : ∀ t i, E.ty t = some i → TyOk E.P t i := by
  intro t i h
  replace h : ty t = some i := h
  unfold ty at h
  split at h <;> first | (cases h; done) | (cases h; exact ⟨by kernel_rfl, by kernel_rfl⟩)
theorem fnOk : ∀ f F, E.fn f = some F → E.P.funcs[f]? = some F ∧ F.name ≠ "runtime.NumGoroutine" ∧ ∀ c, F.body = some c → codeOk c = true := by
  intro f F h
  replace h : fn f = some F := h
  unfold fn at h
  split at h <;> first | (cases h; done) | (cases h; exact ⟨by kernel_rfl, of_decide_eq_true (by kernel_rfl), fun c hc => by cases hc; kernel_rfl⟩)
theorem envOk : EnvOk E := ⟨tyOk, fun f F h => (fnOk f F h).1, fun f F h => (fnOk f F h).2.1, by kernel_rfl⟩
theorem sound (k : Nat) : CallOk E (den E k) := den_sound envOk (fun f F c h => (fnOk f F h).2.2 c) (fun f g h => by cases h) k
end Go.Proofs.YtmkkoalilmgpcaaGreat.World
namespace Go.Proofs.YtmkkoalilmgpcaaGreat.World
open Go Go.V Go.Proofs
open Go.ChangeShapes Go.WideShapes Go.ChangeAt Go.RowKit
set_option linter.unusedVariables false
set_option maxRecDepth 100000
theorem walk5 {k : Nat} {y0 : TW} (h : F5 k y0 = some true) {W : World} {v0 : Value} (h0 : VA W (fun _ => True) (fun _ => undef) (argAV s40 y0) v0) (l0 : (argAV s40 y0).lt 0) :
    Calls Tryz.prog 5 #[v0] W fun e W' => e = .returned (.bool true) ∧ Go.RowKit.Below W.heap.size W W' := by
  have hs := (sound k) 5 [argAV s40 y0] true h
  refine (hs.2 (fun _ => True) W [v0] (by intro x hx; simp at hx; rw [hx]; exact l0) ⟨h0, trivial⟩).mono ?_
  rintro e W' ⟨v, rfl, hb, hr⟩
  exact ⟨by rw [resOk_bool hr], hb⟩
theorem own : ownKnob Tryz.prog.godebug = none := by kernel_rfl
theorem lifted (os : Os) (started : os.Started) (H : Type) (enc : TypeId × Value → H) :
    ReturnsInHanded {} Tryz.checked os 5 .any (YtmkkoalilmgpcaaGreat.Rows.fnExactIsQuietSpec.pre6 enc Tryz.prog Tryz.f5 YtmkkoalilmgpcaaGreat.Rows.fnExactIsQuietRow.domain false) (YtmkkoalilmgpcaaGreat.Rows.fnExactIsQuietSpec.post enc Tryz.prog Tryz.f5 false true false false) := by
  refine returnsInHanded_of_change_sized (C := Tryz.checked) own started (by kernel_rfl) Tryz.func5
    (ChangeSpec.witness6 (enc := enc) (C := Tryz.checked) false ⟨#[], #[.agg #[(.int .i64 0), (.slice none 0 0), (.slice none 0 0), (.int .i64 0), (.int .i64 0), (.int .i64 0), (.int .i64 0), (.int .i64 0), (.slice none 0 0), (.int .i64 0), (.int .i64 0), (.int .i64 0), (.int .i64 0), (.slice none 0 0), (.slice none 0 0), (.slice none 0 0), (.slice none 0 0), (.slice none 0 0), (.slice none 0 0), (.slice none 0 0), (.slice none 0 0), (.slice none 0 0), (.int .i64 0), (.int .i64 0), (.slice none 0 0), (.slice none 0 0)]], []⟩ 8 (by kernel_rfl) (by kernel_rfl) (by kernel_rfl) (by kernel_rfl)) ?_
  intro W base args ds gs before hval0 hW hcnd hsz0 _
  have hsz : (DataW.weightsEach Tryz.prog (Tryz.f5.params.toList ++ YtmkkoalilmgpcaaGreat.Rows.fnExactIsQuietSpec.plain.varTypes Tryz.prog) (ds ++ gs)).all (· ≤ reachBytes) = true := hsz0
  have hval : ∀ (j : Nat) t v, Tryz.f5.params[j]? = some t → args[j]? = some v → Value.okWide Tryz.prog W .any base t v := hval0
  have hW' := hW
  obtain ⟨p, q, hA0, hV, rfl, hfz, hnd⟩ := hW
  have hA : DataW.TrodAll enc Tryz.prog W 0 (fun _ => true) true Tryz.f5.params.toList args.toList ds p := hA0
  have hAA := hA
  rw [Tryz.params5] at hA hval hsz
  obtain ⟨v0, vs0, d0, ds0, p0, q0, hargs, rfl, rfl, h0, r0⟩ := trodAll_cons hA
  obtain ⟨rfl, rfl, rfl⟩ := trodAll_nil r0
  obtain rfl : args = #[v0] := by cases args; simp_all
  obtain ⟨rfl, rfl⟩ := trodVars_none hV
  have hwt0 : ∀ n ∈ d0.weights Tryz.prog 41, n ≤ reachBytes := by
    intro n hn
    have := List.all_eq_true.1 hsz n (by simp [DataW.weightsEach, hn])
    simpa using this
  obtain ⟨y0, a0, b0, w0⟩ := arg_VA (sh := s40) (by kernel_rfl) (hval 0 41 v0 rfl rfl) h0 hwt0
  obtain ⟨k, hk⟩ := law5 y0 (rows_wf (P := Tryz.prog) s40 y0 (by kernel_rfl) w0)
  have hlt : ∀ x ∈ p0 ++ [], x.block < W.heap.size := fun x hx => hW'.lt x (by simpa using hx)
  refine (walk5 hk a0 b0).mono fun e W' ⟨he, bel⟩ => ?_
  subst he
  exact ⟨_, rfl, _, _, _, [], _, [], hW', trodAll_mk1 (shut_bool Tryz.underlying4 _), below_trodAll (by kernel_rfl) bel _ _ _ _ (by kernel_rfl) hAA hlt, rfl, bel.frame _, fun h => by cases h⟩
theorem over : YtmkkoalilmgpcaaGreat.Rows.fnExactIsQuietRow.holds YtmkkoalilmgpcaaGreat.Tryz.pinned (OpenSpec.ofChange YtmkkoalilmgpcaaGreat.Rows.fnExactIsQuietSpec) :=
  OpenClaim.holds_of_wide 5 Tryz.f5 rfl rfl rfl rfl rfl rfl rfl ⟨rfl, rfl, rfl, rfl, rfl⟩ rfl rfl rfl rfl rfl (by kernel_rfl) Tryz.func5 (by kernel_rfl)
    (of_decide_eq_true (by kernel_rfl)) (by unfold Func.isWrapper; first | (rw [if_pos (by decide +kernel)]; kernel_rfl) | (rw [if_neg (by decide +kernel)]; exact ⟨rfl, rfl⟩))
    (fun os started H enc _ => lifted os started H enc)
end Go.Proofs.YtmkkoalilmgpcaaGreat.World
namespace Go.Proofs.YtmkkoalilmgpcaaGreat
/-- The row, under a short name. -/
theorem fnExactIsQuiet_holds : Rows.FnExactIsQuietSaid := World.over
end Go.Proofs.YtmkkoalilmgpcaaGreat
