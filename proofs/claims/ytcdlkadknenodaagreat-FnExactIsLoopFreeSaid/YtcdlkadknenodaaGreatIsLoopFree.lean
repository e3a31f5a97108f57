/- 'laws.FnExactIsLoopFree' returns true for every input. No condition. -/
import Derived.Test.YtcdlkadknenodaaGreatWp
import Derived.Test.YtcdlkadknenodaaGreatRows
import Derived.Test.YtcdlkadknenodaaGreatChecked
import Derived.KernelRfl
namespace Go.Proofs.YtcdlkadknenodaaGreat.World
open Go Go.V Go.Proofs
set_option linter.unusedVariables false
set_option linter.unusedSimpArgs false
set_option maxRecDepth 100000
set_option maxHeartbeats 4000000
abbrev TW := TWorld
abbrev TT : Type := Int × (List Int) × List Int
theorem bs {α β : Type} {o : Option α} {v : α} {f : α → Option β} (h : o = some v) : o.bind f = f v := by rw [h]; rfl
theorem pred {k d : Nat} (h : d + 1 ≤ k) : ∃ q, k = q + 1 := ⟨k - 1, by omega⟩
/-! ### numbers, rows -/
def isIdx (a b : Int) : Bool := decide (a ≥ 0) && decide (a < b)
def inR (n a b : Int) : Bool := decide (a ≤ n) && decide (n ≤ b)
theorem fiisIndex {k : Nat} (a b : Int) (hk : 1 ≤ k) : FiisIndex k a b = some (isIdx a b) := by
  obtain ⟨k, rfl⟩ := pred (d := 0) hk
  rw [eiisIndex]
  unfold isIdx
  cases decide (a ≥ 0) <;> rfl
theorem fiInRange {k : Nat} (n a b : Int) (hk : 1 ≤ k) : FiInRange k n a b = some (inR n a b) := by
  obtain ⟨k, rfl⟩ := pred (d := 0) hk
  rw [eiInRange]
  unfold inR
  cases decide (a ≤ n) <;> rfl
theorem inR_last {len : Nat} (n : Int) (h : len ≤ 140737488351232) : inR n 0 (IntKind.i64.wrap ((len : Int) - 1)) = isIdx n (len : Int) := by
  rw [wrap_id (by omega) (by omega)]
  unfold inR isIdx
  have e : decide (n ≤ (len : Int) - 1) = decide (n < (len : Int)) := by
    by_cases h : n < (len : Int)
    · rw [decide_eq_true h, decide_eq_true (by omega)]
    · rw [decide_eq_false h, decide_eq_false (by omega)]
  rw [e]
theorem isIdx_pos {n : Int} {len : Nat} (h : isIdx n (len : Int) = true) : 0 ≤ n ∧ n.toNat < len := by
  unfold isIdx at h
  simp only [Bool.and_eq_true, decide_eq_true_eq] at h
  omega
theorem fsl1In {k : Nat} (n a b : Int) (hk : 1 ≤ k) : Fsl1In k n a b = some (inR n a b) := by
  obtain ⟨k, rfl⟩ := pred (d := 0) hk
  rw [esl1In]
  unfold inR
  show (if ((decide (a ≤ n)) == true) = true then _ else _) = _
  cases decide (a ≤ n) <;> rfl
theorem fgClone_int {k : Nat} (x : List (Int)) (hl : x.length ≤ 1048576) (hk : 1 ≤ k) : FgClone_int k x = some x := by
  obtain ⟨k, rfl⟩ := pred (d := 0) hk
  rw [egClone_int, if_pos (by omega), clone_eq]
theorem ficloneTable {k : Nat} (x : Int × (List Int) × List Int) (h1 : x.2.1.length ≤ 1048576) (h2 : x.2.2.length ≤ 1048576) (hk : 2 ≤ k) : FicloneTable k x = some x := by
  obtain ⟨k, rfl⟩ := pred (d := 1) hk
  rw [eicloneTable, fgClone_int _ h1 (by omega), Option.bind_some, fgClone_int _ h2 (by omega), Option.bind_some]
theorem fsl15Copy {k : Nat} (x : Int × (List Int) × List Int) (h1 : x.2.1.length ≤ 1048576) (h2 : x.2.2.length ≤ 1048576) (hk : 1 ≤ k) : Fsl15Copy k x = some x := by
  obtain ⟨k, rfl⟩ := pred (d := 0) hk
  rw [esl15Copy, if_pos (by omega), if_pos (by omega)]
/-! ### spans -/
def isSpan (s : Int × Int) : Bool := decide (s.1 ≥ 0) && (decide (s.2 ≤ 1000) && decide (s.1 < s.2))
def inSpan (s : Int × Int) (t : Int) : Bool := isSpan s && (decide (s.1 ≤ t) && decide (t < s.2))
theorem fsIsSpan {k : Nat} (s : Int × Int) (hk : 1 ≤ k) : FsIsSpan k s = some (isSpan s) := by
  obtain ⟨k, rfl⟩ := pred (d := 0) hk
  rw [esIsSpan]
  unfold isSpan
  cases decide (s.1 ≥ 0)
  · rfl
  · cases decide (s.2 ≤ 1000) <;> rfl
theorem fiIsSpan {k : Nat} (s : Int × Int) (hk : 1 ≤ k) : FiIsSpan k s = some (isSpan s) := by
  obtain ⟨k, rfl⟩ := pred (d := 0) hk
  rw [eiIsSpan]
  unfold isSpan
  cases decide (s.1 ≥ 0)
  · rfl
  · cases decide (s.2 ≤ 1000) <;> rfl
theorem fsInSpan {k : Nat} (s : Int × Int) (t : Int) (hk : 2 ≤ k) : FsInSpan k s t = some (inSpan s t) := by
  obtain ⟨k, rfl⟩ := pred (d := 1) hk
  rw [esInSpan, fsIsSpan s (by omega), Option.bind_some]
  unfold inSpan
  cases isSpan s
  · rfl
  · cases decide (s.1 ≤ t) <;> rfl
theorem fiInSpan {k : Nat} (s : Int × Int) (t : Int) (hk : 2 ≤ k) : FiInSpan k s t = some (inSpan s t) := by
  obtain ⟨k, rfl⟩ := pred (d := 1) hk
  rw [eiInSpan, fiIsSpan s (by omega), Option.bind_some]
  unfold inSpan
  cases isSpan s
  · rfl
  · cases decide (s.1 ≤ t) <;> rfl
/-! ### pieces, tables -/
def pieceAt (p : TProgram) (t : Int) : Int := findFrom (fun x : TPiece => inSpan x.1 t) 0 p.2.2.2
theorem fsPieceAt {k : Nat} (p : TProgram) (t : Int) (hl : p.2.2.2.length ≤ 1048576) (hk : p.2.2.2.length + 4 ≤ k) : FsPieceAt k p t = some (pieceAt p t) := by
  obtain ⟨k, rfl⟩ := pred (d := 0) (show 1 ≤ k by omega)
  refine (esPieceAt k p t).trans (row_i (L := LsPieceAt_0 k _ _ _) (a := p.2.2.2) (fun i l => some (findFrom (fun x : TPiece => inSpan x.1 t) i l)) (fun _ _ => rfl) (by omega) rfl (fun n i x r h0 ht hw hi hx ih => ?_) (by omega))
  refine (bs (fsInSpan x.1 t (by omega))).trans ?_
  show (if inSpan x.1 t = true then some (i : Int) else _) = some (if inSpan x.1 t = true then (i : Int) else findFrom (fun x : TPiece => inSpan x.1 t) (i + 1) r)
  rw [hw, ih]
  by_cases h : inSpan x.1 t = true
  · rw [if_pos h, if_pos h]
  · rw [if_neg h, if_neg h]
theorem fiPieceAt {k : Nat} (p : TProgram) (t : Int) (hl : p.2.2.2.length ≤ 1048576) (hk : p.2.2.2.length + 6 ≤ k) : FiPieceAt k p t = some (pieceAt p t) := by
  obtain ⟨k, rfl⟩ := pred (d := 1) (show 2 ≤ k by omega)
  refine (eiPieceAt k p t).trans ((bs ?_).trans rfl)
  obtain ⟨k, rfl⟩ := pred (d := 0) (show 1 ≤ k by omega)
  refine (egIndexFunc_Piecev_iPieceAt_1 k _ t).trans (row_i (L := LgIndexFunc_Piecev_iPieceAt_1_0 k _ _ _) (a := p.2.2.2) (fun i l => some (findFrom (fun x : TPiece => inSpan x.1 t) i l)) (fun _ _ => rfl) (by omega) rfl (fun n i x r h0 ht hw hi hx ih => ?_) (by omega))
  obtain ⟨k, rfl⟩ := pred (d := 0) (show 1 ≤ k by omega)
  refine (bs ((eiPieceAt_1v k x t).trans ((bs (fiInSpan x.1 t (by omega))).trans rfl))).trans ?_
  show (if inSpan x.1 t = true then some (i : Int) else _) = some (if inSpan x.1 t = true then (i : Int) else findFrom (fun x : TPiece => inSpan x.1 t) (i + 1) r)
  rw [hw, ih]
  by_cases h : inSpan x.1 t = true
  · rw [if_pos h, if_pos h]
  · rw [if_neg h, if_neg h]
def inPc (a b : Int) (x : TPiece) : Bool := isSpan x.1 && (decide (a ≤ b) && (decide (x.1.1 ≤ b) && decide (a < x.1.2)))
def pcs (a b : Int) : Nat → List TPiece → List Int
  | _, [] => []
  | i, x :: r => if inPc a b x = true then (i : Int) :: pcs a b (i + 1) r else pcs a b (i + 1) r
theorem pcs_len (a b : Int) : ∀ (l : List TPiece) (i : Nat), (pcs a b i l).length ≤ l.length
  | [], i => by simp [pcs]
  | x :: r, i => by
    have := pcs_len a b r (i + 1)
    rw [pcs]
    split <;> simp <;> omega
theorem fsPiecesIn {k : Nat} (p : TProgram) (a b : Int) (hl : p.2.2.2.length ≤ 1048576) (hk : p.2.2.2.length + 4 ≤ k) : FsPiecesIn k p a b = some (pcs a b 0 p.2.2.2) := by
  obtain ⟨k, rfl⟩ := pred (d := 0) (show 1 ≤ k by omega)
  refine (esPiecesIn k p a b).trans ((row_inv0 (L := LsPiecesIn_0 k _ _) (a := p.2.2.2) (fun (s : List Int) i => (i, s)) (fun s i l => some (s ++ pcs a b i l)) (fun s i => s.length ≤ i) (fun _ _ _ => rfl) (by omega) (fun s _ => by simp [pcs]) (fun n i s x r hI h0 ht hw hi hx ih => ?_) (by omega) [] (by simp)).trans (by simp))
  refine (bs (fsIsSpan x.1 (by omega))).trans ?_
  dsimp only
  rw [hw, pcs]
  have hn := ih s (by omega)
  unfold inPc
  cases isSpan x.1 with
  | false => simpa using hn
  | true =>
    cases decide (a ≤ b) with
    | false => simpa using hn
    | true =>
      cases decide (x.1.1 ≤ b) with
      | false => simpa using hn
      | true =>
        cases decide (a < x.1.2) with
        | false => simpa using hn
        | true =>
          have hn := ih (s ++ [(i : Int)]) (by simp; omega)
          rw [if_pos (by decide), if_pos (by decide), if_pos (by decide), if_pos rfl, if_pos (by simp; omega), if_pos (by decide), hn]
          simp
theorem fiPiecesIn {k : Nat} (p : TProgram) (a b : Int) (hl : p.2.2.2.length ≤ 1048576) (hk : p.2.2.2.length + 4 ≤ k) : FiPiecesIn k p a b = some (pcs a b 0 p.2.2.2) := by
  obtain ⟨k, rfl⟩ := pred (d := 0) (show 1 ≤ k by omega)
  refine (eiPiecesIn k p a b).trans ((row_inv0 (L := LiPiecesIn_0 k _ _) (a := p.2.2.2) (fun (s : List Int) i => (i, s)) (fun s i l => some (s ++ pcs a b i l)) (fun s i => s.length ≤ i) (fun _ _ _ => rfl) (by omega) (fun s _ => by simp [pcs]) (fun n i s x r hI h0 ht hw hi hx ih => ?_) (by omega) [] (by simp)).trans (by simp))
  refine (bs (fiIsSpan x.1 (by omega))).trans ?_
  dsimp only
  rw [hw, pcs]
  have hn := ih s (by omega)
  unfold inPc
  have hgt : decide (x.1.2 > a) = decide (a < x.1.2) := rfl
  rw [hgt]
  cases isSpan x.1 with
  | false => simpa using hn
  | true =>
    cases decide (a ≤ b) with
    | false => simpa using hn
    | true =>
      cases decide (x.1.1 ≤ b) with
      | false => simpa using hn
      | true =>
        cases decide (a < x.1.2) with
        | false => simpa using hn
        | true =>
          have hn := ih (s ++ [(i : Int)]) (by simp; omega)
          rw [if_pos (by decide), if_pos (by decide), if_pos (by decide), if_pos rfl, if_pos (by simp; omega), if_pos (by decide), hn]
          simp
theorem pcs_mem (a b : Int) : ∀ (l : List TPiece) (i j : Nat) (x : TPiece), l[j]? = some x → inPc a b x = true → ((i + j : Nat) : Int) ∈ pcs a b i l
  | [], i, j, x, h, _ => by simp at h
  | y :: r, i, 0, x, h, hp => by
    simp only [List.getElem?_cons_zero, Option.some.injEq] at h
    subst h
    rw [pcs, if_pos hp]
    simp
  | y :: r, i, j + 1, x, h, hp => by
    have := pcs_mem a b r (i + 1) j x (by simpa using h) hp
    rw [pcs]
    have e : ((i + (j + 1) : Nat) : Int) = ((i + 1 + j : Nat) : Int) := by congr 1; omega
    rw [e]
    split
    · exact List.mem_cons_of_mem _ this
    · exact this
def tbl (p : TProgram) (a d : Int) : Option TT := if isIdx a (p.2.2.2.length : Int) = true then match p.2.2.2[a.toNat]? with
  | some x => if isIdx d (x.2.2.length : Int) = true then x.2.2[d.toNat]? else none
  | none => none
  else none
def tblR (p : TProgram) (a d : Int) : TT × Bool := match tbl p a d with
  | some t => (t, true)
  | none => ((0, [], []), false)
theorem fTableIn {k N : Nat} (p : TProgram) (a d : Int) (hr : rowsLe N sProgram p) (hN : N ≤ 1048576) (hk : N + 5 ≤ k) : FsTableIn k p a d = some (tblR p a d) ∧ FiTableIn k p a d = some (tblR p a d) ∧ (tblR p a d).1.2.2.length ≤ N := by
  obtain ⟨k, rfl⟩ := pred (d := 0) (show 1 ≤ k by omega)
  obtain ⟨h1', h2⟩ := rowsLe_row hr.2.2.2
  have h1 : p.2.2.2.length ≤ N := h1'
  have es := (esTableIn k p a d).trans (bs (fsl1In _ _ _ (by omega)))
  have ei := (eiTableIn k p a d).trans (bs (fiisIndex _ _ (by omega)))
  rw [inR_last a (by omega)] at es
  unfold tblR tbl
  cases hI : isIdx a (p.2.2.2.length : Int) with
  | false =>
    rw [hI] at es ei
    exact ⟨es, ei, by simp⟩
  | true =>
    rw [hI] at es ei
    obtain ⟨a0, a1⟩ := isIdx_pos hI
    have hx := h2 _ (List.getElem_mem a1)
    obtain ⟨g1', g2⟩ := rowsLe_row hx.2.2
    have g1 : (p.2.2.2[a.toNat]).2.2.length ≤ N := g1'
    have es := es.trans ((if_pos rfl).trans ((if_pos a0).trans ((ix_at a1 _).trans (bs (fsl1In _ _ _ (by omega))))))
    have ei := ei.trans ((if_pos rfl).trans ((if_pos a0).trans ((ix_at a1 _).trans (bs (fiisIndex _ _ (by omega))))))
    rw [inR_last d (by omega)] at es
    rw [if_pos rfl, List.getElem?_eq_getElem a1]
    dsimp only
    cases hJ : isIdx d ((p.2.2.2[a.toNat]).2.2.length : Int) with
    | false =>
      rw [hJ] at es ei
      exact ⟨es.trans (if_pos rfl), ei.trans (if_pos rfl), by simp⟩
    | true =>
      rw [hJ] at es ei
      obtain ⟨d0, d1⟩ := isIdx_pos hJ
      have hy := g2 _ (List.getElem_mem d1)
      have e1 : ((p.2.2.2[a.toNat]).2.2[d.toNat]).2.1.length ≤ N := (rowsLe_row hy.2.1).1
      have e2 : ((p.2.2.2[a.toNat]).2.2[d.toNat]).2.2.length ≤ N := (rowsLe_row hy.2.2).1
      rw [if_pos rfl, List.getElem?_eq_getElem d1]
      dsimp only
      exact ⟨es.trans ((if_neg (by decide)).trans ((if_pos a0).trans ((ix_at a1 _).trans ((if_pos d0).trans ((ix_at d1 _).trans (bs (fsl15Copy _ (by omega) (by omega) (by omega)))))))),
        ei.trans ((if_neg (by decide)).trans ((if_pos a0).trans ((ix_at a1 _).trans ((if_pos d0).trans ((ix_at d1 _).trans (bs (ficloneTable _ (by omega) (by omega) (by omega)))))))), e2⟩
/-- What the pieces' tables lay together. -/
def mixS (p : TProgram) (d : Int) (l : List Int) : List (List Int) := l.filterMap fun a => (tbl p a d).map (·.2.2)
def mixI (p : TProgram) (d : Int) (l : List Int) : List (List Int) := l.map fun a => (tblR p a d).1.2.2
theorem mixS_len (p : TProgram) (d : Int) (l : List Int) : (mixS p d l).length ≤ l.length := List.length_filterMap_le _ _
theorem tblR_some {p : TProgram} {a d : Int} {t : TT} (h : tbl p a d = some t) : tblR p a d = (t, true) := by unfold tblR; rw [h]
theorem tblR_none {p : TProgram} {a d : Int} (h : tbl p a d = none) : tblR p a d = ((0, [], []), false) := by unfold tblR; rw [h]
end Go.Proofs.YtcdlkadknenodaaGreat.World
namespace Go.Proofs.YtcdlkadknenodaaGreat.World
open Go Go.V Go.Proofs
set_option linter.unusedVariables false
set_option linter.unusedSimpArgs false
set_option maxRecDepth 100000
set_option maxHeartbeats 4000000
/-! ### the program's UnionHasLoop -/
def mxl (l : List (List Int)) : Int := l.foldl (fun s x => mx s (x.length : Int)) 0
theorem mx_le (a b c : Int) : mx a b ≤ c ↔ a ≤ c ∧ b ≤ c := by unfold mx; split <;> omega
theorem le_mx (a b : Int) : a ≤ mx a b ∧ b ≤ mx a b := by unfold mx; split <;> omega
theorem mxl_ge : ∀ (l : List (List Int)) (s : Int), s ≤ l.foldl (fun s x => mx s (x.length : Int)) s ∧ ∀ x ∈ l, (x.length : Int) ≤ l.foldl (fun s x => mx s (x.length : Int)) s
  | [], s => by simp
  | x :: r, s => by
    obtain ⟨h1, h2⟩ := mxl_ge r (mx s (x.length : Int))
    have := le_mx s (x.length : Int)
    refine ⟨by simp only [List.foldl_cons]; omega, fun y hy => ?_⟩
    simp only [List.foldl_cons]
    rcases List.mem_cons.1 hy with rfl | hy
    · omega
    · exact h2 y hy
theorem mxl_le {N : Int} : ∀ (l : List (List Int)) (s : Int), s ≤ N → (∀ x ∈ l, (x.length : Int) ≤ N) → l.foldl (fun s x => mx s (x.length : Int)) s ≤ N
  | [], s, h, _ => h
  | x :: r, s, h, hl => mxl_le r _ ((mx_le _ _ _).2 ⟨h, hl x (by simp)⟩) fun y hy => hl y (List.mem_cons_of_mem _ hy)
theorem iu0 {R : Type} {k : Nat} (X : ViUnionHasLoop_0 → Option R) (l : List (List Int)) (hl : l.length ≤ 1048576) (hk : l.length < k) : LiUnionHasLoop_0 k X (l, l, (l.length : Int)) k (0, 0) = X (mxl l, (l.length : Int)) := by
  refine (row_s0 (L := LiUnionHasLoop_0 k X _) (a := l) (fun (s : Int) i => (s, i)) (X := fun s i => X (s, i)) (fun s i l => X (l.foldl (fun s x => mx s (x.length : Int)) s, ((i + l.length : Nat) : Int))) (fun _ _ _ => rfl) (by omega) (fun s => by simp) (fun n i s x r h0 ht hw hi hx ih => ?_) hk 0).trans (by simp [mxl])
  dsimp only
  rw [hw, ih]
  simp only [List.foldl_cons, List.length_cons]
  congr 3
  omega
/-- Does the node lead to one that is there? -/
def ld (g : List Bool) (n : Int) (x : Nat) (row : List Int) : Bool := match row[x]? with
  | some y => isIdx y n && !(g.getD y.toNat true)
  | none => false
theorem iu3 {R : Type} {k : Nat} (X : ViUnionHasLoop_3 → Option R) (c : CiUnionHasLoop_3) (l : List (List Int)) (n : Int) (x : Nat) (g : List Bool) (h1 : c.2.2.2.2.2.2.2.2.2.1 = l) (h2 : c.2.2.2.2.2.2.2.2.2.2.1 = (l.length : Int)) (h3 : c.2.2.2.2.2.2.2.2.2.2.2 = g) (h4 : c.2.2.2.1 = (x : Int)) (h5 : c.2.1 = n)
    (hg : (g.length : Int) = n) (hl : l.length ≤ 1048576) (hk : l.length + 2 ≤ k) : LiUnionHasLoop_3 k X c k (false, 0) = X (l.any (ld g n x), (l.length : Int)) := by
  subst h1
  generalize hl0 : c.2.2.2.2.2.2.2.2.2.1 = l at *
  refine (row_s0 (L := LiUnionHasLoop_3 k X c) (a := l) (fun (s : Bool) i => (s, i)) (X := fun s i => X (s, i)) (fun s i l => X (s || l.any (ld g n x), ((i + l.length : Nat) : Int))) (body := fun m s i x2 => if (s == false) = true then if ((decide (c.2.2.2.1 < (x2.length : Int))) == true) = true then if 0 ≤ c.2.2.2.1 then ix x2 c.2.2.2.1.toNat fun x3 => (FiisIndex k x3 c.2.1).bind fun p4 => if (p4 == true) = true then if 0 ≤ c.2.2.2.1 then ix x2 c.2.2.2.1.toNat fun x5 => if 0 ≤ x5 then if x5 < (c.2.2.2.2.2.2.2.2.2.2.2.length : Int) then ix c.2.2.2.2.2.2.2.2.2.2.2 x5.toNat fun x6 => LiUnionHasLoop_3 k X c m ((!x6), (IntKind.i64.wrap (i + 1))) else none else none else none else LiUnionHasLoop_3 k X c m (false, (IntKind.i64.wrap (i + 1))) else none else LiUnionHasLoop_3 k X c m (false, (IntKind.i64.wrap (i + 1))) else LiUnionHasLoop_3 k X c m (true, (IntKind.i64.wrap (i + 1)))) (fun m s i => by rw [← h2, ← hl0]; rfl) (by omega) (fun s => by simp) (fun m i s row r h0 ht hw hi hx ih => ?_) (by omega) false).trans (by simp)
  rw [h3, h4, h5, hw]
  cases s with
  | true =>
    rw [if_neg (by decide), ih]
    simp only [List.length_cons, Bool.true_or]
    congr 3
    omega
  | false =>
    have hfin : ∀ b : Bool, b = ld g n x row → X (b || r.any (ld g n x), ((i + 1 + r.length : Nat) : Int)) = X (false || (row :: r).any (ld g n x), ((i + (row :: r).length : Nat) : Int)) := by
      rintro b rfl
      simp only [List.length_cons, Bool.false_or, List.any_cons]
      congr 3
      omega
    rw [if_pos (by decide)]
    by_cases hx1 : x < row.length
    · have c1 : ((decide ((x : Int) < (row.length : Int))) == true) = true := by simp; omega
      have e1 : ((x : Int)).toNat = x := by simp
      have hrow : row[x]? = some row[x] := List.getElem?_eq_getElem hx1
      rw [if_pos c1, if_pos (by omega), e1, ix_at hx1, fiisIndex _ _ (by omega), Option.bind_some]
      cases hI : isIdx row[x] n with
      | false =>
        rw [if_neg (by decide), ih]
        exact hfin false (by unfold ld; rw [hrow]; simp [hI])
      | true =>
        have hI' := hI
        rw [← hg] at hI'
        obtain ⟨y0, y1⟩ := isIdx_pos hI'
        rw [if_pos (by decide), if_pos (by omega), ix_at hx1, if_pos y0, if_pos (by omega), ix_at y1, ih]
        exact hfin _ (by unfold ld; rw [hrow]; simp [hI, List.getD, List.getElem?_eq_getElem y1])
    · have c1 : ¬ ((decide ((x : Int) < (row.length : Int))) == true) = true := by simp; omega
      rw [if_neg c1, ih]
      exact hfin false (by unfold ld; rw [List.getElem?_eq_none (by omega)])
/-- One round. -/
def rnd (l : List (List Int)) (n : Int) : Nat → Nat → Bool × List Bool → Bool × List Bool
  | 0, _, s => s
  | m + 1, x, s => rnd l n m (x + 1) (if s.2.getD x true = true then s else if l.any (ld s.2 n x) = true then s else (true, s.2.set x true))
theorem rnd_len (l : List (List Int)) (n : Int) : ∀ (m x : Nat) (s : Bool × List Bool), (rnd l n m x s).2.length = s.2.length
  | 0, _, s => rfl
  | m + 1, x, s => by
    rw [rnd, rnd_len l n m]
    split
    · rfl
    · split
      · rfl
      · simp
theorem iu2 {R : Type} {k : Nat} (X : ViUnionHasLoop_2 → Option R) (c : CiUnionHasLoop_2) (l : List (List Int)) (n : Nat) (h1 : c.1 = l) (h2 : c.2.1 = (n : Int)) (h3 : c.2.2.2.2.2 = (n : Int)) (hl : l.length ≤ 1048576) (hn : n ≤ 1048576) (hk : l.length + 3 ≤ k) :
    ∀ (m q x : Nat) (ch : Bool) (g : List Bool), x + m = n → m < q → g.length = n → LiUnionHasLoop_2 k X c q (ch, (x : Int), g) = X ((rnd l (n : Int) m x (ch, g)).1, (n : Int), (rnd l (n : Int) m x (ch, g)).2) := by
  intro m
  induction m with
  | zero =>
    intro q x ch g h hq hg
    obtain ⟨q, rfl⟩ : ∃ z, q = z + 1 := ⟨q - 1, by omega⟩
    obtain rfl : x = n := by omega
    refine (if_neg (show ¬ decide ((x : Int) < c.2.2.2.2.2) = true by rw [h3]; simp)).trans rfl
  | succ m ih =>
    intro q x ch g h hq hg
    obtain ⟨q, rfl⟩ : ∃ z, q = z + 1 := ⟨q - 1, by omega⟩
    have hx : x < g.length := by omega
    have e1 : ((x : Int)).toNat = x := by simp
    have e2 : IntKind.i64.wrap ((x : Int) + 1) = ((x + 1 : Nat) : Int) := by rw [wrap_id (by omega) (by omega)]; omega
    have p0 : (0 : Int) ≤ (x : Int) := by omega
    have p1 : (x : Int) < (g.length : Int) := by omega
    refine (if_pos (show decide ((x : Int) < c.2.2.2.2.2) = true by rw [h3]; simp; omega)).trans ((if_pos p0).trans ((if_pos p1).trans ?_))
    dsimp only
    rw [e1, ix_at hx, rnd]
    have hgx : g.getD x true = g[x] := by simp [List.getD, List.getElem?_eq_getElem hx]
    rw [hgx, e2]
    by_cases hb : g[x] = true
    · rw [if_pos hb, if_pos hb]
      exact ih q (x + 1) ch g (by omega) (by omega) hg
    · rw [if_neg hb, if_neg hb]
      refine (iu3 _ _ l (n : Int) x g h1 (by rw [h1]) rfl rfl h2 (by rw [hg]) hl (by omega)).trans ?_
      by_cases ha : l.any (ld g (n : Int) x) = true
      · rw [if_pos ha]
        refine (if_neg (show ¬ (!(l.any (ld g (n : Int) x))) = true by rw [ha]; decide)).trans ?_
        exact ih q (x + 1) ch g (by omega) (by omega) hg
      · rw [if_neg ha]
        refine (if_pos (show (!(l.any (ld g (n : Int) x))) = true by simpa using ha)).trans ((if_pos p0).trans ((if_pos p1).trans ?_))
        rw [ix_at hx]
        exact ih q (x + 1) true (g.set x true) (by omega) (by omega) (by simpa using hg)
/-- Nodes that lead to one another. -/
def Closed (l : List (List Int)) (R : Nat → Prop) : Prop := ∀ x, R x → ∃ row ∈ l, ∃ y : Nat, row[x]? = some (y : Int) ∧ R y
theorem rnd_keep {l : List (List Int)} {n : Int} {R : Nat → Prop} (hR : Closed l R) (hn : ∀ x, R x → (x : Int) < n) : ∀ (m x : Nat) (s : Bool × List Bool), (∀ y, R y → s.2.getD y true = false) → ∀ y, R y → (rnd l n m x s).2.getD y true = false
  | 0, _, s, h => h
  | m + 1, x, s, h => by
    rw [rnd]
    refine rnd_keep hR hn m (x + 1) _ ?_
    split
    · exact h
    · split
      · exact h
      · rename_i hna
        intro y hy
        by_cases e : y = x
        · exfalso
          subst e
          obtain ⟨row, hrow, z, hz, hRz⟩ := hR y hy
          apply hna
          refine List.any_eq_true.2 ⟨row, hrow, ?_⟩
          unfold ld
          rw [hz]
          have := hn z hRz
          simp only [isIdx, Int.toNat_natCast, h z hRz, Bool.not_false, Bool.and_true, Bool.and_eq_true, decide_eq_true_eq]
          omega
        · have := h y hy
          rw [List.getD_eq_getElem?_getD] at this ⊢
          simp only [List.getElem?_set, if_neg (Ne.symm e)]
          exact this
theorem rnd_mono {l : List (List Int)} {n : Int} : ∀ (m x : Nat) (s : Bool × List Bool), s.1 = true → (rnd l n m x s).1 = true
  | 0, _, s, h => h
  | m + 1, x, s, h => by
    rw [rnd]
    refine rnd_mono m (x + 1) _ ?_
    split
    · exact h
    · split
      · exact h
      · rfl
theorem rnd_fix {l : List (List Int)} {n : Int} : ∀ (m x : Nat) (g : List Bool), (rnd l n m x (false, g)).1 = false → (rnd l n m x (false, g)).2 = g ∧ ∀ y, x ≤ y → y < x + m → g.getD y true = false → l.any (ld g n y) = true
  | 0, x, g, h => ⟨rfl, fun y h1 h2 => by omega⟩
  | m + 1, x, g, h => by
    rw [rnd] at h ⊢
    by_cases h1 : g.getD x true = true
    · rw [if_pos h1] at h ⊢
      obtain ⟨h2, h3⟩ := rnd_fix m (x + 1) g h
      refine ⟨h2, fun y hy1 hy2 hy => ?_⟩
      by_cases e : y = x
      · subst e; rw [h1] at hy; cases hy
      · exact h3 y (by omega) (by omega) hy
    · rw [if_neg h1] at h ⊢
      by_cases h4 : l.any (ld g n x) = true
      · rw [if_pos h4] at h ⊢
        obtain ⟨h2, h3⟩ := rnd_fix m (x + 1) g h
        refine ⟨h2, fun y hy1 hy2 hy => ?_⟩
        by_cases e : y = x
        · subst e; exact h4
        · exact h3 y (by omega) (by omega) hy
      · rw [if_neg h4] at h
        rw [rnd_mono m (x + 1) _ rfl] at h
        cases h
theorem rnd_less {l : List (List Int)} {n : Int} : ∀ (m x : Nat) (s : Bool × List Bool), (rnd l n m x s).2.count false ≤ s.2.count false ∧ (s.1 = false → (rnd l n m x s).1 = true → (rnd l n m x s).2.count false < s.2.count false)
  | 0, x, s => ⟨Nat.le_refl _, fun h1 h2 => by rw [rnd, h1] at h2; cases h2⟩
  | m + 1, x, s => by
    rw [rnd]
    by_cases h1 : s.2.getD x true = true
    · rw [if_pos h1]; exact rnd_less m (x + 1) s
    · rw [if_neg h1]
      by_cases h4 : l.any (ld s.2 n x) = true
      · rw [if_pos h4]; exact rnd_less m (x + 1) s
      · rw [if_neg h4]
        have hlt : x < s.2.length := by
          apply Classical.byContradiction
          intro hx
          apply h1
          simp [List.getD, List.getElem?_eq_none (by omega : s.2.length ≤ x)]
        have hf : s.2[x] = false := by
          have : ¬ s.2[x] = true := by simpa [List.getD, List.getElem?_eq_getElem hlt] using h1
          simpa using this
        have hc : (s.2.set x true).count false + 1 = s.2.count false := by
          have := List.count_set (l := s.2) (i := x) (a := true) (b := false) hlt
          have hpos : 0 < s.2.count false := List.count_pos_iff.2 (by rw [← hf]; exact List.getElem_mem hlt)
          rw [this, hf]
          simp
          omega
        have := (rnd_less (l := l) (n := n) m (x + 1) (true, s.2.set x true)).1
        simp only at this
        exact ⟨by omega, fun _ _ => by omega⟩
theorem iu1f {R : Type} {k : Nat} (X : ViUnionHasLoop_1 → Option R) (c : CiUnionHasLoop_1) (q : Nat) (g : List Bool) : LiUnionHasLoop_1 k X c (q + 1) (false, g) = X (false, g) := by
  show BiUnionHasLoop_1 k X c _ (false, g) = _
  unfold BiUnionHasLoop_1
  exact if_neg (by simp)
theorem iu1t {R : Type} {k : Nat} (X : ViUnionHasLoop_1 → Option R) (c : CiUnionHasLoop_1) (q : Nat) (g : List Bool) : LiUnionHasLoop_1 k X c (q + 1) (true, g) = LiUnionHasLoop_2 k (fun (v2 : Bool × Int × (List Bool)) => LiUnionHasLoop_1 k X c q (v2.1, v2.2.2)) (c.1, c.2.1, c.2.2.1, c.2.2.2.1, c.2.2.2.2, c.2.1) k (false, 0, g) := by
  show BiUnionHasLoop_1 k X c _ (true, g) = _
  unfold BiUnionHasLoop_1
  exact if_pos rfl
theorem iu1 {R : Type} {k : Nat} (X : ViUnionHasLoop_1 → Option R) (c : CiUnionHasLoop_1) (l : List (List Int)) (n : Nat) (h1 : c.1 = l) (h2 : c.2.1 = (n : Int)) (hl : l.length ≤ 1048576) (hn : n ≤ 1048576) (hk : l.length + n + 5 ≤ k) :
    ∀ (m q : Nat) (ch : Bool) (g : List Bool), g.count false ≤ m → m + 2 ≤ q → g.length = n → (ch = false → ∀ y, y < n → g.getD y true = false → l.any (ld g (n : Int) y) = true) →
      ∃ g', LiUnionHasLoop_1 k X c q (ch, g) = X (false, g') ∧ g'.length = n ∧ (∀ y, y < n → g'.getD y true = false → l.any (ld g' (n : Int) y) = true) ∧ ∀ Rr, Closed l Rr → (∀ x, Rr x → (x : Int) < (n : Int)) → (∀ y, Rr y → g.getD y true = false) → ∀ y, Rr y → g'.getD y true = false := by
  intro m
  induction m with
  | zero =>
    intro q ch g hc hq hg hfix
    obtain ⟨q, rfl⟩ : ∃ z, q = z + 2 := ⟨q - 2, by omega⟩
    cases ch with
    | false => exact ⟨g, iu1f X c _ g, hg, hfix rfl, fun _ _ _ h => h⟩
    | true =>
      have e := (iu1t X c _ g).trans (iu2 (k := k) (fun (v2 : Bool × Int × (List Bool)) => LiUnionHasLoop_1 k X c (q + 1) (v2.1, v2.2.2)) (c.1, c.2.1, c.2.2.1, c.2.2.2.1, c.2.2.2.2, c.2.1) l n h1 h2 h2 hl hn (by omega) n k 0 false g (by omega) (by omega) hg)
      have hless := (rnd_less (l := l) (n := (n : Int)) n 0 (false, g)).2 rfl
      have hf : (rnd l (n : Int) n 0 (false, g)).1 = false := by
        cases hx : (rnd l (n : Int) n 0 (false, g)).1 with
        | false => rfl
        | true => have := hless hx; simp only at this; omega
      obtain ⟨f1, f2⟩ := rnd_fix n 0 g hf
      have e' : LiUnionHasLoop_1 k X c (q + 2) (true, g) = X (false, g) := by
        refine Eq.trans (b := LiUnionHasLoop_1 k X c (q + 1) ((rnd l (n : Int) n 0 (false, g)).1, (rnd l (n : Int) n 0 (false, g)).2)) e ?_
        rw [hf, f1]
        exact iu1f X c _ g
      exact ⟨g, e', hg, fun y hy => f2 y (by omega) (by omega), fun _ _ _ h => h⟩
  | succ m ih =>
    intro q ch g hc hq hg hfix
    obtain ⟨q, rfl⟩ : ∃ z, q = z + 1 := ⟨q - 1, by omega⟩
    cases ch with
    | false => exact ⟨g, iu1f X c _ g, hg, hfix rfl, fun _ _ _ h => h⟩
    | true =>
      have e := (iu1t X c _ g).trans (iu2 (k := k) (fun (v2 : Bool × Int × (List Bool)) => LiUnionHasLoop_1 k X c q (v2.1, v2.2.2)) (c.1, c.2.1, c.2.2.1, c.2.2.2.1, c.2.2.2.2, c.2.1) l n h1 h2 h2 hl hn (by omega) n k 0 false g (by omega) (by omega) hg)
      have hlen := rnd_len l (n : Int) n 0 (false, g)
      have hless := rnd_less (l := l) (n := (n : Int)) n 0 (false, g)
      have hm : (rnd l (n : Int) n 0 (false, g)).1 = true → (rnd l (n : Int) n 0 (false, g)).2.count false ≤ m := fun hx => by have := hless.2 rfl hx; simp only at this; omega
      cases hx : (rnd l (n : Int) n 0 (false, g)).1 with
      | true =>
        obtain ⟨g', e1, e2, e3, e4⟩ := ih q (rnd l (n : Int) n 0 (false, g)).1 (rnd l (n : Int) n 0 (false, g)).2 (hm hx) (by omega) (by rw [hlen]; exact hg) (fun h => by rw [hx] at h; cases h)
        exact ⟨g', Eq.trans (b := LiUnionHasLoop_1 k X c q ((rnd l (n : Int) n 0 (false, g)).1, (rnd l (n : Int) n 0 (false, g)).2)) e e1, e2, e3, fun Rr a b h => e4 Rr a b (rnd_keep a b n 0 (false, g) h)⟩
      | false =>
        obtain ⟨f1, f2⟩ := rnd_fix n 0 g hx
        obtain ⟨q, rfl⟩ : ∃ z, q = z + 1 := ⟨q - 1, by omega⟩
        have e' : LiUnionHasLoop_1 k X c (q + 1 + 1) (true, g) = X (false, g) := by
          refine Eq.trans (b := LiUnionHasLoop_1 k X c (q + 1) ((rnd l (n : Int) n 0 (false, g)).1, (rnd l (n : Int) n 0 (false, g)).2)) e ?_
          rw [hx, f1]
          exact iu1f X c _ g
        exact ⟨g, e', hg, fun y hy => f2 y (by omega) (by omega), fun _ _ _ h => h⟩
theorem iu4 {k : Nat} (c : CiUnionHasLoop_4) (g : List Bool) (h1 : c.2.2.2.2.2.2.1 = (g.length : Int)) (h2 : c.2.2.2.2.2.2.2 = g) (hl : g.length ≤ 1048576) (hk : g.length < k) : LiUnionHasLoop_4 k (fun (v4 : Int) (x1 : Bool) => some true) (fun (v4 : Int) => some false) c k 0 = some (g.any fun b => !b) := by
  refine row_i (L := LiUnionHasLoop_4 k _ _ c) (a := g) (fun _ l => some (l.any fun b => !b)) (body := fun n i x => if i < (g.length : Int) then if (!x) = true then some true else LiUnionHasLoop_4 k (fun (v4 : Int) (x1 : Bool) => some true) (fun (v4 : Int) => some false) c n (IntKind.i64.wrap (i + 1)) else none) (X := fun _ => some false) (fun n i => ?_) (by omega) rfl (fun n i x r h0 ht hw hi hx ih => ?_) hk
  · show BiUnionHasLoop_4 k _ _ c _ i = _
    unfold BiUnionHasLoop_4
    rw [h1, h2]
    by_cases c1 : decide (i < (g.length : Int)) = true
    · rw [if_pos c1, if_pos c1]
      by_cases c2 : 0 ≤ i
      · rw [if_pos c2, if_pos c2]
        have c3 : i < (g.length : Int) := by simpa using c1
        rw [if_pos c3]
        have : i.toNat < g.length := by omega
        rw [ix_at this, ix_at this, if_pos c3]
      · rw [if_neg c2, if_neg c2]
    · rw [if_neg c1, if_neg c1]
  · rw [if_pos (by omega), hw, ih, List.any_cons]
    cases x <;> rfl
theorem fiUnion {k N : Nat} (l : List (List Int)) (hl : l.length ≤ N) (hx : ∀ x ∈ l, x.length ≤ N) (hN : N ≤ 1048576) (hk : 2 * N + 20 ≤ k) : ∃ b, FiUnionHasLoop k l = some b ∧ (b = true → ∃ R x, Closed l R ∧ R x) ∧ (∀ R x, Closed l R → R x → b = true) := by
  obtain ⟨k, rfl⟩ := pred (d := 0) (show 1 ≤ k by omega)
  obtain ⟨m1, m2⟩ := mxl_ge l 0
  have m3 := mxl_le (N := (N : Int)) l 0 (by omega) (fun x h => by have := hx x h; omega)
  obtain ⟨n, hn⟩ : ∃ n : Nat, mxl l = (n : Int) := ⟨(mxl l).toNat, by unfold mxl at *; omega⟩
  have hnN : n ≤ N := by unfold mxl at hn; omega
  have hlt : ∀ x ∈ l, x.length ≤ n := fun x h => by have := m2 x h; unfold mxl at hn; omega
  have e0 := (eiUnionHasLoop k l).trans (iu0 _ l (by omega) (by omega))
  rw [hn] at e0
  have e1 := e0.trans ((if_pos (beq_self_eq_true _)).trans ((if_pos (show (0 : Int) ≤ (n : Int) by omega)).trans (if_pos (show 1 * ((n : Int)).toNat ≤ 281474976710656 by simp; omega))))
  have hrep : ∀ y, y < n → (List.replicate ((n : Int)).toNat false).getD y true = false := fun y hy => by simp [List.getD, List.getElem?_replicate, hy]
  obtain ⟨g, g1, g2, g3, g4⟩ := iu1 (k := k) (fun (v1 : Bool × (List Bool)) => LiUnionHasLoop_4 k (fun (v4 : Int) (x1 : Bool) => some true) (fun (v4 : Int) => some false) (l, (n : Int), v1.1, l, (l.length : Int), (l.length : Int), (n : Int), v1.2) k 0) (l, (n : Int), l, (l.length : Int), (l.length : Int)) l n rfl rfl (by omega) (by omega) (by omega) n k true (List.replicate ((n : Int)).toNat false) (by simp [List.count_replicate]) (by omega) (by simp) (fun h => by cases h)
  have e2 := e1.trans (g1.trans (iu4 _ g (by rw [g2]) rfl (by omega) (by omega)))
  refine ⟨_, e2, fun hb => ?_, fun R x hR hx0 => ?_⟩
  · obtain ⟨b, hb1, hb2⟩ := List.any_eq_true.1 hb
    have hbf : b = false := by simpa using hb2
    subst hbf
    obtain ⟨x, hxl, hxe⟩ := List.getElem_of_mem hb1
    refine ⟨fun y => y < n ∧ g.getD y true = false, x, fun y hy => ?_, by omega, by simp [List.getD, List.getElem?_eq_getElem hxl, hxe]⟩
    obtain ⟨row, hrow, hld⟩ := List.any_eq_true.1 (g3 y hy.1 hy.2)
    unfold ld at hld
    cases hz : row[y]? with
    | none => rw [hz] at hld; cases hld
    | some z =>
      rw [hz] at hld
      simp only [Bool.and_eq_true, Bool.not_eq_true'] at hld
      obtain ⟨z0, z1⟩ := isIdx_pos hld.1
      exact ⟨row, hrow, z.toNat, by rw [hz]; congr 1; omega, z1, hld.2⟩
  · have hRn : ∀ y, R y → (y : Int) < (n : Int) := fun y hy => by
      obtain ⟨row, hrow, z, hz, _⟩ := hR y hy
      have := (List.getElem?_eq_some_iff.1 hz).1
      have := hlt row hrow
      omega
    have := g4 R hR hRn (fun y hy => hrep y (by have := hRn y hy; omega)) x hx0
    have hxn := hRn x hx0
    have hxl : x < g.length := by omega
    refine List.any_eq_true.2 ⟨g[x], List.getElem_mem hxl, ?_⟩
    have : g[x] = false := by simpa [List.getD, List.getElem?_eq_getElem hxl] using this
    rw [this]
    rfl
end Go.Proofs.YtcdlkadknenodaaGreat.World
namespace Go.Proofs.YtcdlkadknenodaaGreat.World
open Go Go.V Go.Proofs
set_option linter.unusedVariables false
set_option linter.unusedSimpArgs false
set_option maxRecDepth 100000
set_option maxHeartbeats 4000000
/-! ### the reference's HasLoop, UnionHasLoop -/
inductive Pth (E : Nat → Nat → Prop) : Nat → Nat → Prop
  | one {a b : Nat} : E a b → Pth E a b
  | more {a b c : Nat} : Pth E a b → E b c → Pth E a c
def Ed (nx : List Int) (x y : Nat) : Prop := nx[x]? = some (y : Int) ∧ y < nx.length
theorem hs1 {k : Nat} (Y : Option Bool) (nx : List Int) (i : Nat) (hl : nx.length ≤ 1048576) (hk : 2 ≤ k) :
    ∀ (m n j : Nat) (x : Int), j + m = nx.length → m < n → (0 ≤ x → x.toNat < nx.length → Pth (Ed nx) i x.toNat) →
      (LsHasLoop_1 k (fun (v1 : Int × Int) (p2 : Bool) => some true) (fun (v1 : Int × Int) (p2 : Bool) => Y) (fun (v1 : Int × Int) => Y) (nx, (i : Int)) n (x, (j : Int)) = some true ∧ Pth (Ed nx) i i) ∨
        LsHasLoop_1 k (fun (v1 : Int × Int) (p2 : Bool) => some true) (fun (v1 : Int × Int) (p2 : Bool) => Y) (fun (v1 : Int × Int) => Y) (nx, (i : Int)) n (x, (j : Int)) = Y := by
  intro m
  induction m with
  | zero =>
    intro n j x h hn hp
    obtain ⟨n, rfl⟩ : ∃ q, n = q + 1 := ⟨n - 1, by omega⟩
    exact .inr (if_neg (show ¬ ((decide ((j : Int) < (nx.length : Int))) == true) = true by simp; omega))
  | succ m ih =>
    intro n j x h hn hp
    obtain ⟨n, rfl⟩ : ∃ q, n = q + 1 := ⟨n - 1, by omega⟩
    have c : ((decide ((j : Int) < (nx.length : Int))) == true) = true := by simp; omega
    have hI1 : Fsl1In k x 0 (IntKind.i64.wrap ((nx.length : Int) - 1)) = some (isIdx x (nx.length : Int)) := by rw [fsl1In _ _ _ (by omega), inR_last x (by omega)]
    have e2 : IntKind.i64.wrap ((j : Int) + 1) = ((j + 1 : Nat) : Int) := by rw [wrap_id (by omega) (by omega)]; omega
    cases hI : isIdx x (nx.length : Int) with
    | false =>
      rw [hI] at hI1
      exact .inr ((if_pos c).trans ((bs hI1).trans (if_neg (by decide))))
    | true =>
      rw [hI] at hI1
      obtain ⟨x0, x1⟩ := isIdx_pos hI
      have hpx := hp x0 x1
      by_cases hd : (x == (i : Int)) = true
      · have hxi : x.toNat = i := by have : x = (i : Int) := by simpa using hd
                                     omega
        rw [hxi] at hpx
        exact .inl ⟨(if_pos c).trans ((bs hI1).trans ((if_pos rfl).trans (if_pos hd))), hpx⟩
      · have hstep : LsHasLoop_1 k (fun (v1 : Int × Int) (p2 : Bool) => some true) (fun (v1 : Int × Int) (p2 : Bool) => Y) (fun (v1 : Int × Int) => Y) (nx, (i : Int)) (n + 1) (x, (j : Int)) = LsHasLoop_1 k (fun (v1 : Int × Int) (p2 : Bool) => some true) (fun (v1 : Int × Int) (p2 : Bool) => Y) (fun (v1 : Int × Int) => Y) (nx, (i : Int)) n (nx[x.toNat], IntKind.i64.wrap ((j : Int) + 1)) := (if_pos c).trans ((bs hI1).trans ((if_pos rfl).trans ((if_neg hd).trans ((if_pos x0).trans (ix_at x1 (fun x3 => LsHasLoop_1 k (fun (v1 : Int × Int) (p2 : Bool) => some true) (fun (v1 : Int × Int) (p2 : Bool) => Y) (fun (v1 : Int × Int) => Y) (nx, (i : Int)) n (x3, (IntKind.i64.wrap ((j : Int) + 1)))))))))
        rw [e2] at hstep
        have hnext : 0 ≤ nx[x.toNat] → nx[x.toNat].toNat < nx.length → Pth (Ed nx) i nx[x.toNat].toNat := fun y0 y1 => .more hpx ⟨by rw [List.getElem?_eq_getElem x1]; congr 1; omega, y1⟩
        rcases ih n (j + 1) nx[x.toNat] (by omega) (by omega) hnext with ⟨r1, r2⟩ | r1
        · exact .inl ⟨Eq.trans hstep r1, r2⟩
        · exact .inr (Eq.trans hstep r1)
theorem fsHasLoop {k : Nat} (nx : List Int) (hl : nx.length ≤ 1048576) (hk : nx.length + 5 ≤ k) : ∃ b, FsHasLoop k nx = some b ∧ (b = true → ∃ i, Pth (Ed nx) i i) := by
  obtain ⟨k, rfl⟩ := pred (d := 0) (show 1 ≤ k by omega)
  have key : ∀ (m n i : Nat), i + m = nx.length → m < n → ∃ b, LsHasLoop_0 k (fun (v0 : Int) (x1 : Int) (v1 : Int × Int) (p2 : Bool) => some true) (fun (v0 : Int) => some false) nx n (i : Int) = some b ∧ (b = true → ∃ i, Pth (Ed nx) i i) := by
    intro m
    induction m with
    | zero =>
      intro n i h hn
      obtain ⟨n, rfl⟩ : ∃ q, n = q + 1 := ⟨n - 1, by omega⟩
      exact ⟨false, if_neg (show ¬ decide ((i : Int) < (nx.length : Int)) = true by simp; omega), fun h => by cases h⟩
    | succ m ih =>
      intro n i h hn
      obtain ⟨n, rfl⟩ : ∃ q, n = q + 1 := ⟨n - 1, by omega⟩
      have hi : i < nx.length := by omega
      have e2 : IntKind.i64.wrap ((i : Int) + 1) = ((i + 1 : Nat) : Int) := by rw [wrap_id (by omega) (by omega)]; omega
      obtain ⟨b, b1, b2⟩ := ih n (i + 1) (by omega) (by omega)
      have c : decide ((i : Int) < (nx.length : Int)) = true := by simp; omega
      have h0 : (0 : Int) ≤ (i : Int) := by omega
      have hg : nx[i]? = some nx[i] := List.getElem?_eq_getElem hi
      have hstart : 0 ≤ nx[i] → nx[i].toNat < nx.length → Pth (Ed nx) i nx[i].toNat := fun y0 y1 => .one ⟨by rw [hg]; congr 1; omega, y1⟩
      have e : LsHasLoop_0 k (fun (v0 : Int) (x1 : Int) (v1 : Int × Int) (p2 : Bool) => some true) (fun (v0 : Int) => some false) nx (n + 1) (i : Int) = LsHasLoop_1 k (fun (v1 : Int × Int) (p2 : Bool) => some true) (fun (v1 : Int × Int) (p2 : Bool) => LsHasLoop_0 k (fun (v0 : Int) (x1 : Int) (v1 : Int × Int) (p2 : Bool) => some true) (fun (v0 : Int) => some false) nx n (IntKind.i64.wrap ((i : Int) + 1))) (fun (v1 : Int × Int) => LsHasLoop_0 k (fun (v0 : Int) (x1 : Int) (v1 : Int × Int) (p2 : Bool) => some true) (fun (v0 : Int) => some false) nx n (IntKind.i64.wrap ((i : Int) + 1))) (nx, (i : Int)) k (nx[i], 0) := (if_pos c).trans ((if_pos h0).trans (ix_some (n := i) hg (fun x1 => LsHasLoop_1 k (fun (v1 : Int × Int) (p2 : Bool) => some true) (fun (v1 : Int × Int) (p2 : Bool) => LsHasLoop_0 k (fun (v0 : Int) (x1 : Int) (v1 : Int × Int) (p2 : Bool) => some true) (fun (v0 : Int) => some false) nx n (IntKind.i64.wrap ((i : Int) + 1))) (fun (v1 : Int × Int) => LsHasLoop_0 k (fun (v0 : Int) (x1 : Int) (v1 : Int × Int) (p2 : Bool) => some true) (fun (v0 : Int) => some false) nx n (IntKind.i64.wrap ((i : Int) + 1))) (nx, (i : Int)) k (x1, 0))))
      rcases hs1 (k := k) (LsHasLoop_0 k (fun (v0 : Int) (x1 : Int) (v1 : Int × Int) (p2 : Bool) => some true) (fun (v0 : Int) => some false) nx n (IntKind.i64.wrap ((i : Int) + 1))) nx i hl (by omega) nx.length k 0 nx[i] (by omega) (by omega) hstart with ⟨r1, r2⟩ | r1
      · exact ⟨true, Eq.trans e r1, fun _ => ⟨i, r2⟩⟩
      · refine ⟨b, Eq.trans e (r1.trans ?_), b2⟩
        rw [e2]
        exact b1
  obtain ⟨b, b1, b2⟩ := key nx.length k 0 (by omega) (by omega)
  exact ⟨b, (esHasLoop k nx).trans b1, b2⟩
theorem fsMax {k : Nat} (a b : Int) (hk : 1 ≤ k) : FsMax k a b = some (mx a b) := by
  obtain ⟨k, rfl⟩ := pred (d := 0) hk
  rw [esMax]
  unfold mx
  by_cases h : a < b
  · rw [if_pos (by simpa using h), if_pos h]
  · rw [if_neg (by simpa using h), if_neg h]
theorem fsMin {k : Nat} (a b : Int) (hk : 1 ≤ k) : FsMin k a b = some (mn a b) := by
  obtain ⟨k, rfl⟩ := pred (d := 0) hk
  rw [esMin]
  unfold mn
  by_cases h : b < a
  · rw [if_pos (by simpa using h), if_pos h]
  · rw [if_neg (by simpa using h), if_neg h]
theorem fsl18Size {k : Nat} (l : List (List Int)) (hl : l.length ≤ 1048576) (hk : l.length + 3 ≤ k) : Fsl18Size k l = some (mxl l) := by
  obtain ⟨k, rfl⟩ := pred (d := 0) (show 1 ≤ k by omega)
  refine (esl18Size k l).trans (row_s0 (L := Lsl18Size_0 k _ _) (a := l) (fun (s : Int) i => (s, i)) (fun s i l => some (l.foldl (fun s x => mx s (x.length : Int)) s)) (fun _ _ _ => rfl) (by omega) (fun s => by simp) (fun n i s x r h0 ht hw hi hx ih => ?_) (by omega) 0)
  refine (bs (fsMax _ _ (by omega))).trans ?_
  rw [hw, ih]
  rfl
theorem fsl15Has {k : Nat} (l : List Int) (x : Int) (hl : l.length ≤ 1048576) (hk : l.length + 2 ≤ k) : Fsl15Has k l x = some (l.any fun y => y == x) := by
  obtain ⟨k, rfl⟩ := pred (d := 0) (show 1 ≤ k by omega)
  refine (esl15Has k l x).trans (row_i (L := Lsl15Has_0 k _ _ _) (a := l) (fun _ l => some (l.any fun y => y == x)) (fun _ _ => rfl) (by omega) rfl (fun n i y r h0 ht hw hi hx ih => ?_) (by omega))
  show (if (y == x) = true then some true else _) = _
  rw [hw, ih, List.any_cons]
  cases (y == x) <;> rfl
theorem nodup_le : ∀ (n : Nat) (l : List Int), l.Nodup → (∀ x ∈ l, 0 ≤ x ∧ x < (n : Int)) → l.length ≤ n
  | 0, l, _, h => by
    cases l with
    | nil => simp
    | cons x r => have := h x (by simp); omega
  | n + 1, l, hd, h => by
    have h1 := nodup_le n (l.erase (n : Int)) (hd.erase _) (fun x hx => by
      have hx' := (List.Nodup.mem_erase_iff hd).1 hx
      have := h x hx'.2
      have hne := hx'.1
      omega)
    by_cases hm : (n : Int) ∈ l
    · rw [List.length_erase_of_mem hm] at h1
      omega
    · rw [List.erase_of_not_mem hm] at h1
      omega
/-- An edge of one of the rows. -/
def Un (l : List (List Int)) (x y : Nat) : Prop := (∃ row ∈ l, row[x]? = some (y : Int)) ∧ (y : Int) < mxl l
/-- A set of nodes, as a row. -/
structure Nodes (n : Nat) (s : List Int) : Prop where
  nodup : s.Nodup
  range : ∀ x ∈ s, 0 ≤ x ∧ x < (n : Int)
theorem Nodes.len {n : Nat} {s : List Int} (h : Nodes n s) : s.length ≤ n := nodup_le n s h.nodup h.range
theorem Nodes.snoc {n : Nat} {s : List Int} (h : Nodes n s) {x : Int} (hx : isIdx x (n : Int) = true) (hn : (s.any fun y => y == x) = false) : Nodes n (s ++ [x]) := by
  have hnm : x ∉ s := fun hm => by
    have : (s.any fun y => y == x) = true := List.any_eq_true.2 ⟨x, hm, by simp⟩
    rw [hn] at this
    cases this
  unfold isIdx at hx
  simp only [Bool.and_eq_true, decide_eq_true_eq] at hx
  refine ⟨List.nodup_append.2 ⟨h.nodup, by simp, ?_⟩, fun y hy => ?_⟩
  · rintro a ha b hb rfl
    have hax : a = x := by simpa using hb
    rw [hax] at ha
    exact hnm ha
  · rcases List.mem_append.1 hy with hy | hy
    · exact h.range y hy
    · have : y = x := by simpa using hy
      subst this
      exact ⟨by omega, by omega⟩
theorem fsSteps {k N : Nat} (l : List (List Int)) (n x : Nat) (hn : mxl l = (n : Int)) (hl : l.length ≤ N) (hN : N ≤ 1048576) (hnN : n ≤ N) (hk : N + 10 ≤ k) : ∃ st, Fsl18Steps k l (n : Int) (x : Int) = some st ∧ Nodes n st ∧ ∀ y : Nat, Un l x y → (y : Int) ∈ st := by
  obtain ⟨k, rfl⟩ := pred (d := 0) (show 1 ≤ k by omega)
  have key : ∀ (m q i : Nat) (out : List Int), i + m = l.length → m < q → Nodes n out → ∃ st, Lsl18Steps_0 k (fun (v0 : Int × (List Int)) => some v0.2) (l, (n : Int), (x : Int)) q ((i : Int), out) = some st ∧ Nodes n st ∧ (∀ y ∈ out, y ∈ st) ∧ ∀ y : Nat, (∃ row ∈ l.drop i, row[x]? = some (y : Int)) → (y : Int) < mxl l → (y : Int) ∈ st := by
    intro m
    induction m with
    | zero =>
      intro q i out h hq ho
      obtain ⟨q, rfl⟩ : ∃ z, q = z + 1 := ⟨q - 1, by omega⟩
      refine ⟨out, if_neg (show ¬ decide ((i : Int) < (l.length : Int)) = true by simp; omega), ho, fun _ h => h, fun y hy _ => ?_⟩
      obtain ⟨row, hr, _⟩ := hy
      rw [List.drop_eq_nil_of_le (by omega)] at hr
      simp at hr
    | succ m ih =>
      intro q i out h hq ho
      obtain ⟨q, rfl⟩ : ∃ z, q = z + 1 := ⟨q - 1, by omega⟩
      have hi : i < l.length := by omega
      have c : decide ((i : Int) < (l.length : Int)) = true := by simp; omega
      have h0 : (0 : Int) ≤ (i : Int) := by omega
      have x0 : (0 : Int) ≤ (x : Int) := by omega
      have hg : l[i]? = some l[i] := List.getElem?_eq_getElem hi
      have e2 : IntKind.i64.wrap ((i : Int) + 1) = ((i + 1 : Nat) : Int) := by rw [wrap_id (by omega) (by omega)]; omega
      have hol := ho.len
      have hdrop : l.drop i = l[i] :: l.drop (i + 1) := List.drop_eq_getElem_cons hi
      have skip : (∀ y : Nat, l[i][x]? = some (y : Int) → (y : Int) < mxl l → (y : Int) ∈ out) → ∃ st, Lsl18Steps_0 k (fun (v0 : Int × (List Int)) => some v0.2) (l, (n : Int), (x : Int)) q (IntKind.i64.wrap ((i : Int) + 1), out) = some st ∧ Nodes n st ∧ (∀ y ∈ out, y ∈ st) ∧ ∀ y : Nat, (∃ row ∈ l.drop i, row[x]? = some (y : Int)) → (y : Int) < mxl l → (y : Int) ∈ st := by
        intro hy
        obtain ⟨st, s1, s2, s3, s4⟩ := ih q (i + 1) out (by omega) (by omega) ho
        refine ⟨st, by rw [e2]; exact s1, s2, s3, fun y hr hlt => ?_⟩
        obtain ⟨row, hr, hrow⟩ := hr
        rw [hdrop] at hr
        rcases List.mem_cons.1 hr with rfl | hr
        · exact s3 _ (hy y hrow hlt)
        · exact s4 y ⟨row, hr, hrow⟩ hlt
      by_cases hx : x < l[i].length
      · have c1 : ((decide ((x : Int) < (l[i].length : Int))) == true) = true := by simp; omega
        have hrow : l[i][x]? = some l[i][x] := List.getElem?_eq_getElem hx
        have hI1 : Fsl1In k l[i][x] 0 (IntKind.i64.wrap ((n : Int) - 1)) = some (isIdx l[i][x] (n : Int)) := by rw [fsl1In _ _ _ (by omega), inR_last _ (by omega)]
        cases hI : isIdx l[i][x] (n : Int) with
        | false =>
          rw [hI] at hI1
          obtain ⟨st, s1, s2⟩ := skip (fun y hy hlt => by
            rw [hrow] at hy
            have hy' : l[i][x] = (y : Int) := Option.some.inj hy
            rw [hn] at hlt
            rw [hy'] at hI
            simp [isIdx] at hI
            omega)
          exact ⟨st, (if_pos c).trans ((if_pos h0).trans ((ix_some (n := i) hg _).trans ((if_pos c1).trans ((if_pos h0).trans ((ix_some (n := i) hg _).trans ((if_pos x0).trans ((ix_some (n := x) hrow _).trans ((bs hI1).trans ((if_neg (by decide)).trans s1))))))))), s2⟩
        | true =>
          rw [hI] at hI1
          have hH : Fsl15Has k out l[i][x] = some (out.any fun y => y == l[i][x]) := fsl15Has _ _ (by omega) (by omega)
          cases ha : (out.any fun y => y == l[i][x]) with
          | true =>
            rw [ha] at hH
            obtain ⟨st, s1, s2⟩ := skip (fun y hy hlt => by
              rw [hrow] at hy
              have hy := Option.some.inj hy
              obtain ⟨z, hz, hze⟩ := List.any_eq_true.1 ha
              have : z = (y : Int) := by rw [← hy]; simpa using hze
              rw [← this]
              exact hz)
            exact ⟨st, (if_pos c).trans ((if_pos h0).trans ((ix_some (n := i) hg _).trans ((if_pos c1).trans ((if_pos h0).trans ((ix_some (n := i) hg _).trans ((if_pos x0).trans ((ix_some (n := x) hrow _).trans ((bs hI1).trans ((if_pos rfl).trans ((if_pos h0).trans ((ix_some (n := i) hg _).trans ((if_pos x0).trans ((ix_some (n := x) hrow _).trans ((bs hH).trans ((if_neg (by decide)).trans s1))))))))))))))), s2⟩
          | false =>
            rw [ha] at hH
            have c8 : (out.length + ([l[i][x]]).length) * 8 ≤ 140737488355328 := by simp; omega
            obtain ⟨st, s1, s2, s3, s4⟩ := ih q (i + 1) (out ++ [l[i][x]]) (by omega) (by omega) (ho.snoc hI ha)
            rw [← e2] at s1
            refine ⟨st, (if_pos c).trans ((if_pos h0).trans ((ix_some (n := i) hg _).trans ((if_pos c1).trans ((if_pos h0).trans ((ix_some (n := i) hg _).trans ((if_pos x0).trans ((ix_some (n := x) hrow _).trans ((bs hI1).trans ((if_pos rfl).trans ((if_pos h0).trans ((ix_some (n := i) hg _).trans ((if_pos x0).trans ((ix_some (n := x) hrow _).trans ((bs hH).trans ((if_pos rfl).trans ((if_pos h0).trans ((ix_some (n := i) hg _).trans ((if_pos x0).trans ((ix_some (n := x) hrow _).trans ((if_pos c8).trans s1)))))))))))))))))))), s2, fun y hy => s3 y (List.mem_append_left _ hy), fun y hr hlt => ?_⟩
            obtain ⟨row, hr, hrw⟩ := hr
            rw [hdrop] at hr
            rcases List.mem_cons.1 hr with rfl | hr
            · rw [hrow] at hrw
              rw [← Option.some.inj hrw]
              exact s3 _ (by simp)
            · exact s4 y ⟨row, hr, hrw⟩ hlt
      · have c1 : ¬ ((decide ((x : Int) < (l[i].length : Int))) == true) = true := by simp; omega
        obtain ⟨st, s1, s2⟩ := skip (fun y hy _ => by rw [List.getElem?_eq_none (by omega)] at hy; cases hy)
        exact ⟨st, (if_pos c).trans ((if_pos h0).trans ((ix_some (n := i) hg _).trans ((if_neg c1).trans s1))), s2⟩
  obtain ⟨st, s1, s2, s3, s4⟩ := key l.length k 0 [] (by omega) (by omega) ⟨List.nodup_nil, by simp⟩
  exact ⟨st, (esl18Steps k l _ _).trans s1, s2, fun y hy => s4 y (by simpa using hy.1) hy.2⟩
theorem us2 {R : Type} {k N n : Nat} (X : VsUnionHasLoop_2 → Option R) (c : CsUnionHasLoop_2) (more : List Int) (hc : c.2.2.2.2 = more) (hm : Nodes n more) (hnN : n ≤ N) (hN : N ≤ 1048576) (hk : N + 10 ≤ k) :
    ∀ (m q j : Nat) (seen : List Int), j + m = more.length → m < q → Nodes n seen → ∃ e, LsUnionHasLoop_2 k X c q ((j : Int), seen) = X ((more.length : Int), seen ++ e) ∧ Nodes n (seen ++ e) ∧ ∀ y ∈ more.drop j, y ∈ seen ++ e := by
  intro m
  induction m with
  | zero =>
    intro q j seen h hq hs
    obtain ⟨q, rfl⟩ : ∃ z, q = z + 1 := ⟨q - 1, by omega⟩
    obtain rfl : j = more.length := by omega
    refine ⟨[], ?_, by simpa using hs, by simp⟩
    rw [List.append_nil]
    exact if_neg (show ¬ decide ((more.length : Int) < (c.2.2.2.2.length : Int)) = true by rw [hc]; simp)
  | succ m ih =>
    intro q j seen h hq hs
    obtain ⟨q, rfl⟩ : ∃ z, q = z + 1 := ⟨q - 1, by omega⟩
    have hml := hm.len
    have hsl := hs.len
    have hj : j < more.length := by omega
    have hg : c.2.2.2.2[j]? = some more[j] := by rw [hc]; exact List.getElem?_eq_getElem hj
    have p0 : (0 : Int) ≤ (j : Int) := by omega
    have p1 : (j : Int) < (c.2.2.2.2.length : Int) := by rw [hc]; omega
    have e2 : IntKind.i64.wrap ((j : Int) + 1) = ((j + 1 : Nat) : Int) := by rw [wrap_id (by omega) (by omega)]; omega
    have hd : more.drop j = more[j] :: more.drop (j + 1) := List.drop_eq_getElem_cons hj
    have hH : Fsl15Has k seen more[j] = some (seen.any fun y => y == more[j]) := fsl15Has _ _ (by omega) (by omega)
    cases ha : (seen.any fun y => y == more[j]) with
    | true =>
      rw [ha] at hH
      obtain ⟨e, e1, e3, e4⟩ := ih q (j + 1) seen (by omega) (by omega) hs
      rw [← e2] at e1
      refine ⟨e, (if_pos (decide_eq_true p1)).trans ((if_pos p0).trans ((if_pos p1).trans ((ix_some (n := j) hg _).trans ((bs hH).trans ((if_neg (by decide)).trans e1))))), e3, fun y hy => ?_⟩
      rw [hd] at hy
      rcases List.mem_cons.1 hy with rfl | hy
      · obtain ⟨z, hz, hze⟩ := List.any_eq_true.1 ha
        have : z = more[j] := by simpa using hze
        rw [← this]
        exact List.mem_append_left _ hz
      · exact e4 y hy
    | false =>
      rw [ha] at hH
      have hI : isIdx more[j] (n : Int) = true := by
        have := hm.range more[j] (List.getElem_mem hj)
        simp [isIdx]
        omega
      have c8 : (seen.length + ([more[j]]).length) * 8 ≤ 140737488355328 := by simp; omega
      obtain ⟨e, e1, e3, e4⟩ := ih q (j + 1) (seen ++ [more[j]]) (by omega) (by omega) (hs.snoc hI ha)
      rw [← e2] at e1
      refine ⟨more[j] :: e, ?_, by simpa using e3, fun y hy => ?_⟩
      · refine ((if_pos (decide_eq_true p1)).trans ((if_pos p0).trans ((if_pos p1).trans ((ix_some (n := j) hg _).trans ((bs hH).trans ((if_pos rfl).trans ((if_pos p0).trans ((if_pos p1).trans ((ix_some (n := j) hg _).trans ((if_pos c8).trans e1)))))))))).trans ?_
        simp
      · rw [hd] at hy
        rcases List.mem_cons.1 hy with rfl | hy
        · simp
        · simpa using e4 y hy
theorem us1 {k N n : Nat} (Y : Option Bool) (l : List (List Int)) (i : Nat) (hn : mxl l = (n : Int)) (hl : l.length ≤ N) (hnN : n ≤ N) (hN : N ≤ 1048576) (hk : N + 15 ≤ k) :
    ∀ (m q j : Nat) (seen : List Int), j + m = n + 1 → m < q → j ≤ seen.length → Nodes n seen → (∀ a, a < j → ∀ z, seen[a]? = some z → z ≠ (i : Int) ∧ ∀ y : Nat, Un l z.toNat y → (y : Int) ∈ seen) →
      LsUnionHasLoop_1 k (fun (v1 : Int × (List Int)) (x3 : Int) => some true) (fun (v1 : Int × (List Int)) => Y) (l, (n : Int), (i : Int)) q ((j : Int), seen) = some true ∨
        (LsUnionHasLoop_1 k (fun (v1 : Int × (List Int)) (x3 : Int) => some true) (fun (v1 : Int × (List Int)) => Y) (l, (n : Int), (i : Int)) q ((j : Int), seen) = Y ∧ ∃ S : List Int, (∀ y ∈ seen, y ∈ S) ∧ (∀ y ∈ S, y ≠ (i : Int)) ∧ ∀ z ∈ S, ∀ y : Nat, Un l z.toNat y → (y : Int) ∈ S) := by
  intro m
  induction m with
  | zero =>
    intro q j seen h hq hj hs hp
    have := hs.len
    omega
  | succ m ih =>
    intro q j seen h hq hj hs hp
    obtain ⟨q, rfl⟩ : ∃ z, q = z + 1 := ⟨q - 1, by omega⟩
    have hsl := hs.len
    by_cases hjl : j = seen.length
    · subst hjl
      refine .inr ⟨if_neg (show ¬ decide ((seen.length : Int) < (seen.length : Int)) = true by simp), seen, fun y hy => hy, fun y hy => ?_, fun z hz => ?_⟩
      · obtain ⟨a, ha, hae⟩ := List.getElem_of_mem hy
        exact (hp a ha y (by rw [List.getElem?_eq_getElem ha, hae])).1
      · obtain ⟨a, ha, hae⟩ := List.getElem_of_mem hz
        exact (hp a ha z (by rw [List.getElem?_eq_getElem ha, hae])).2
    · have hjlt : j < seen.length := by omega
      have hg : seen[j]? = some seen[j] := List.getElem?_eq_getElem hjlt
      have p0 : (0 : Int) ≤ (j : Int) := by omega
      have p1 : (j : Int) < (seen.length : Int) := by omega
      have e2 : IntKind.i64.wrap ((j : Int) + 1) = ((j + 1 : Nat) : Int) := by rw [wrap_id (by omega) (by omega)]; omega
      by_cases hd : (seen[j] == (i : Int)) = true
      · exact .inl ((if_pos (decide_eq_true p1)).trans ((if_pos p0).trans ((if_pos p1).trans ((ix_some (n := j) hg _).trans (if_pos hd)))))
      · have hr := hs.range seen[j] (List.getElem_mem hjlt)
        obtain ⟨x, hx⟩ : ∃ x : Nat, seen[j] = (x : Int) := ⟨seen[j].toNat, by omega⟩
        obtain ⟨st, s1, s2, s3⟩ := fsSteps (k := k) l n x hn hl hN hnN (by omega)
        rw [← hx] at s1
        obtain ⟨e, e1, e3, e4⟩ := us2 (k := k) (N := N) (n := n) (fun (v2 : Int × (List Int)) => LsUnionHasLoop_1 k (fun (v1 : Int × (List Int)) (x3 : Int) => some true) (fun (v1 : Int × (List Int)) => Y) (l, (n : Int), (i : Int)) q ((IntKind.i64.wrap ((j : Int) + 1)), v2.2)) (l, (n : Int), (i : Int), (j : Int), st) st rfl s2 hnN hN (by omega) st.length k 0 seen (by omega) (by have := s2.len; omega) hs
        have hstep : LsUnionHasLoop_1 k (fun (v1 : Int × (List Int)) (x3 : Int) => some true) (fun (v1 : Int × (List Int)) => Y) (l, (n : Int), (i : Int)) (q + 1) ((j : Int), seen) = LsUnionHasLoop_1 k (fun (v1 : Int × (List Int)) (x3 : Int) => some true) (fun (v1 : Int × (List Int)) => Y) (l, (n : Int), (i : Int)) q (((j + 1 : Nat) : Int), seen ++ e) := by
          rw [← e2]
          exact (if_pos (decide_eq_true p1)).trans ((if_pos p0).trans ((if_pos p1).trans ((ix_some (n := j) hg _).trans ((if_neg hd).trans ((if_pos p0).trans ((if_pos p1).trans ((ix_some (n := j) hg _).trans ((bs s1).trans e1))))))))
        rw [hstep]
        have hpre : ∀ a z, a < j → (seen ++ e)[a]? = some z → seen[a]? = some z := fun a z ha hz => by rw [List.getElem?_append_left (by omega)] at hz; exact hz
        rcases ih q (j + 1) (seen ++ e) (by omega) (by omega) (by simp; omega) e3 (fun a ha z hz => by
          by_cases haj : a = j
          · subst haj
            rw [List.getElem?_append_left hjlt, hg] at hz
            have hz := Option.some.inj hz
            subst hz
            refine ⟨by simpa using hd, fun y hy => ?_⟩
            rw [hx] at hy
            exact e4 _ (by simpa using s3 y (by simpa using hy))
          · obtain ⟨q1, q2⟩ := hp a (by omega) z (hpre a z (by omega) hz)
            exact ⟨q1, fun y hy => List.mem_append_left _ (q2 y hy)⟩) with r | ⟨r, S, t1, t2, t3⟩
        · exact .inl r
        · exact .inr ⟨r, S, fun y hy => t1 y (List.mem_append_left _ hy), t2, t3⟩
theorem fsUnion {k N : Nat} (l : List (List Int)) (hl : l.length ≤ N) (hx : ∀ x ∈ l, x.length ≤ N) (hN : N ≤ 1048576) (hk : N + 30 ≤ k) : ∃ b, FsUnionHasLoop k l = some b ∧ (b = false → ∀ i, ¬ Pth (Un l) i i) := by
  obtain ⟨k, rfl⟩ := pred (d := 0) (show 1 ≤ k by omega)
  obtain ⟨m1, m2⟩ := mxl_ge l 0
  have m3 := mxl_le (N := (N : Int)) l 0 (by omega) (fun x h => by have := hx x h; omega)
  obtain ⟨n, hn⟩ : ∃ n : Nat, mxl l = (n : Int) := ⟨(mxl l).toNat, by unfold mxl at *; omega⟩
  have hnN : n ≤ N := by unfold mxl at hn; omega
  have e0 := (esUnionHasLoop k l).trans (bs (fsl18Size l (by omega) (by omega)))
  rw [hn] at e0
  have key : ∀ (m q i : Nat), i + m = n → m < q → (∀ a, a < i → ¬ Pth (Un l) a a) → ∃ b, LsUnionHasLoop_0 k (fun (v0 : Int) (p2 : List Int) (v1 : Int × (List Int)) (x3 : Int) => some true) (fun (v0 : Int) => some false) (l, (n : Int)) q (i : Int) = some b ∧ (b = false → ∀ i, ¬ Pth (Un l) i i) := by
    intro m
    induction m with
    | zero =>
      intro q i h hq hp
      obtain ⟨q, rfl⟩ : ∃ z, q = z + 1 := ⟨q - 1, by omega⟩
      refine ⟨false, if_neg (show ¬ decide ((i : Int) < (n : Int)) = true by simp; omega), fun _ a ha => ?_⟩
      have : (a : Int) < mxl l := by
        cases ha with
        | one h => exact h.2
        | more _ h => exact h.2
      rw [hn] at this
      exact hp a (by omega) ha
    | succ m ih =>
      intro q i h hq hp
      obtain ⟨q, rfl⟩ : ∃ z, q = z + 1 := ⟨q - 1, by omega⟩
      have c : decide ((i : Int) < (n : Int)) = true := by simp; omega
      have e2 : IntKind.i64.wrap ((i : Int) + 1) = ((i + 1 : Nat) : Int) := by rw [wrap_id (by omega) (by omega)]; omega
      obtain ⟨st, s1, s2, s3⟩ := fsSteps (k := k) l n i hn hl hN hnN (by omega)
      rcases us1 (k := k) (LsUnionHasLoop_0 k (fun (v0 : Int) (p2 : List Int) (v1 : Int × (List Int)) (x3 : Int) => some true) (fun (v0 : Int) => some false) (l, (n : Int)) q (IntKind.i64.wrap ((i : Int) + 1))) l i hn hl hnN hN (by omega) (n + 1) k 0 st (by omega) (by omega) (by omega) s2 (fun a ha => by omega) with r | ⟨r, S, t1, t2, t3⟩
      · exact ⟨true, (if_pos c).trans ((bs s1).trans r), fun h => by cases h⟩
      · obtain ⟨b, b1, b2⟩ := ih q (i + 1) (by omega) (by omega) (fun a ha hpt => by
          by_cases e : a = i
          · subst e
            have all : ∀ y : Nat, Pth (Un l) a y → (y : Int) ∈ S := by
              intro y hy
              induction hy with
              | one h => exact t1 _ (s3 _ h)
              | more _ h ih => exact t3 _ ih _ (by simpa using h)
            exact t2 _ (all a hpt) rfl
          · exact hp a (by omega) hpt)
        rw [← e2] at b1
        exact ⟨b, (if_pos c).trans ((bs s1).trans (r.trans b1)), b2⟩
  obtain ⟨b, b1, b2⟩ := key n k 0 (by omega) (by omega) (fun a ha => by omega)
  exact ⟨b, e0.trans b1, b2⟩
end Go.Proofs.YtcdlkadknenodaaGreat.World
namespace Go.Proofs.YtcdlkadknenodaaGreat.World
open Go Go.V Go.Proofs
set_option linter.unusedVariables false
set_option linter.unusedSimpArgs false
set_option maxRecDepth 100000
set_option maxHeartbeats 4000000
/-! ### safe mixes -/
theorem own_if {R : Type} (i n : Int) (A B : Option R) : (if decide (i < n) = true then if 0 ≤ i then if i < n then A else none else none else B) = if decide (i < n) = true then if 0 ≤ i then A else none else B := by
  by_cases h : i < n
  · rw [if_pos h]
  · rw [if_neg (by simpa using h), if_neg (by simpa using h)]
theorem mixS_mem {N : Nat} {p : TProgram} {d : Int} (hr : rowsLe N sProgram p) (hN : N ≤ 1048576) (l : List Int) : ∀ x ∈ mixS p d l, x.length ≤ N := by
  intro x hx
  obtain ⟨a, ha, he⟩ := List.mem_filterMap.1 hx
  have h3 := (fTableIn (k := N + 5) p a d hr hN (Nat.le_refl _)).2.2
  cases ht : tbl p a d with
  | none => rw [ht] at he; cases he
  | some t =>
    rw [ht] at he
    rw [tblR_some ht] at h3
    obtain rfl : t.2.2 = x := by simpa using he
    exact h3
theorem mixI_mem {N : Nat} {p : TProgram} {d : Int} (hr : rowsLe N sProgram p) (hN : N ≤ 1048576) (l : List Int) : ∀ x ∈ mixI p d l, x.length ≤ N := by
  intro x hx
  obtain ⟨a, ha, he⟩ := List.mem_map.1 hx
  have h3 := (fTableIn (k := N + 5) p a d hr hN (Nat.le_refl _)).2.2
  rw [he] at h3
  exact h3
theorem fsSafe {k N : Nat} (p : TProgram) (d a b : Int) (hr : rowsLe N sProgram p) (hN : N ≤ 1048576) (hk : N + 40 ≤ k) :
    ∃ c, FsIsSafeMix k p d a b = some c ∧ (c = true → ∀ i, ¬ Pth (Un (mixS p d (pcs a b 0 p.2.2.2))) i i) := by
  obtain ⟨k, rfl⟩ := pred (d := 0) (show 1 ≤ k by omega)
  have h1 : p.2.2.2.length ≤ N := (rowsLe_row hr.2.2.2).1
  have hp := pcs_len a b p.2.2.2 0
  have hm := mixS_len p d (pcs a b 0 p.2.2.2)
  obtain ⟨c, c1, c2⟩ := fsUnion (k := k) (mixS p d (pcs a b 0 p.2.2.2)) (N := N) (by omega) (mixS_mem hr hN _) hN (by omega)
  have e0 := (esIsSafeMix k p d a b).trans (bs (fsPiecesIn p a b (by omega) (by omega)))
  refine ⟨!c, e0.trans ?_, fun h => c2 (by simpa using h)⟩
  generalize hl : pcs a b 0 p.2.2.2 = l at *
  refine (row_inv0 (L := LsIsSafeMix_0 k (fun v0 => (FsUnionHasLoop k v0.2).bind fun p2 => some (!p2)) (d, p, l)) (a := l) (fun (s : List (List Int)) i => (i, s)) (fun s i r => (FsUnionHasLoop k (s ++ mixS p d r)).bind fun p2 => some (!p2)) (X := fun s _ => (FsUnionHasLoop k s).bind fun p2 => some (!p2)) (fun s i => s.length ≤ i) (fun _ _ _ => own_if _ _ _ _) (by omega) (fun s _ => by simp [mixS]) (fun n i s x r hI h0 ht hw hi hx ih => ?_) (by omega) [] (by simp)).trans ?_
  · dsimp only
    refine (bs (fTableIn p x d hr hN (by omega)).1).trans ?_
    rw [hw]
    cases hq : tbl p x d with
    | none =>
      rw [tblR_none hq, if_neg (by decide), ih s (by omega)]
      show _ = (FsUnionHasLoop k (s ++ (x :: r).filterMap _)).bind _
      rw [List.filterMap_cons, hq]
      rfl
    | some t =>
      rw [tblR_some hq, if_pos rfl, if_pos (by simp; omega), ih _ (by simp; omega)]
      show _ = (FsUnionHasLoop k (s ++ (x :: r).filterMap _)).bind _
      rw [List.filterMap_cons, hq]
      simp [mixS]
  · show (FsUnionHasLoop k ([] ++ mixS p d l)).bind _ = _
    rw [List.nil_append, c1]
    rfl
theorem fiSafe {k N : Nat} (p : TProgram) (d a b : Int) (hr : rowsLe N sProgram p) (hN : N ≤ 1048576) (hk : 2 * N + 40 ≤ k) :
    ∃ c, FiIsSafeMix k p d a b = some c ∧ (c = true → ∀ R i, Closed (mixI p d (pcs a b 0 p.2.2.2)) R → ¬ R i) := by
  obtain ⟨k, rfl⟩ := pred (d := 0) (show 1 ≤ k by omega)
  have h1 : p.2.2.2.length ≤ N := (rowsLe_row hr.2.2.2).1
  have hp := pcs_len a b p.2.2.2 0
  obtain ⟨c, c1, _, c2⟩ := fiUnion (k := k) (mixI p d (pcs a b 0 p.2.2.2)) (N := N) (by simp only [mixI, List.length_map]; omega) (mixI_mem hr hN _) hN (by omega)
  have e0 := (eiIsSafeMix k p d a b).trans (bs (fiPiecesIn p a b (by omega) (by omega)))
  refine ⟨!c, e0.trans ?_, fun h R i hR hi => by have := c2 R i hR hi; rw [this] at h; cases h⟩
  generalize hl : pcs a b 0 p.2.2.2 = l at *
  refine (row_inv0 (L := LiIsSafeMix_0 k (fun v0 => (FiUnionHasLoop k v0.2).bind fun p2 => some (!p2)) (d, (l.length : Int), p, l)) (a := l) (fun (s : List (List Int)) i => (i, s)) (fun s i r => (FiUnionHasLoop k (s ++ mixI p d r)).bind fun p2 => some (!p2)) (X := fun s _ => (FiUnionHasLoop k s).bind fun p2 => some (!p2)) (fun s i => s.length ≤ i) (fun _ _ _ => own_if _ _ _ _) (by omega) (fun s _ => by simp [mixI]) (fun n i s x r hI h0 ht hw hi hx ih => ?_) (by omega) [] (by simp)).trans ?_
  · dsimp only
    refine (bs (fTableIn p x d hr hN (by omega)).2.1).trans ?_
    rw [hw, if_pos (by simp; omega), ih _ (by simp; omega)]
    simp [mixI]
  · show (FiUnionHasLoop k ([] ++ mixI p d l)).bind _ = _
    rw [List.nil_append, c1]
    rfl
end Go.Proofs.YtcdlkadknenodaaGreat.World
namespace Go.Proofs.YtcdlkadknenodaaGreat.World
open Go Go.V Go.Proofs
set_option linter.unusedVariables false
set_option linter.unusedSimpArgs false
set_option maxRecDepth 100000
set_option maxHeartbeats 4000000
/-! ### one hop -/
def mixAt (p : TProgram) (t : Int) : List Int := pcs (t - 2 * p.2.2.1) (t + 2 * p.2.2.1) 0 p.2.2.2
structure Hop (p : TProgram) (x d t h : Int) (Q : Prop) : Prop where
  s0 : 0 ≤ p.2.2.1
  s5 : p.2.2.1 ≤ 5
  t0 : 0 ≤ t
  t1 : t ≤ 1000
  q : Q
  row : 0 ≤ x ∧ ∃ u : TT, tbl p (pieceAt p t) d = some u ∧ u.2.2[x.toNat]? = some h
def QS (p : TProgram) (d t : Int) : Prop := ∀ i, ¬ Pth (Un (mixS p d (mixAt p t))) i i
def QI (p : TProgram) (d t : Int) : Prop := ∀ R i, Closed (mixI p d (mixAt p t)) R → ¬ R i
theorem inR_true {n a b : Int} (h : inR n a b = true) : a ≤ n ∧ n ≤ b := by
  unfold inR at h
  simpa [Bool.and_eq_true] using h
theorem mixAt_eq {p : TProgram} {t : Int} (s0 : 0 ≤ p.2.2.1) (s5 : p.2.2.1 ≤ 5) (t0 : 0 ≤ t) (t1 : t ≤ 1000) :
    IntKind.i64.wrap (t - IntKind.i64.wrap (2 * p.2.2.1)) = t - 2 * p.2.2.1 ∧ IntKind.i64.wrap (t + IntKind.i64.wrap (2 * p.2.2.1)) = t + 2 * p.2.2.1 := by
  have h0 : IntKind.i64.wrap (2 * p.2.2.1) = 2 * p.2.2.1 := wrap_id (by omega) (by omega)
  rw [h0]
  exact ⟨wrap_id (by omega) (by omega), wrap_id (by omega) (by omega)⟩
theorem fsNext {k N : Nat} (p : TProgram) (x d t : Int) (hr : rowsLe N sProgram p) (hN : N ≤ 1048576) (hk : N + 40 ≤ k) :
    ∃ h, Fsl19Next k p x d t = some h ∧ (0 ≤ h → 0 ≤ x ∧ ∃ u : TT, tbl p (pieceAt p t) d = some u ∧ u.2.2[x.toNat]? = some h) := by
  obtain ⟨k, rfl⟩ := pred (d := 0) (show 1 ≤ k by omega)
  have h1 : p.2.2.2.length ≤ N := (rowsLe_row hr.2.2.2).1
  obtain ⟨t1, _, t3⟩ := fTableIn (k := k) p (pieceAt p t) d hr hN (by omega)
  have e0 := (esl19Next k p x d t).trans ((bs (fsPieceAt p t (by omega) (by omega))).trans (bs t1))
  cases hq : tbl p (pieceAt p t) d with
  | none =>
    rw [tblR_none hq] at e0
    exact ⟨-1, e0, fun h => by omega⟩
  | some u =>
    rw [tblR_some hq] at e0 t3
    have e1 := e0.trans ((if_pos rfl).trans (bs (fsl1In _ _ _ (by omega))))
    dsimp only at e1 t3
    rw [inR_last x (by omega)] at e1
    cases hI : isIdx x (u.2.2.length : Int) with
    | false =>
      rw [hI] at e1
      exact ⟨-1, e1.trans (if_pos rfl), fun h => by omega⟩
    | true =>
      rw [hI] at e1
      obtain ⟨x0, x1⟩ := isIdx_pos hI
      exact ⟨_, e1.trans ((if_neg (by decide)).trans ((if_pos x0).trans ((if_pos (by omega)).trans (ix_at x1 _)))), fun h => ⟨x0, u, rfl, List.getElem?_eq_getElem x1⟩⟩
theorem fiNext {k N : Nat} (p : TProgram) (x d t : Int) (hr : rowsLe N sProgram p) (hN : N ≤ 1048576) (hk : N + 40 ≤ k) :
    ∃ h, FinextIn k p (pieceAt p t) d x = some h ∧ (0 ≤ h.1 → 0 ≤ x ∧ ∃ u : TT, tbl p (pieceAt p t) d = some u ∧ u.2.2[x.toNat]? = some h.1) := by
  obtain ⟨k, rfl⟩ := pred (d := 0) (show 1 ≤ k by omega)
  have h1 : p.2.2.2.length ≤ N := (rowsLe_row hr.2.2.2).1
  obtain ⟨_, t1, t3⟩ := fTableIn (k := k) p (pieceAt p t) d hr hN (by omega)
  have e0 := (einextIn k p (pieceAt p t) d x).trans (bs t1)
  cases hq : tbl p (pieceAt p t) d with
  | none =>
    rw [tblR_none hq] at e0
    exact ⟨(-1, false), e0, fun h => by dsimp only at h; omega⟩
  | some u =>
    rw [tblR_some hq] at e0 t3
    have e1 := e0.trans ((if_pos rfl).trans (bs (fiisIndex _ _ (by omega))))
    dsimp only at e1 t3
    cases hI : isIdx x (u.2.2.length : Int) with
    | false =>
      rw [hI] at e1
      exact ⟨(-1, false), e1.trans (if_pos rfl), fun h => by dsimp only at h; omega⟩
    | true =>
      rw [hI] at e1
      obtain ⟨x0, x1⟩ := isIdx_pos hI
      exact ⟨_, e1.trans ((if_neg (by decide)).trans ((if_pos x0).trans ((if_pos (by omega)).trans (ix_at x1 _)))), fun h => ⟨x0, u, rfl, List.getElem?_eq_getElem x1⟩⟩
theorem fsHopAt {k N : Nat} (p : TProgram) (x d t : Int) (hr : rowsLe N sProgram p) (hN : N ≤ 1048576) (hk : N + 50 ≤ k) :
    ∃ h, FsHopAt k p x d t = some h ∧ (0 ≤ h → Hop p x d t h (QS p d t)) := by
  obtain ⟨k, rfl⟩ := pred (d := 0) (show 1 ≤ k by omega)
  have e0 := (esHopAt k p x d t).trans (bs (fsl1In _ _ _ (by omega)))
  cases h1 : inR p.2.2.1 0 5 with
  | false =>
    rw [h1] at e0
    exact ⟨-1, e0, fun h => by omega⟩
  | true =>
    rw [h1] at e0
    have e1 := e0.trans ((if_pos (by decide)).trans (bs (fsl1In _ _ _ (by omega))))
    cases h2 : inR t 0 1000 with
    | false =>
      rw [h2] at e1
      exact ⟨-1, e1, fun h => by omega⟩
    | true =>
      rw [h2] at e1
      obtain ⟨s0, s5⟩ := inR_true h1
      obtain ⟨t0, t1⟩ := inR_true h2
      obtain ⟨m1, m2⟩ := mixAt_eq s0 s5 t0 t1
      rw [m1, m2] at e1
      obtain ⟨c, c1, c2⟩ := fsSafe (k := k) p d (t - 2 * p.2.2.1) (t + 2 * p.2.2.1) hr hN (by omega)
      have e2 := e1.trans ((if_pos (by decide)).trans (bs c1))
      cases c with
      | false => exact ⟨-1, e2, fun h => by omega⟩
      | true =>
        obtain ⟨h, g1, g2⟩ := fsNext (k := k) p x d t hr hN (by omega)
        exact ⟨h, e2.trans ((if_neg (by decide)).trans ((bs g1).trans rfl)), fun hh => ⟨s0, s5, t0, t1, c2 rfl, g2 hh⟩⟩
theorem fiisSkewed {k : Nat} (p : TProgram) (t : Int) (hk : 2 ≤ k) : FiisSkewed k p t = some (inR p.2.2.1 0 5 && inR t 0 1000) := by
  obtain ⟨k, rfl⟩ := pred (d := 1) hk
  rw [eiisSkewed, fiInRange _ _ _ (by omega), Option.bind_some]
  cases inR p.2.2.1 0 5
  · rfl
  · rw [if_pos (by decide), fiInRange _ _ _ (by omega)]
    rfl
theorem fiHopAt {k N : Nat} (p : TProgram) (x d t : Int) (hr : rowsLe N sProgram p) (hN : N ≤ 1048576) (hk : 2 * N + 50 ≤ k) :
    ∃ h, FiHopAt k p x d t = some h ∧ (0 ≤ h → Hop p x d t h (QI p d t)) := by
  obtain ⟨k, rfl⟩ := pred (d := 0) (show 1 ≤ k by omega)
  have h1 : p.2.2.2.length ≤ N := (rowsLe_row hr.2.2.2).1
  obtain ⟨h, g1, g2⟩ := fiNext (k := k) p x d t hr hN (by omega)
  have e0 := (eiHopAt k p x d t).trans ((bs (fiPieceAt p t (by omega) (by omega))).trans (bs g1))
  cases hh : h.2 with
  | false =>
    rw [hh] at e0
    exact ⟨-1, e0, fun h => by omega⟩
  | true =>
    rw [hh] at e0
    have e1 := e0.trans ((if_pos (by decide)).trans (bs (fiisSkewed p t (by omega))))
    cases h1 : inR p.2.2.1 0 5 with
    | false =>
      rw [h1] at e1
      exact ⟨-1, e1, fun h => by omega⟩
    | true =>
      cases h2 : inR t 0 1000 with
      | false =>
        rw [h1, h2] at e1
        exact ⟨-1, e1, fun h => by omega⟩
      | true =>
        rw [h1, h2] at e1
        obtain ⟨s0, s5⟩ := inR_true h1
        obtain ⟨t0, t1⟩ := inR_true h2
        obtain ⟨m1, m2⟩ := mixAt_eq s0 s5 t0 t1
        rw [m1, m2] at e1
        obtain ⟨c, c1, c2⟩ := fiSafe (k := k) p d (t - 2 * p.2.2.1) (t + 2 * p.2.2.1) hr hN (by omega)
        have e2 := e1.trans ((if_pos (by decide)).trans (bs c1))
        cases c with
        | false => exact ⟨-1, e2, fun h => by omega⟩
        | true => exact ⟨h.1, e2.trans (if_neg (by decide)), fun hh => ⟨s0, s5, t0, t1, c2 rfl, g2 hh⟩⟩
/-! ### all nodes at once -/
/-- Where each node stands, and where it leads. -/
structure Nexts (p : TProgram) (d t : Int) (offs nx : List Int) (Q : Int → Prop) : Prop where
  len : nx.length = offs.length
  hop : ∀ (i : Nat) (h : Int), nx[i]? = some h → 0 ≤ h → ∃ o : Int, -p.2.2.1 ≤ o ∧ o ≤ p.2.2.1 ∧ Hop p (i : Int) d (t + o) h (Q (t + o))
theorem findFrom_hit {α : Type} (f : α → Bool) : ∀ (l : List α) (i : Nat), findFrom f i l = -1 ∨ ∃ j x, findFrom f i l = ((i + j : Nat) : Int) ∧ l[j]? = some x ∧ f x = true
  | [], i => Or.inl rfl
  | y :: r, i => by
    by_cases h : f y = true
    · exact Or.inr ⟨0, y, by rw [findFrom, if_pos h]; rfl, rfl, h⟩
    · rcases findFrom_hit f r (i + 1) with h1 | ⟨j, x, h1, h2, h3⟩
      · exact Or.inl (by rw [findFrom, if_neg h, h1])
      · exact Or.inr ⟨j + 1, x, by rw [findFrom, if_neg h, h1]; congr 1; omega, by simpa using h2, h3⟩
/-- A piece in force at a moment is in the mix of all near moments. -/
theorem near {p : TProgram} {d t t' : Int} {u : TT} (s0 : 0 ≤ p.2.2.1) (h : tbl p (pieceAt p t) d = some u) (h1 : t' - 2 * p.2.2.1 ≤ t) (h2 : t ≤ t' + 2 * p.2.2.1) : pieceAt p t ∈ mixAt p t' := by
  unfold pieceAt at h ⊢
  rcases findFrom_hit (fun x : TPiece => inSpan x.1 t) p.2.2.2 0 with hm | ⟨j, x, hj, hx, hs⟩
  · rw [hm] at h
    unfold tbl isIdx at h
    simp at h
  · rw [hj]
    refine pcs_mem _ _ p.2.2.2 0 j x hx ?_
    unfold inSpan at hs
    unfold inPc
    simp only [Bool.and_eq_true, decide_eq_true_eq] at hs ⊢
    exact ⟨hs.1, by omega, by omega, by omega⟩
theorem Pth.out {E : Nat → Nat → Prop} {a b : Nat} (h : Pth E a b) : ∃ c, E a c := by
  induction h with
  | one h => exact ⟨_, h⟩
  | more _ _ ih => exact ih
theorem noLoopS {p : TProgram} {d t : Int} {offs nx : List Int} (h : Nexts p d t offs nx (QS p d)) (i : Nat) : ¬ Pth (Ed nx) i i := by
  intro hp
  obtain ⟨y, hy, hyl⟩ := hp.out
  obtain ⟨o, o1, o2, H⟩ := h.hop i _ hy (by omega)
  have key : ∀ a b, Pth (Ed nx) a b → (∃ c, Ed nx b c) → Pth (Un (mixS p d (mixAt p (t + o)))) a b := by
    have edge : ∀ a b, Ed nx a b → (∃ c, Ed nx b c) → Un (mixS p d (mixAt p (t + o))) a b := by
      rintro a b ⟨e1, e2⟩ ⟨c, e3, e4⟩
      obtain ⟨q, q1, q2, K⟩ := h.hop a _ e1 (by omega)
      obtain ⟨q', q1', q2', K'⟩ := h.hop b _ e3 (by omega)
      obtain ⟨_, u, hu, ha⟩ := K.row
      obtain ⟨_, u', hu', hb⟩ := K'.row
      have m := near (t' := t + o) K.s0 hu (by omega) (by omega)
      have m' := near (t' := t + o) K.s0 hu' (by omega) (by omega)
      have r : u.2.2 ∈ mixS p d (mixAt p (t + o)) := List.mem_filterMap.2 ⟨_, m, by rw [hu]; rfl⟩
      have r' : u'.2.2 ∈ mixS p d (mixAt p (t + o)) := List.mem_filterMap.2 ⟨_, m', by rw [hu']; rfl⟩
      refine ⟨⟨_, r, by simpa using ha⟩, ?_⟩
      have l1 := (List.getElem?_eq_some_iff.1 hb).1
      have l2 := (mxl_ge (mixS p d (mixAt p (t + o))) 0).2 _ r'
      unfold mxl
      simp only [Int.toNat_natCast] at l1
      omega
    intro a b hab
    induction hab with
    | one e => exact fun hc => .one (edge _ _ e hc)
    | more h1 e ih => exact fun hc => .more (ih ⟨_, e⟩) (edge _ _ e hc)
  exact H.q i (key i i hp ⟨y, hy, hyl⟩)
theorem noLoopI {p : TProgram} {d t : Int} {offs nx : List Int} (h : Nexts p d t offs nx (QI p d)) (R : Nat → Prop) (i : Nat) (hR : Closed [nx] R) : ¬ R i := by
  intro hi
  have step : ∀ x, R x → ∃ y : Nat, nx[x]? = some (y : Int) ∧ R y := fun x hx => by
    obtain ⟨row, hrow, y, h1, h2⟩ := hR x hx
    obtain rfl : row = nx := by simpa using hrow
    exact ⟨y, h1, h2⟩
  obtain ⟨y, hy, _⟩ := step i hi
  obtain ⟨o, o1, o2, H⟩ := h.hop i _ hy (by omega)
  refine H.q R i (fun x hx => ?_) hi
  obtain ⟨z, hz, hzR⟩ := step x hx
  obtain ⟨q, q1, q2, K⟩ := h.hop x _ hz (by omega)
  obtain ⟨_, u, hu, ha⟩ := K.row
  have m := near (t' := t + o) K.s0 hu (by omega) (by omega)
  exact ⟨u.2.2, List.mem_map.2 ⟨_, m, by rw [tblR_some hu]⟩, z, by simpa using ha, hzR⟩
end Go.Proofs.YtcdlkadknenodaaGreat.World
namespace Go.Proofs.YtcdlkadknenodaaGreat.World
open Go Go.V Go.Proofs
set_option linter.unusedVariables false
set_option linter.unusedSimpArgs false
set_option maxRecDepth 100000
set_option maxHeartbeats 4000000
/-! ### offsets -/
def offOk (p : TProgram) (x : Int) : Bool := inR p.2.2.1 0 5 && inR x (-p.2.2.1) p.2.2.1
theorem neg_wrap {n : Int} (h : inR n 0 5 = true) : IntKind.i64.wrap (0 - n) = -n := by
  obtain ⟨a, b⟩ := inR_true h
  rw [wrap_id (by omega) (by omega)]
  omega
theorem fsAreOffsets {k : Nat} (p : TProgram) (l : List Int) (hl : l.length ≤ 1048576) (hk : l.length + 3 ≤ k) : FsAreOffsets k p l = some (l.all (offOk p) && ((l.length : Int) == p.1)) := by
  obtain ⟨k, rfl⟩ := pred (d := 0) (show 1 ≤ k by omega)
  refine (esAreOffsets k p l).trans ?_
  have h1 : ∀ (q : Nat), 1 ≤ q → Fsl1In q p.2.2.1 0 5 = some (inR p.2.2.1 0 5) := fun q hq => fsl1In _ _ _ hq
  cases hI : inR p.2.2.1 0 5 with
  | false =>
    obtain ⟨k, rfl⟩ := pred (d := 0) (show 1 ≤ k by omega)
    rw [hI] at h1
    cases l with
    | nil => rfl
    | cons x r =>
      refine (if_pos (show decide ((0 : Int) < ((x :: r).length : Int)) = true by simp)).trans ((bs (h1 (k + 1) (by omega))).trans ?_)
      simp [offOk, hI]
  | true =>
    rw [hI] at h1
    refine row_i (L := LsAreOffsets_0 k (fun (v0 : Int) (p1 : Bool) (x2 : Int) (p3 : Bool) => some false) (fun (v0 : Int) (p1 : Bool) => some false) (fun (v0 : Int) => some ((l.length : Int) == p.1)) (l, p)) (a := l) (X := fun _ => some ((l.length : Int) == p.1)) (body := fun n i x2 => (Fsl1In k x2 (IntKind.i64.wrap (0 - p.2.2.1)) p.2.2.1).bind fun p3 => if (!p3) = true then some false else LsAreOffsets_0 k (fun (v0 : Int) (p1 : Bool) (x2 : Int) (p3 : Bool) => some false) (fun (v0 : Int) (p1 : Bool) => some false) (fun (v0 : Int) => some ((l.length : Int) == p.1)) (l, p) n (IntKind.i64.wrap (i + 1))) (fun _ r => some (r.all (offOk p) && ((l.length : Int) == p.1))) (fun n i => ?_) (by omega) rfl (fun n i x r h0 ht hw hi hx ih => ?_) (by omega)
    · show (if decide (i < (l.length : Int)) = true then (Fsl1In k p.2.2.1 0 5).bind _ else _) = _
      rw [h1 k (by omega)]
      rfl
    · rw [neg_wrap hI, fsl1In _ _ _ (by omega), Option.bind_some, hw, ih, List.all_cons]
      unfold offOk
      rw [hI]
      cases inR x (-p.2.2.1) p.2.2.1 <;> rfl
theorem fiAreOffsets {k : Nat} (p : TProgram) (l : List Int) (hl : l.length ≤ 1048576) (hk : l.length + 3 ≤ k) : FiAreOffsets k p l = some (l.all (offOk p) && ((l.length : Int) == p.1)) := by
  obtain ⟨k, rfl⟩ := pred (d := 0) (show 1 ≤ k by omega)
  refine (eiAreOffsets k p l).trans ?_
  cases hn : ((l.length : Int) == p.1) with
  | false => rw [if_pos (by simp only [bne, hn]; rfl)]; simp
  | true =>
    rw [if_neg (by simp only [bne, hn]; decide), Bool.and_true]
    refine row_i (L := LiAreOffsets_0 k (fun (v0 : Int) (x1 : Int) (p2 : Bool) (p3 : Bool) => some false) (fun (v0 : Int) (x1 : Int) (p2 : Bool) => some false) (fun (v0 : Int) => some true) (l, (l.length : Int), p)) (a := l) (fun _ r => some (r.all (offOk p))) (fun _ _ => rfl) (by omega) rfl (fun n i x r h0 ht hw hi hx ih => ?_) (by omega)
    refine (bs (fiInRange _ _ _ (by omega))).trans ?_
    dsimp only
    rw [List.all_cons]
    unfold offOk at ih ⊢
    cases hI : inR p.2.2.1 0 5 with
    | false => rfl
    | true =>
      rw [if_pos (by decide), neg_wrap hI, fiInRange _ _ _ (by omega), Option.bind_some, hw, ih, hI]
      cases inR x (-p.2.2.1) p.2.2.1 <;> rfl
/-! ### all nodes' hops at one moment -/
theorem Nexts.nil (p : TProgram) (d t : Int) (Q : Int → Prop) (offs : List Int) (h : offs = []) : Nexts p d t offs [] Q := by
  subst h
  exact ⟨rfl, fun i h hx => by simp at hx⟩
/-- What the loop over the offsets has laid so far. -/
structure Part (p : TProgram) (d t : Int) (nx : List Int) (Q : Int → Prop) : Prop where
  hop : ∀ (i : Nat) (h : Int), nx[i]? = some h → 0 ≤ h → ∃ o : Int, -p.2.2.1 ≤ o ∧ o ≤ p.2.2.1 ∧ Hop p (i : Int) d (t + o) h (Q (t + o))
theorem Part.snoc {p : TProgram} {d t : Int} {nx : List Int} {Q : Int → Prop} (H : Part p d t nx Q) {h o : Int} (h1 : -p.2.2.1 ≤ o) (h2 : o ≤ p.2.2.1) (hh : 0 ≤ h → Hop p (nx.length : Int) d (t + o) h (Q (t + o))) : Part p d t (nx ++ [h]) Q := by
  refine ⟨fun i y hy h0 => ?_⟩
  rcases Nat.lt_or_ge i nx.length with hi | hi
  · rw [List.getElem?_append_left hi] at hy
    exact H.hop i y hy h0
  · rw [List.getElem?_append_right hi] at hy
    cases hj : i - nx.length with
    | zero =>
      rw [hj] at hy
      simp only [List.getElem?_cons_zero, Option.some.injEq] at hy
      subst hy
      obtain rfl : i = nx.length := by omega
      exact ⟨o, h1, h2, hh h0⟩
    | succ j =>
      rw [hj] at hy
      simp at hy
theorem fsNextsAt {k N : Nat} (p : TProgram) (d t : Int) (l : List Int) (hr : rowsLe N sProgram p) (hl : l.length ≤ N) (hN : N ≤ 1048576) (hk : N + 60 ≤ k) :
    ∃ nx, FsNextsAt k p d t l = some nx ∧ nx.length ≤ N ∧ Part p d t nx (QS p d) := by
  obtain ⟨k, rfl⟩ := pred (d := 0) (show 1 ≤ k by omega)
  have hnil : Part p d t [] (QS p d) := ⟨fun i h hx => by simp at hx⟩
  have e0 := (esNextsAt k p d t l).trans (bs (fsAreOffsets p l (by omega) (by omega)))
  cases ho : (l.all (offOk p) && ((l.length : Int) == p.1)) with
  | false =>
    rw [ho] at e0
    exact ⟨[], e0, by simp, hnil⟩
  | true =>
    rw [ho] at e0
    have hoff : ∀ x ∈ l, offOk p x = true := List.all_eq_true.1 (Bool.and_eq_true _ _ ▸ ho).1
    have e1 := e0.trans ((if_pos rfl).trans (bs (fsl1In _ _ _ (by omega))))
    cases h2 : inR t 0 1000 with
    | false =>
      rw [h2] at e1
      exact ⟨[], e1, by simp, hnil⟩
    | true =>
      rw [h2] at e1
      obtain ⟨t0, t1⟩ := inR_true h2
      have main : ∀ (m n i : Nat) (s : List Int), i + m = l.length → m < n → s.length = i → Part p d t s (QS p d) → ∃ nx, LsNextsAt_0 k (fun (v0 : Int × (List Int)) => some v0.2) (d, t, l, p) n ((i : Int), s) = some nx ∧ nx.length ≤ N ∧ Part p d t nx (QS p d) := by
        intro m
        induction m with
        | zero =>
          intro n i s hi hn hs hP
          obtain ⟨n, rfl⟩ := pred (d := 0) (show 1 ≤ n by omega)
          exact ⟨s, if_neg (by simp; omega), by omega, hP⟩
        | succ m ih =>
          intro n i s hi hn hs hP
          obtain ⟨n, rfl⟩ := pred (d := 0) (show 1 ≤ n by omega)
          have hil : i < l.length := by omega
          have hx := hoff _ (List.getElem_mem hil)
          unfold offOk at hx
          rw [Bool.and_eq_true] at hx
          obtain ⟨o1, o2⟩ := inR_true hx.2
          obtain ⟨s0, s5⟩ := inR_true hx.1
          have hw : IntKind.i64.wrap (t + l[i]) = t + l[i] := wrap_id (by omega) (by omega)
          have hw1 : IntKind.i64.wrap ((i : Int) + 1) = ((i + 1 : Nat) : Int) := wrap_succ hil (by omega)
          obtain ⟨h, g1, g2⟩ := fsHopAt (k := k) p (i : Int) d (t + l[i]) hr hN (by omega)
          obtain ⟨nx, n1, n2⟩ := ih n (i + 1) (s ++ [h]) (by omega) (by omega) (by simp; omega) (hP.snoc o1 o2 (by rw [hs]; exact g2))
          refine ⟨nx, ?_, n2⟩
          refine (if_pos (show decide ((i : Int) < (l.length : Int)) = true by simp; omega)).trans ((if_pos (by omega)).trans ((ix_at (show ((i : Int)).toNat < l.length by simpa using hil) _).trans ?_))
          dsimp only [Int.toNat_natCast]
          rw [hw, g1, Option.bind_some, if_pos (by simp; omega), hw1]
          exact n1
      obtain ⟨nx, n1, n2⟩ := main l.length k 0 [] (by omega) (by omega) rfl hnil
      exact ⟨nx, e1.trans ((if_neg (by decide)).trans n1), n2⟩
theorem fiisMoment {k : Nat} (p : TProgram) (t : Int) (l : List Int) (hl : l.length ≤ 1048576) (hk : l.length + 4 ≤ k) : FiisMoment k p t l = some ((l.all (offOk p) && ((l.length : Int) == p.1)) && inR t 0 1000) := by
  obtain ⟨k, rfl⟩ := pred (d := 0) (show 1 ≤ k by omega)
  rw [eiisMoment, fiAreOffsets p l hl (by omega), Option.bind_some]
  cases (l.all (offOk p) && ((l.length : Int) == p.1))
  · rfl
  · rw [if_pos (by decide), fiInRange _ _ _ (by omega)]
    rfl
theorem fiNextsAt {k N : Nat} (p : TProgram) (d t : Int) (l : List Int) (hr : rowsLe N sProgram p) (hl : l.length ≤ N) (hN : N ≤ 1048576) (hk : 2 * N + 60 ≤ k) :
    ∃ nx, FiNextsAt k p d t l = some nx ∧ nx.length ≤ N ∧ Part p d t nx (QI p d) := by
  obtain ⟨k, rfl⟩ := pred (d := 0) (show 1 ≤ k by omega)
  have hnil : Part p d t [] (QI p d) := ⟨fun i h hx => by simp at hx⟩
  have e1 := (eiNextsAt k p d t l).trans (bs (fiisMoment p t l (by omega) (by omega)))
  cases ho : ((l.all (offOk p) && ((l.length : Int) == p.1)) && inR t 0 1000) with
  | false =>
    rw [ho] at e1
    exact ⟨[], e1, by simp, hnil⟩
  | true =>
    rw [ho] at e1
    rw [Bool.and_eq_true, Bool.and_eq_true] at ho
    have hoff : ∀ x ∈ l, offOk p x = true := List.all_eq_true.1 ho.1.1
    obtain ⟨t0, t1⟩ := inR_true ho.2
    have main : ∀ (m n i : Nat) (s : List Int), i + m = l.length → m < n → s.length = i → Part p d t s (QI p d) → ∃ nx, LiNextsAt_0 k (fun (v0 : Int × (List Int)) => some v0.2) (d, t, l, (l.length : Int), p) n ((i : Int), s) = some nx ∧ nx.length ≤ N ∧ Part p d t nx (QI p d) := by
      intro m
      induction m with
      | zero =>
        intro n i s hi hn hs hP
        obtain ⟨n, rfl⟩ := pred (d := 0) (show 1 ≤ n by omega)
        exact ⟨s, if_neg (by simp; omega), by omega, hP⟩
      | succ m ih =>
        intro n i s hi hn hs hP
        obtain ⟨n, rfl⟩ := pred (d := 0) (show 1 ≤ n by omega)
        have hil : i < l.length := by omega
        have hx := hoff _ (List.getElem_mem hil)
        unfold offOk at hx
        rw [Bool.and_eq_true] at hx
        obtain ⟨o1, o2⟩ := inR_true hx.2
        obtain ⟨s0, s5⟩ := inR_true hx.1
        have hw : IntKind.i64.wrap (t + l[i]) = t + l[i] := wrap_id (by omega) (by omega)
        have hw1 : IntKind.i64.wrap ((i : Int) + 1) = ((i + 1 : Nat) : Int) := wrap_succ hil (by omega)
        obtain ⟨h, g1, g2⟩ := fiHopAt (k := k) p (i : Int) d (t + l[i]) hr hN (by omega)
        obtain ⟨nx, n1, n2⟩ := ih n (i + 1) (s ++ [h]) (by omega) (by omega) (by simp; omega) (hP.snoc o1 o2 (by rw [hs]; exact g2))
        refine ⟨nx, ?_, n2⟩
        refine (if_pos (show decide ((i : Int) < (l.length : Int)) = true by simp; omega)).trans ((if_pos (by omega)).trans ((ix_at (show ((i : Int)).toNat < l.length by simpa using hil) _).trans ?_))
        dsimp only [Int.toNat_natCast]
        rw [hw, g1, Option.bind_some, if_pos (by simp; omega), hw1]
        exact n1
    obtain ⟨nx, n1, n2⟩ := main l.length k 0 [] (by omega) (by omega) rfl hnil
    exact ⟨nx, e1.trans ((if_neg (by decide)).trans n1), n2⟩
/-! ### no loop, ever -/
theorem fsAny {k N : Nat} (p : TProgram) (t : Int) (l : List Int) (hr : rowsLe N sProgram p) (hl : l.length ≤ N) (hN : N ≤ 1048576) (hk : N + 90 ≤ k) : FsAnyLoopAt k p t l = some false := by
  obtain ⟨k, rfl⟩ := pred (d := 0) (show 1 ≤ k by omega)
  refine (esAnyLoopAt k p t l).trans (up_loop0 (len := (mn p.1 12).toNat) (fun _ => some false) (by unfold mn; split <;> omega) (fun n i hle h0 ht hw ih => ?_) (by unfold mn; split <;> omega))
  refine (bs (fsMin p.1 12 (by omega))).trans ?_
  by_cases hi : (i : Int) < mn p.1 12
  · obtain ⟨nx, n1, n2, n3⟩ := fsNextsAt (k := k) p (i : Int) t l hr hl hN (by omega)
    obtain ⟨b, b1, b2⟩ := fsHasLoop (k := k) nx (by omega) (by omega)
    have hb : b = false := by
      cases b with
      | false => rfl
      | true =>
        obtain ⟨j, hj⟩ := b2 rfl
        exact absurd hj (noLoopS (offs := nx) ⟨rfl, n3.hop⟩ j)
    rw [hb] at b1
    refine (if_pos (by simpa using hi)).trans ((bs n1).trans ((bs b1).trans ((if_neg (by decide)).trans ?_)))
    rw [hw]
    exact ih (by omega)
  · exact if_neg (by simpa using hi)
theorem fiHas {k N : Nat} (nx : List Int) (hl : nx.length ≤ N) (hN : N ≤ 1048576) (h1 : 1 ≤ N) (hk : 2 * N + 30 ≤ k) (h : ∀ R i, Closed [nx] R → ¬ R i) : FiHasLoop k nx = some false := by
  obtain ⟨k, rfl⟩ := pred (d := 0) (show 1 ≤ k by omega)
  obtain ⟨b, b1, b2, _⟩ := fiUnion (k := k) [nx] (N := N) (by simpa using h1) (by simpa using hl) hN (by omega)
  refine (eiHasLoop k nx).trans ((bs b1).trans ?_)
  cases b with
  | false => rfl
  | true =>
    obtain ⟨R, i, hR, hi⟩ := b2 rfl
    exact absurd hi (h R i hR)
theorem fiAny {k N : Nat} (p : TProgram) (t : Int) (l : List Int) (hr : rowsLe N sProgram p) (hl : l.length ≤ N) (hN : N ≤ 1048576) (hN1 : 1 ≤ N) (hk : 2 * N + 100 ≤ k) : FiAnyLoopAt k p t l = some false := by
  obtain ⟨k, rfl⟩ := pred (d := 0) (show 1 ≤ k by omega)
  refine (eiAnyLoopAt k p t l).trans (up_loop0 (len := l.length) (fun _ => some false) (by omega) (fun n i hle h0 ht hw ih => ?_) (by omega))
  by_cases hi : (i : Int) < (l.length : Int)
  · obtain ⟨nx, n1, n2, n3⟩ := fiNextsAt (k := k) p (i : Int) t l hr hl (by omega) (by omega)
    have b1 := fiHas (k := k) (N := N) nx (by omega) (by omega) (by omega) (by omega) (noLoopI (offs := nx) ⟨rfl, n3.hop⟩)
    refine (if_pos (by simpa using hi)).trans ((bs n1).trans ((bs b1).trans ((if_neg (by decide)).trans ?_)))
    rw [hw]
    exact ih (by omega)
  · exact if_neg (by simpa using hi)
theorem fsFree {k N : Nat} (w : TWorld) (hr : rowsLe N sProgram w.2.1) (hl : w.2.2.2.1.length ≤ N) (hN : N ≤ 1048576) (hk : N + 2000 ≤ k) : FsIsLoopFree k w = some true := by
  obtain ⟨k, rfl⟩ := pred (d := 0) (show 1 ≤ k by omega)
  refine (esIsLoopFree k w).trans (up_loop0 (len := (mn w.2.2.2.2.2.2.2.2.2.2.2.1 1000).toNat) (fun _ => some true) (by unfold mn; split <;> omega) (fun n i hle h0 ht hw ih => ?_) (by unfold mn; split <;> omega))
  refine (bs (fsMin _ 1000 (by omega))).trans ?_
  by_cases hi : (i : Int) < mn w.2.2.2.2.2.2.2.2.2.2.2.1 1000
  · refine (if_pos (by simpa using hi)).trans ((bs (fsAny w.2.1 (i : Int) w.2.2.2.1 hr hl hN (by omega))).trans ((if_neg (by decide)).trans ?_))
    rw [hw]
    exact ih (by omega)
  · exact if_neg (by simpa using hi)
theorem fiFree {k N : Nat} (w : TWorld) (hr : rowsLe N sProgram w.2.1) (hl : w.2.2.2.1.length ≤ N) (hN : N ≤ 1048576) (hN1 : 1 ≤ N) (hk : 2 * N + 2000 ≤ k) : FiIsLoopFree k w = some true := by
  obtain ⟨k, rfl⟩ := pred (d := 0) (show 1 ≤ k by omega)
  refine (eiIsLoopFree k w).trans (up_loop0 (len := (mn w.2.2.2.2.2.2.2.2.2.2.2.1 1001).toNat) (fun _ => some true) (by unfold mn; split <;> omega) (fun n i hle h0 ht hw ih => ?_) (by unfold mn; split <;> omega))
  by_cases hi : (i : Int) < mn w.2.2.2.2.2.2.2.2.2.2.2.1 1001
  · refine (if_pos (by simpa using hi)).trans ((bs (fiAny w.2.1 (i : Int) w.2.2.2.1 hr hl hN hN1 (by omega))).trans ((if_neg (by decide)).trans ?_))
    rw [hw]
    exact ih (by omega)
  · exact if_neg (by simpa using hi)
end Go.Proofs.YtcdlkadknenodaaGreat.World
namespace Go.Proofs.YtcdlkadknenodaaGreat.World
open Go Go.V Go.Proofs
set_option linter.unusedVariables false
set_option linter.unusedSimpArgs false
set_option maxRecDepth 100000
set_option maxHeartbeats 4000000
theorem lFnExactIsLoopFree (w : TLWorld) (hr : rowsLe 140737488351232 sLWorld w) : ∃ k, FlFnExactIsLoopFree k w = some true := by
  refine ⟨3 * szT sLWorld w + 20000, ?_⟩
  rw [elFnExactIsLoopFree, zlszWorld _ w 1048576 hr (by omega) (by omega) (by omega), Option.bind_some]
  by_cases hz : szT sLWorld w ≤ 1048576
  · rw [szR_pos (by omega), if_neg (by simp; omega)]
    have e60 : szT sWorld w = szT sLWorld w := rfl
    have hle : szT sWorld w ≤ szT sLWorld w + (1 - szT sLWorld w) := by omega
    have hrow := rows_le sWorld w (szT sLWorld w + (1 - szT sLWorld w)) hle
    have h1 : w.2.2.2.1.length ≤ szT sLWorld w + (1 - szT sLWorld w) := (rowsLe_row (e := 3) (sh := .i .i64) hrow.2.2.2.1).1
    have tw := tltoWorld (3 * szT sLWorld w + 19999) w hz (by omega)
    have qw := qleqWorld (3 * szT sLWorld w + 19999) w (by rw [e60]; omega) (by rw [e60]; omega)
    have fs := fsFree (k := 3 * szT sLWorld w + 19999) w hrow.2.1 h1 (by omega) (by omega)
    have fi := fiFree (k := 3 * szT sLWorld w + 19999) w hrow.2.1 h1 (by omega) (by omega) (by omega)
    refine (bs tw).trans ((bs fs).trans ((bs tw).trans ((bs fi).trans ((if_neg (by decide)).trans ((bs tw).trans ((bs qw).trans (if_neg (by decide))))))))
  · rw [szR_neg (by omega), if_pos (by decide)]
end Go.Proofs.YtcdlkadknenodaaGreat.World
namespace Go.Proofs.YtcdlkadknenodaaGreat.World
open Go Go.V Go.Proofs
open Go.ChangeShapes Go.WideShapes Go.ChangeAt Go.RowKit
set_option linter.unusedVariables false
set_option maxRecDepth 100000
theorem tyOk : ∀ t i, E.ty t = some i → TyOk E.P t i := by
  intro t i h
  replace h : ty t = some i := h
  unfold ty at h
  split at h <;> first | (cases h; done) | (cases h; exact ⟨by kernel_rfl, by kernel_rfl⟩)
theorem fn0Ok : ∀ f F, fn0 f = some F → E.P.funcs[f]? = some F ∧ F.name ≠ "runtime.NumGoroutine" ∧ ∀ c, F.body = some c → codeOk c = true := by
  intro f F h
  unfold fn0 at h
  split at h <;> first | (cases h; done) | (cases h; exact ⟨by kernel_rfl, of_decide_eq_true (by kernel_rfl), fun c hc => by cases hc; kernel_rfl⟩)
theorem fn1Ok : ∀ f F, fn1 f = some F → E.P.funcs[f]? = some F ∧ F.name ≠ "runtime.NumGoroutine" ∧ ∀ c, F.body = some c → codeOk c = true := by
  intro f F h
  unfold fn1 at h
  split at h <;> first | (cases h; done) | (cases h; exact ⟨by kernel_rfl, of_decide_eq_true (by kernel_rfl), fun c hc => by cases hc; kernel_rfl⟩)
theorem fn2Ok : ∀ f F, fn2 f = some F → E.P.funcs[f]? = some F ∧ F.name ≠ "runtime.NumGoroutine" ∧ ∀ c, F.body = some c → codeOk c = true := by
  intro f F h
  unfold fn2 at h
  split at h <;> first | (cases h; done) | (cases h; exact ⟨by kernel_rfl, of_decide_eq_true (by kernel_rfl), fun c hc => by cases hc; kernel_rfl⟩)
theorem fnOk : ∀ f F, E.fn f = some F → E.P.funcs[f]? = some F ∧ F.name ≠ "runtime.NumGoroutine" ∧ ∀ c, F.body = some c → codeOk c = true := by
  intro f F h
  replace h : fn f = some F := h
  unfold fn at h
  split at h
  · rename_i F' hF
    rw [← Option.some.inj h]
    exact fn0Ok f F' hF
  split at h
  · rename_i F' hF
    rw [← Option.some.inj h]
    exact fn1Ok f F' hF
  exact fn2Ok f F h
theorem envOk : EnvOk E := ⟨tyOk, fun f F h => (fnOk f F h).1, fun f F h => (fnOk f F h).2.1, by kernel_rfl⟩
theorem sound (k : Nat) : CallOk E (den E k) := den_sound envOk (fun f F c h => (fnOk f F h).2.2 c) (fun f g h => by cases h) k
end Go.Proofs.YtcdlkadknenodaaGreat.World
namespace Go.Proofs.YtcdlkadknenodaaGreat.World
open Go Go.V Go.Proofs
open Go.ChangeShapes Go.WideShapes Go.ChangeAt Go.RowKit
set_option linter.unusedVariables false
set_option maxRecDepth 100000
theorem walk4 {k : Nat} {y0 : TW} (h : FlFnExactIsLoopFree k y0 = some true) {W : World} {v0 : Value} (h0 : VA W (fun _ => True) (fun _ => undef) (argAV sLWorld y0) v0) (l0 : (argAV sLWorld y0).lt 0) :
    Calls Tryz.prog 4 #[v0] W fun e W' => e = .returned (.bool true) ∧ Go.RowKit.Below W.heap.size W W' := by
  have hs := (sound k) 4 [argAV sLWorld y0] true h
  refine (hs.2 (fun _ => True) W [v0] [] (fun p hp => absurd (show p ∈ ([] : List (Nat × Array Value)) from hp) (by simp)) (by
    show ArgsT W (fun _ => True) [] _ _ []
    exact ⟨⟨h0, trivial⟩, by intro x hx; simp at hx; rw [hx]; exact l0, rfl⟩) List.nodup_nil (by simp)).mono ?_
  rintro e W' ⟨v, rfl, hb, hr⟩
  exact ⟨by rw [resOk_bool hr], Chg.below hb⟩
theorem own : ownKnob Tryz.prog.godebug = none := by kernel_rfl
theorem lifted (os : Os) (started : os.Started) (H : Type) (enc : TypeId × Value → H) :
    ReturnsInHanded {} Tryz.checked os 4 .any (YtcdlkadknenodaaGreat.Rows.fnExactIsLoopFreeSpec.pre6 enc Tryz.prog Tryz.f4 YtcdlkadknenodaaGreat.Rows.fnExactIsLoopFreeRow.domain false) (YtcdlkadknenodaaGreat.Rows.fnExactIsLoopFreeSpec.post enc Tryz.prog Tryz.f4 false true false false) := by
  refine returnsInHanded_of_change_sized (C := Tryz.checked) own started (by kernel_rfl) Tryz.func4
    (ChangeSpec.witness6 (enc := enc) (C := Tryz.checked) false ⟨#[], #[.agg #[(.int .i64 0), (.slice none 0 0), (.slice none 0 0), (.int .i64 0), (.int .i64 0), (.int .i64 0), (.int .i64 0), (.int .i64 0), (.slice none 0 0), (.int .i64 0), (.int .i64 0), (.int .i64 0), (.int .i64 0), (.slice none 0 0), (.slice none 0 0), (.slice none 0 0), (.slice none 0 0), (.slice none 0 0), (.slice none 0 0), (.slice none 0 0), (.slice none 0 0), (.slice none 0 0), (.int .i64 0), (.int .i64 0), (.slice none 0 0), (.slice none 0 0)]], []⟩ 8 (by kernel_rfl) (by kernel_rfl) (by kernel_rfl) (by kernel_rfl)) ?_
  intro W base args ds gs before hval0 hW hcnd hsz0 _
  have hsz : (DataW.weightsEach Tryz.prog (Tryz.f4.params.toList ++ YtcdlkadknenodaaGreat.Rows.fnExactIsLoopFreeSpec.plain.varTypes Tryz.prog) (ds ++ gs)).all (· ≤ reachBytes) = true := hsz0
  have hval : ∀ (j : Nat) t v, Tryz.f4.params[j]? = some t → args[j]? = some v → Value.okWide Tryz.prog W .any base t v := hval0
  have hW' := hW
  obtain ⟨p, q, hA0, hV, rfl, hfz, hnd⟩ := hW
  have hA : DataW.TrodAll enc Tryz.prog W 0 (fun _ => true) true Tryz.f4.params.toList args.toList ds p := hA0
  have hAA := hA
  rw [Tryz.params4] at hA hval hsz
  obtain ⟨v0, vs0, d0, ds0, p0, q0, hargs, rfl, rfl, h0, r0⟩ := trodAll_cons hA
  obtain ⟨rfl, rfl, rfl⟩ := trodAll_nil r0
  obtain rfl : args = #[v0] := by cases args; simp_all
  obtain ⟨rfl, rfl⟩ := trodVars_none hV
  have hwt0 : ∀ n ∈ d0.weights Tryz.prog 41, n ≤ reachBytes := by
    intro n hn
    have := List.all_eq_true.1 hsz n (by simp [DataW.weightsEach, hn])
    simpa using this
  obtain ⟨y0, a0, b0, w0⟩ := arg_VA (sh := sLWorld) (by kernel_rfl) (hval 0 41 v0 rfl rfl) h0 hwt0
  obtain ⟨k, hk⟩ := lFnExactIsLoopFree y0 (rows_wf (P := Tryz.prog) sLWorld y0 (by kernel_rfl) w0)
  have hlt : ∀ x ∈ p0 ++ [], x.block < W.heap.size := fun x hx => hW'.lt x (by simpa using hx)
  refine (walk4 hk a0 b0).mono fun e W' ⟨he, bel⟩ => ?_
  subst he
  exact ⟨_, rfl, _, _, _, [], _, [], hW', trodAll_mk1 (shut_bool Tryz.underlying4 _), below_trodAll (by kernel_rfl) bel _ _ _ _ (by kernel_rfl) hAA hlt, rfl, bel.frame _, fun h => by cases h⟩
theorem facts_of {P : Program} {f : FuncId} {fn : Func} {s : ChangeSpec} {c : OpenClaim} (k1 : (c.wf (OpenSpec.ofChange s)) = true) (k2 : (laidOutB P) = true) (k3 : (mapsRowed P) = true) (k4 : (fn.params.all (P.readableRec ·)) = true) (k5 : (namedTie P c.named s.vars) = true) (k6 : ((c.stops == [])) = true) (k7 : ((P.stops == [])) = true) (k8 : ((c.knobs == [])) = true) (k9 : ((P.stopKnobs == [])) = true) (k10 : ((c.inPlace == P.inPlace f)) = true) (k11 : ((c.unfollowed == P.unfollowed f)) = true) (k12 : ((c.recurses == P.recurses f)) = true) (k13 : ((c.named == P.varsNamed f)) = true) (k14 : ((c.maps == (fn.params.toList ++ s.plain.varTypes P).any (P.mapsRec ·))) = true) (k15 : ((c.ifaces == (fn.params.toList ++ s.plain.varTypes P).any (P.ifacesRec ·))) = true) (k16 : ((c.mapsOut == P.mapsAmong fn.resultTypes.toList)) = true) (k17 : ((c.loops == (fn.params.toList ++ s.plain.varTypes P).any (P.loopsFrom ·))) = true) (k18 : ((c.wideKeys == (fn.params.toList ++ s.plain.varTypes P ++ fn.resultTypes.toList).any (P.wideKeysFrom ·))) = true) (k19 : (s.vars.all (P.varReadable ·)) = true) (k20 : (fn.resultTypes.all (fun t => P.readableRec t && decide (t < P.types.size))) = true) (k21 : ((c.ifacesOut == fn.resultTypes.toList.any (P.ifacesRec ·))) = true) (k22 : ((c.loopsOut == fn.resultTypes.toList.any (P.loopsFrom ·))) = true) (k23 : ((c.plainKeys == P.plainKeys)) = true) (k24 : (c.shortTexts.isNone) = true) (k25 : (P.stopsHeard) = true) (k26 : (P.mayEnter) = true) (k27 : ((c.lifted == P.liftsFinal)) = true) (k28 : ((P.make == some c.make)) = true) (k29 : ((c.kinds == (if c.domain.isEmpty then [] else fn.params.toList.map fun t => match P.underlying t with | some (.int k) => some k | _ => none))) = true) (k30 : ((c.pinned == c.pinnedBy)) = true) (k31 : ((c.veiled == (fn.params.toList ++ s.plain.varTypes P ++ fn.resultTypes.toList).any (P.veiledRec ·))) = true) (k32 : (c.veiledFits P fn.params.toList (fn.params.toList ++ s.plain.varTypes P ++ fn.resultTypes.toList)) = true) : joinedFacts P f fn s c = true := by
  unfold joinedFacts
  simp only [k1, k2, k3, k4, k5, k6, k7, k8, k9, k10, k11, k12, k13, k14, k15, k16, k17, k18, k19, k20, k21, k22, k23, k24, k25, k26, k27, k28, k30, k31, k32, Bool.and_true, Bool.true_and]
  exact k29
theorem k1 : (YtcdlkadknenodaaGreat.Rows.fnExactIsLoopFreeRow.wf (OpenSpec.ofChange YtcdlkadknenodaaGreat.Rows.fnExactIsLoopFreeSpec)) = true := by kernel_rfl
theorem k2 : (laidOutB Tryz.checked.prog) = true := by kernel_rfl
theorem k3 : (mapsRowed Tryz.checked.prog) = true := by kernel_rfl
theorem k4 : (Tryz.f4.params.all (Tryz.checked.prog.readableRec ·)) = true := by kernel_rfl
theorem k5 : (namedTie Tryz.checked.prog YtcdlkadknenodaaGreat.Rows.fnExactIsLoopFreeRow.named YtcdlkadknenodaaGreat.Rows.fnExactIsLoopFreeSpec.vars) = true := by kernel_rfl
theorem k6 : ((YtcdlkadknenodaaGreat.Rows.fnExactIsLoopFreeRow.stops == [])) = true := by kernel_rfl
theorem k7 : ((Tryz.checked.prog.stops == [])) = true := by kernel_rfl
theorem k8 : ((YtcdlkadknenodaaGreat.Rows.fnExactIsLoopFreeRow.knobs == [])) = true := by kernel_rfl
theorem k9 : ((Tryz.checked.prog.stopKnobs == [])) = true := by kernel_rfl
theorem k10 : ((YtcdlkadknenodaaGreat.Rows.fnExactIsLoopFreeRow.inPlace == Tryz.checked.prog.inPlace 4)) = true := by kernel_rfl
theorem k11 : ((YtcdlkadknenodaaGreat.Rows.fnExactIsLoopFreeRow.unfollowed == Tryz.checked.prog.unfollowed 4)) = true := by kernel_rfl
theorem k12 : ((YtcdlkadknenodaaGreat.Rows.fnExactIsLoopFreeRow.recurses == Tryz.checked.prog.recurses 4)) = true := by kernel_rfl
theorem k13 : ((YtcdlkadknenodaaGreat.Rows.fnExactIsLoopFreeRow.named == Tryz.checked.prog.varsNamed 4)) = true := by kernel_rfl
theorem k14 : ((YtcdlkadknenodaaGreat.Rows.fnExactIsLoopFreeRow.maps == (Tryz.f4.params.toList ++ YtcdlkadknenodaaGreat.Rows.fnExactIsLoopFreeSpec.plain.varTypes Tryz.checked.prog).any (Tryz.checked.prog.mapsRec ·))) = true := by kernel_rfl
theorem k15 : ((YtcdlkadknenodaaGreat.Rows.fnExactIsLoopFreeRow.ifaces == (Tryz.f4.params.toList ++ YtcdlkadknenodaaGreat.Rows.fnExactIsLoopFreeSpec.plain.varTypes Tryz.checked.prog).any (Tryz.checked.prog.ifacesRec ·))) = true := by kernel_rfl
theorem k16 : ((YtcdlkadknenodaaGreat.Rows.fnExactIsLoopFreeRow.mapsOut == Tryz.checked.prog.mapsAmong Tryz.f4.resultTypes.toList)) = true := by kernel_rfl
theorem k17 : ((YtcdlkadknenodaaGreat.Rows.fnExactIsLoopFreeRow.loops == (Tryz.f4.params.toList ++ YtcdlkadknenodaaGreat.Rows.fnExactIsLoopFreeSpec.plain.varTypes Tryz.checked.prog).any (Tryz.checked.prog.loopsFrom ·))) = true := by kernel_rfl
theorem k18 : ((YtcdlkadknenodaaGreat.Rows.fnExactIsLoopFreeRow.wideKeys == (Tryz.f4.params.toList ++ YtcdlkadknenodaaGreat.Rows.fnExactIsLoopFreeSpec.plain.varTypes Tryz.checked.prog ++ Tryz.f4.resultTypes.toList).any (Tryz.checked.prog.wideKeysFrom ·))) = true := by kernel_rfl
theorem k19 : (YtcdlkadknenodaaGreat.Rows.fnExactIsLoopFreeSpec.vars.all (Tryz.checked.prog.varReadable ·)) = true := by kernel_rfl
theorem k20 : (Tryz.f4.resultTypes.all (fun t => Tryz.checked.prog.readableRec t && decide (t < Tryz.checked.prog.types.size))) = true := by kernel_rfl
theorem k21 : ((YtcdlkadknenodaaGreat.Rows.fnExactIsLoopFreeRow.ifacesOut == Tryz.f4.resultTypes.toList.any (Tryz.checked.prog.ifacesRec ·))) = true := by kernel_rfl
theorem k22 : ((YtcdlkadknenodaaGreat.Rows.fnExactIsLoopFreeRow.loopsOut == Tryz.f4.resultTypes.toList.any (Tryz.checked.prog.loopsFrom ·))) = true := by kernel_rfl
theorem k23 : ((YtcdlkadknenodaaGreat.Rows.fnExactIsLoopFreeRow.plainKeys == Tryz.checked.prog.plainKeys)) = true := by kernel_rfl
theorem k24 : (YtcdlkadknenodaaGreat.Rows.fnExactIsLoopFreeRow.shortTexts.isNone) = true := by kernel_rfl
theorem k25 : (Tryz.checked.prog.stopsHeard) = true := by kernel_rfl
theorem k26 : (Tryz.checked.prog.mayEnter) = true := by kernel_rfl
theorem k27 : ((YtcdlkadknenodaaGreat.Rows.fnExactIsLoopFreeRow.lifted == Tryz.checked.prog.liftsFinal)) = true := by kernel_rfl
theorem k28 : ((Tryz.checked.prog.make == some YtcdlkadknenodaaGreat.Rows.fnExactIsLoopFreeRow.make)) = true := by kernel_rfl
theorem k29 : ((YtcdlkadknenodaaGreat.Rows.fnExactIsLoopFreeRow.kinds == (if YtcdlkadknenodaaGreat.Rows.fnExactIsLoopFreeRow.domain.isEmpty then [] else Tryz.f4.params.toList.map fun t => match Tryz.checked.prog.underlying t with | some (.int k) => some k | _ => none))) = true := by kernel_rfl
theorem k30 : ((YtcdlkadknenodaaGreat.Rows.fnExactIsLoopFreeRow.pinned == YtcdlkadknenodaaGreat.Rows.fnExactIsLoopFreeRow.pinnedBy)) = true := by kernel_rfl
theorem k31 : ((YtcdlkadknenodaaGreat.Rows.fnExactIsLoopFreeRow.veiled == (Tryz.f4.params.toList ++ YtcdlkadknenodaaGreat.Rows.fnExactIsLoopFreeSpec.plain.varTypes Tryz.checked.prog ++ Tryz.f4.resultTypes.toList).any (Tryz.checked.prog.veiledRec ·))) = true := by kernel_rfl
theorem k32 : (YtcdlkadknenodaaGreat.Rows.fnExactIsLoopFreeRow.veiledFits Tryz.checked.prog Tryz.f4.params.toList (Tryz.f4.params.toList ++ YtcdlkadknenodaaGreat.Rows.fnExactIsLoopFreeSpec.plain.varTypes Tryz.checked.prog ++ Tryz.f4.resultTypes.toList)) = true := by kernel_rfl
theorem k0 : YtcdlkadknenodaaGreat.Tryz.pinned.checked.prog.funcNamed YtcdlkadknenodaaGreat.Rows.fnExactIsLoopFreeRow.func = some 4 := by kernel_rfl
theorem wrapper : Tryz.f4.isWrapper Tryz.checked.prog YtcdlkadknenodaaGreat.Rows.fnExactIsLoopFreeRow.wrapper YtcdlkadknenodaaGreat.Rows.fnExactIsLoopFreeRow.mainSum := by
  unfold Func.isWrapper
  first | (rw [if_pos (by decide +kernel)]; kernel_rfl) | (rw [if_neg (by decide +kernel)]; exact ⟨rfl, rfl⟩)
theorem facts : joinedFacts YtcdlkadknenodaaGreat.Tryz.pinned.checked.prog 4 Tryz.f4 YtcdlkadknenodaaGreat.Rows.fnExactIsLoopFreeSpec YtcdlkadknenodaaGreat.Rows.fnExactIsLoopFreeRow = true := facts_of k1 k2 k3 k4 k5 k6 k7 k8 k9 k10 k11 k12 k13 k14 k15 k16 k17 k18 k19 k20 k21 k22 k23 k24 k25 k26 k27 k28 k29 k30 k31 k32
theorem over : YtcdlkadknenodaaGreat.Rows.fnExactIsLoopFreeRow.holds YtcdlkadknenodaaGreat.Tryz.pinned (OpenSpec.ofChange YtcdlkadknenodaaGreat.Rows.fnExactIsLoopFreeSpec) :=
  OpenClaim.holds_of_wide 4 Tryz.f4 rfl rfl rfl rfl rfl rfl rfl ⟨rfl, rfl, rfl, rfl, rfl⟩ rfl rfl rfl rfl rfl k0 Tryz.func4 facts
    (of_decide_eq_true (by kernel_rfl)) wrapper
    (fun os started H enc _ => lifted os started H enc)
end Go.Proofs.YtcdlkadknenodaaGreat.World
namespace Go.Proofs.YtcdlkadknenodaaGreat
/-- The row, under a short name. -/
theorem fnExactIsLoopFree_holds : Rows.FnExactIsLoopFreeSaid := World.over
end Go.Proofs.YtcdlkadknenodaaGreat
