/- 'laws.FnExactStepFlow' returns true for every input. No condition. -/
import Derived.Test.YtekefiglklmgnaaGreatWp
import Derived.Test.YtekefiglklmgnaaGreatRows
import Derived.Test.YtekefiglklmgnaaGreatChecked
import Derived.KernelRfl
namespace Go.Proofs.YtekefiglklmgnaaGreat.World
open Go Go.V Go.Proofs
set_option linter.unusedVariables false
set_option linter.unusedSimpArgs false
set_option maxRecDepth 100000
abbrev TW := TWorld
theorem pred {k d : Nat} (h : d + 1 ≤ k) : ∃ q, k = q + 1 := ⟨k - 1, by omega⟩
/-! ### numbers, rows -/
def isIdx (a b : Int) : Bool := decide (a ≥ 0) && decide (a < b)
def inR (n a b : Int) : Bool := decide (a ≤ n) && decide (n ≤ b)
theorem fiisIndex {k : Nat} (a b : Int) (hk : 1 ≤ k) : FiisIndex k a b = some (isIdx a b) := by
  obtain ⟨k, rfl⟩ := pred (d := 0) hk
  rw [eiisIndex]
  unfold isIdx
  cases decide (a ≥ 0) <;> rfl
theorem fiInRange {k : Nat} (n a b : Int) (hk : 1 ≤ k) : FiInRange k n a b = some (inR n a b) := by
  obtain ⟨k, rfl⟩ := pred (d := 0) hk
  rw [eiInRange]
  unfold inR
  cases decide (a ≤ n) <;> rfl
theorem inR_last {len : Nat} (n : Int) (h : len ≤ 140737488351232) : inR n 0 (IntKind.i64.wrap ((len : Int) - 1)) = isIdx n (len : Int) := by
  rw [wrap_id (by omega) (by omega)]
  unfold inR isIdx
  have e : decide (n ≤ (len : Int) - 1) = decide (n < (len : Int)) := by
    by_cases h : n < (len : Int)
    · rw [decide_eq_true h, decide_eq_true (by omega)]
    · rw [decide_eq_false h, decide_eq_false (by omega)]
  rw [e]
theorem isIdx_pos {n : Int} {len : Nat} (h : isIdx n (len : Int) = true) : 0 ≤ n ∧ n.toNat < len := by
  unfold isIdx at h
  simp only [Bool.and_eq_true, decide_eq_true_eq] at h
  omega
/-! ### copies -/
theorem fgClone_int {k : Nat} (x : List (Int)) (hl : x.length ≤ 1048576) (hk : 1 ≤ k) : FgClone_int k x = some x := by
  obtain ⟨k, rfl⟩ := pred (d := 0) hk
  rw [egClone_int, if_pos (by omega), clone_eq]
theorem fgClone_Sat {k : Nat} (x : List (Int × Int × Int × Int)) (hl : x.length ≤ 1048576) (hk : 1 ≤ k) : FgClone_Sat k x = some x := by
  obtain ⟨k, rfl⟩ := pred (d := 0) hk
  rw [egClone_Sat, if_pos (by omega), clone_eq]
theorem fgClone_Site {k : Nat} (x : List (Int × Int × Int)) (hl : x.length ≤ 1048576) (hk : 1 ≤ k) : FgClone_Site k x = some x := by
  obtain ⟨k, rfl⟩ := pred (d := 0) hk
  rw [egClone_Site, if_pos (by omega), clone_eq]
theorem fgClone_Zone {k : Nat} (x : List (Int × Int × Int)) (hl : x.length ≤ 1048576) (hk : 1 ≤ k) : FgClone_Zone k x = some x := by
  obtain ⟨k, rfl⟩ := pred (d := 0) hk
  rw [egClone_Zone, if_pos (by omega), clone_eq]
theorem fgClone_Battery {k : Nat} (x : List (Int × Int × Int × Int × Int × Int)) (hl : x.length ≤ 1048576) (hk : 1 ≤ k) : FgClone_Battery k x = some x := by
  obtain ⟨k, rfl⟩ := pred (d := 0) hk
  rw [egClone_Battery, if_pos (by omega), clone_eq]
theorem fgClone_Fault {k : Nat} (x : List (Int × Int × Int × Int)) (hl : x.length ≤ 1048576) (hk : 1 ≤ k) : FgClone_Fault k x = some x := by
  obtain ⟨k, rfl⟩ := pred (d := 0) hk
  rw [egClone_Fault, if_pos (by omega), clone_eq]
theorem fgClone_Flow {k : Nat} (x : List (Int × Int × Int × Int)) (hl : x.length ≤ 1048576) (hk : 1 ≤ k) : FgClone_Flow k x = some x := by
  obtain ⟨k, rfl⟩ := pred (d := 0) hk
  rw [egClone_Flow, if_pos (by omega), clone_eq]
theorem fgClone_Link {k : Nat} (x : List (Int × Int)) (hl : x.length ≤ 1048576) (hk : 1 ≤ k) : FgClone_Link k x = some x := by
  obtain ⟨k, rfl⟩ := pred (d := 0) hk
  rw [egClone_Link, if_pos (by omega), clone_eq]
theorem fgClone_Packet {k : Nat} (x : List (Int × Int × Int × Int × Int × Int)) (hl : x.length ≤ 1048576) (hk : 1 ≤ k) : FgClone_Packet k x = some x := by
  obtain ⟨k, rfl⟩ := pred (d := 0) hk
  rw [egClone_Packet, if_pos (by omega), clone_eq]
theorem fgClone_Sent {k : Nat} (x : List (Int × Int × Int × Int)) (hl : x.length ≤ 1048576) (hk : 1 ≤ k) : FgClone_Sent k x = some x := by
  obtain ⟨k, rfl⟩ := pred (d := 0) hk
  rw [egClone_Sent, if_pos (by omega), clone_eq]
theorem ficloneQueue {k : Nat} (x : List (Int × Int × Int × Int × Int × Int)) (hl : x.length ≤ 1048576) (hk : 2 ≤ k) : FicloneQueue k x = some x := by
  obtain ⟨k, rfl⟩ := pred (d := 1) hk
  rw [eicloneQueue, fgClone_Packet x hl (by omega), Option.bind_some]
theorem ficloneLinks {k : Nat} (x : List (Int × Int)) (hl : x.length ≤ 1048576) (hk : 2 ≤ k) : FicloneLinks k x = some x := by
  obtain ⟨k, rfl⟩ := pred (d := 1) hk
  rw [eicloneLinks, fgClone_Link x hl (by omega), Option.bind_some]
theorem ficloneStream {k : Nat} (x : Int × Int × List Int) (hl : x.2.2.length ≤ 1048576) (hk : 2 ≤ k) : FicloneStream k x = some x := by
  obtain ⟨k, rfl⟩ := pred (d := 1) hk
  rw [eicloneStream, fgClone_int _ hl (by omega), Option.bind_some]
theorem ficloneTable {k : Nat} (x : Int × (List Int) × List Int) (h1 : x.2.1.length ≤ 1048576) (h2 : x.2.2.length ≤ 1048576) (hk : 2 ≤ k) : FicloneTable k x = some x := by
  obtain ⟨k, rfl⟩ := pred (d := 1) hk
  rw [eicloneTable, fgClone_int _ h1 (by omega), Option.bind_some, fgClone_int _ h2 (by omega), Option.bind_some]
theorem fsl15Copy {k : Nat} (x : Int × (List Int) × List Int) (h1 : x.2.1.length ≤ 1048576) (h2 : x.2.2.length ≤ 1048576) (hk : 1 ≤ k) : Fsl15Copy k x = some x := by
  obtain ⟨k, rfl⟩ := pred (d := 0) hk
  rw [esl15Copy, if_pos (by omega), if_pos (by omega)]
theorem fsl24Copy {k : Nat} (x : List (Int × Int × Int × Int × Int × Int)) (hl : x.length ≤ 1048576) (hk : 1 ≤ k) : Fsl24Copy k x = some x := by
  obtain ⟨k, rfl⟩ := pred (d := 0) hk
  rw [esl24Copy, if_pos (by omega)]
theorem fsl25Copy {k : Nat} (x : Int × Int × List Int) (hl : x.2.2.length ≤ 1048576) (hk : 1 ≤ k) : Fsl25Copy k x = some x := by
  obtain ⟨k, rfl⟩ := pred (d := 0) hk
  rw [esl25Copy, if_pos (by omega)]
theorem ficloneSky {k N : Nat} (s : TSky) (hr : rowsLe N sSky s) (hN : N ≤ 1048576) (hk : 2 ≤ k) : FicloneSky k s = some s := by
  obtain ⟨k, rfl⟩ := pred (d := 1) hk
  have h1 : s.2.1.length ≤ N := (rowsLe_row hr.2.1).1
  have h2 : s.2.2.1.length ≤ N := (rowsLe_row hr.2.2.1).1
  have h3 : s.2.2.2.2.2.2.2.2.1.length ≤ N := (rowsLe_row hr.2.2.2.2.2.2.2.2.1).1
  rw [eicloneSky, fgClone_Sat _ (by omega) (by omega), Option.bind_some, fgClone_Site _ (by omega) (by omega), Option.bind_some, fgClone_Zone _ (by omega) (by omega), Option.bind_some]
theorem fsl33Sky {k N : Nat} (s : TSky) (hr : rowsLe N sSky s) (hN : N ≤ 1048576) (hk : 1 ≤ k) : Fsl33Sky k s = some s := by
  obtain ⟨k, rfl⟩ := pred (d := 0) hk
  have h1 : s.2.1.length ≤ N := (rowsLe_row hr.2.1).1
  have h2 : s.2.2.1.length ≤ N := (rowsLe_row hr.2.2.1).1
  have h3 : s.2.2.2.2.2.2.2.2.1.length ≤ N := (rowsLe_row hr.2.2.2.2.2.2.2.2.1).1
  rw [esl33Sky, if_pos (by omega), if_pos (by omega), if_pos (by omega)]
theorem ficloneProgram {k N : Nat} (p : TProgram) (hr : rowsLe N sProgram p) (hN : N ≤ 1048576) (hk : N + 4 ≤ k) : FicloneProgram k p = some p := by
  obtain ⟨k, rfl⟩ := pred (d := 0) (show 1 ≤ k by omega)
  obtain ⟨h1', h2⟩ := rowsLe_row hr.2.2.2
  have h1 : p.2.2.2.length ≤ N := h1'
  refine (eicloneProgram k p).trans (take_loop (L := LicloneProgram_0 k _ _) (a := p.2.2.2) (fun n i h h0 ht hd hw hlen => ?_) (fun n hd => ?_) (by omega) (by omega))
  · refine (if_pos hd).trans ((if_pos h0).trans ?_)
    have hx := h2 _ (List.getElem_mem h)
    have g1 : (p.2.2.2[i]).2.1.length ≤ N := (rowsLe_row hx.2.1).1
    obtain ⟨g2', g3⟩ := rowsLe_row hx.2.2
    have g2 : (p.2.2.2[i]).2.2.length ≤ N := g2'
    dsimp only
    rw [ht, ix_at h, ficloneLinks _ (by omega) (by omega), Option.bind_some]
    refine take_loop (L := LicloneProgram_1 k _ _) (a := (p.2.2.2[i]).2.2) (fun m j hj j0 jt jd jw jlen => ?_) (fun m jd => ?_) (by omega) (by omega)
    · refine (if_pos jd).trans ((if_pos j0).trans ?_)
      have hy := g3 _ (List.getElem_mem hj)
      have e1 : ((p.2.2.2[i]).2.2[j]).2.1.length ≤ N := (rowsLe_row hy.2.1).1
      have e2 : ((p.2.2.2[i]).2.2[j]).2.2.length ≤ N := (rowsLe_row hy.2.2).1
      dsimp only
      rw [jt, ix_at hj, ficloneTable _ (by omega) (by omega) (by omega), Option.bind_some, if_pos (by rw [jlen]; simp; omega), jw]
    · refine (if_neg (by rw [jd]; decide)).trans ?_
      dsimp only
      rw [if_pos (by rw [hlen]; simp; omega), hw]
  · exact (if_neg (by rw [hd]; decide))
theorem fsl17Copy {k N : Nat} (p : TProgram) (hr : rowsLe N sProgram p) (hN : N ≤ 1048576) (hk : N + 4 ≤ k) : Fsl17Copy k p = some p := by
  obtain ⟨k, rfl⟩ := pred (d := 0) (show 1 ≤ k by omega)
  obtain ⟨h1', h2⟩ := rowsLe_row hr.2.2.2
  have h1 : p.2.2.2.length ≤ N := h1'
  refine (esl17Copy k p).trans (take_loop (L := Lsl17Copy_0 k _ _) (a := p.2.2.2) (fun n i h h0 ht hd hw hlen => ?_) (fun n hd => ?_) (by omega) (by omega))
  · refine (if_pos hd).trans ((if_pos h0).trans ?_)
    have hx := h2 _ (List.getElem_mem h)
    have g1 : (p.2.2.2[i]).2.1.length ≤ N := (rowsLe_row hx.2.1).1
    obtain ⟨g2', g3⟩ := rowsLe_row hx.2.2
    have g2 : (p.2.2.2[i]).2.2.length ≤ N := g2'
    dsimp only
    rw [ht, ix_at h, if_pos h0, ix_at h, if_pos (by omega)]
    refine take_loop (L := Lsl17Copy_1 k _ _) (a := (p.2.2.2[i]).2.2) (fun m j hj j0 jt jd jw jlen => ?_) (fun m jd => ?_) (by omega) (by omega)
    · refine (show Lsl17Copy_1 k _ _ (m + 1) _ = (if (0 : Int) ≤ (i : Int) then ix p.2.2.2 (i : Int).toNat _ else none) from rfl).trans ?_
      rw [if_pos h0, ht, ix_at h]
      have hy := g3 _ (List.getElem_mem hj)
      have e1 : ((p.2.2.2[i]).2.2[j]).2.1.length ≤ N := (rowsLe_row hy.2.1).1
      have e2 : ((p.2.2.2[i]).2.2[j]).2.2.length ≤ N := (rowsLe_row hy.2.2).1
      dsimp only
      rw [if_pos jd, if_pos h0, ix_at h, if_pos j0, jt, ix_at hj, fsl15Copy _ (by omega) (by omega) (by omega), Option.bind_some, if_pos (by rw [jlen]; simp; omega), jw]
    · refine (show Lsl17Copy_1 k _ _ (m + 1) _ = (if (0 : Int) ≤ (i : Int) then ix p.2.2.2 (i : Int).toNat _ else none) from rfl).trans ?_
      rw [if_pos h0, ht, ix_at h]
      dsimp only
      rw [if_neg (by rw [jd]; decide), if_pos (by rw [hlen]; simp; omega), hw]
  · exact (if_neg (by rw [hd]; decide))
theorem ficloneWorld {k N : Nat} (w : TW) (hr : rowsLe N sWorld w) (hN : N ≤ 1048576) (hk : N + 5 ≤ k) : FicloneWorld k w = some w := by
  obtain ⟨k, rfl⟩ := pred (d := 0) (show 1 ≤ k by omega)
  obtain ⟨r1, r2, r3, r4, r5, r6, r7, r8, r9, r10, r11, r12, r13, r14⟩ := hr
  have h3 : w.2.2.1.length ≤ N := (rowsLe_row (e := 3) (sh := .i .i64) r3).1
  have h4 : w.2.2.2.1.length ≤ N := (rowsLe_row r4).1
  have h5 : w.2.2.2.2.1.length ≤ N := (rowsLe_row r5).1
  have h7 : w.2.2.2.2.2.2.1.length ≤ N := (rowsLe_row r7).1
  have h8 : w.2.2.2.2.2.2.2.1.length ≤ N := (rowsLe_row r8).1
  have h10 : w.2.2.2.2.2.2.2.2.2.1.length ≤ N := (rowsLe_row r10).1
  have h13 : w.2.2.2.2.2.2.2.2.2.2.2.2.1.length ≤ N := (rowsLe_row r13).1
  have h14 : w.2.2.2.2.2.2.2.2.2.2.2.2.2.length ≤ N := (rowsLe_row r14).1
  obtain ⟨h6', q6⟩ := rowsLe_row r6
  obtain ⟨h9', q9⟩ := rowsLe_row r9
  have h6 : w.2.2.2.2.2.1.length ≤ N := h6'
  have h9 : w.2.2.2.2.2.2.2.2.1.length ≤ N := h9'
  refine (eicloneWorld k w).trans ?_
  rw [ficloneSky w.1 r1 hN (by omega), Option.bind_some, ficloneProgram w.2.1 r2 hN (by omega), Option.bind_some, fgClone_int _ (by omega) (by omega), Option.bind_some, fgClone_int _ (by omega) (by omega), Option.bind_some, fgClone_Battery _ (by omega) (by omega), Option.bind_some,
    fgClone_Flow _ (by omega) (by omega), Option.bind_some, fgClone_int _ (by omega) (by omega), Option.bind_some, fgClone_Fault _ (by omega) (by omega), Option.bind_some, fgClone_Packet _ (by omega) (by omega), Option.bind_some, fgClone_Sent _ (by omega) (by omega), Option.bind_some]
  refine take_loop (L := LicloneWorld_0 k _ _) (a := w.2.2.2.2.2.1) (fun n i h h0 ht hd hw hlen => ?_) (fun n hd => ?_) (by omega) (by omega)
  · refine (if_pos hd).trans ((if_pos h0).trans ?_)
    have hx : (w.2.2.2.2.2.1[i]).length ≤ N := (rowsLe_row (e := 0) (sh := sI6) (q6 _ (List.getElem_mem h))).1
    dsimp only
    rw [ht, ix_at h, ficloneQueue _ (by omega) (by omega), Option.bind_some, if_pos (by rw [hlen]; simp; omega), hw]
  · refine (if_neg (by rw [hd]; decide)).trans ?_
    refine take_loop (L := LicloneWorld_1 k _ _) (a := w.2.2.2.2.2.2.2.2.1) (fun n i h h0 ht hd hw hlen => ?_) (fun n hd => ?_) (by omega) (by omega)
    · refine (if_pos hd).trans ((if_pos h0).trans ?_)
      have hx : (w.2.2.2.2.2.2.2.2.1[i]).2.2.length ≤ N := (rowsLe_row (e := 0) (sh := .i .i64) (q9 _ (List.getElem_mem h)).2.2).1
      dsimp only
      rw [ht, ix_at h, ficloneStream _ (by omega) (by omega), Option.bind_some, if_pos (by rw [hlen]; simp; omega), hw]
    · exact (if_neg (by rw [hd]; decide))
theorem fsl33Copy {k N : Nat} (w : TW) (hr : rowsLe N sWorld w) (hN : N ≤ 1048576) (hk : N + 5 ≤ k) : Fsl33Copy k w = some w := by
  obtain ⟨k, rfl⟩ := pred (d := 0) (show 1 ≤ k by omega)
  obtain ⟨r1, r2, r3, r4, r5, r6, r7, r8, r9, r10, r11, r12, r13, r14⟩ := hr
  have h3 : w.2.2.1.length ≤ N := (rowsLe_row (e := 3) (sh := .i .i64) r3).1
  have h4 : w.2.2.2.1.length ≤ N := (rowsLe_row r4).1
  have h5 : w.2.2.2.2.1.length ≤ N := (rowsLe_row r5).1
  have h7 : w.2.2.2.2.2.2.1.length ≤ N := (rowsLe_row r7).1
  have h8 : w.2.2.2.2.2.2.2.1.length ≤ N := (rowsLe_row r8).1
  have h10 : w.2.2.2.2.2.2.2.2.2.1.length ≤ N := (rowsLe_row r10).1
  have h13 : w.2.2.2.2.2.2.2.2.2.2.2.2.1.length ≤ N := (rowsLe_row r13).1
  have h14 : w.2.2.2.2.2.2.2.2.2.2.2.2.2.length ≤ N := (rowsLe_row r14).1
  obtain ⟨h6', q6⟩ := rowsLe_row r6
  obtain ⟨h9', q9⟩ := rowsLe_row r9
  have h6 : w.2.2.2.2.2.1.length ≤ N := h6'
  have h9 : w.2.2.2.2.2.2.2.2.1.length ≤ N := h9'
  refine (esl33Copy k w).trans ?_
  rw [fsl33Sky w.1 r1 hN (by omega), Option.bind_some, fsl17Copy w.2.1 r2 hN (by omega), Option.bind_some, if_pos (by omega), if_pos (by omega), if_pos (by omega)]
  refine take_loop (L := Lsl33Copy_0 k _ _) (a := w.2.2.2.2.2.1) (fun n i h h0 ht hd hw hlen => ?_) (fun n hd => ?_) (by omega) (by omega)
  · refine (if_pos hd).trans ((if_pos h0).trans ?_)
    have hx : (w.2.2.2.2.2.1[i]).length ≤ N := (rowsLe_row (e := 0) (sh := sI6) (q6 _ (List.getElem_mem h))).1
    dsimp only
    rw [ht, ix_at h, fsl24Copy _ (by omega) (by omega), Option.bind_some, if_pos (by rw [hlen]; simp; omega), hw]
  · refine (if_neg (by rw [hd]; decide)).trans ?_
    dsimp only
    rw [if_pos (by omega), if_pos (by omega)]
    refine take_loop (L := Lsl33Copy_1 k _ _) (a := w.2.2.2.2.2.2.2.2.1) (fun n i h h0 ht hd hw hlen => ?_) (fun n hd => ?_) (by omega) (by omega)
    · refine (if_pos hd).trans ((if_pos h0).trans ?_)
      have hx : (w.2.2.2.2.2.2.2.2.1[i]).2.2.length ≤ N := (rowsLe_row (e := 0) (sh := .i .i64) (q9 _ (List.getElem_mem h)).2.2).1
      dsimp only
      rw [ht, ix_at h, fsl25Copy _ (by omega) (by omega), Option.bind_some, if_pos (by rw [hlen]; simp; omega), hw]
    · refine (if_neg (by rw [hd]; decide)).trans ?_
      dsimp only
      rw [if_pos (by omega), if_pos (by omega), if_pos (by omega)]
end Go.Proofs.YtekefiglklmgnaaGreat.World
namespace Go.Proofs.YtekefiglklmgnaaGreat.World
open Go Go.V Go.Proofs
set_option linter.unusedVariables false
set_option linter.unusedSimpArgs false
set_option maxRecDepth 100000
set_option maxHeartbeats 4000000
theorem bs {α β : Type} {o : Option α} {v : α} {f : α → Option β} (h : o = some v) : o.bind f = f v := by rw [h]; rfl
/-- A world's size. -/
theorem szW (w : TW) : szT sWorld w = szT sSky w.1 + (szT sProgram w.2.1 + (szT sLaw w.2.2.1 + (w.2.2.2.1.length + (w.2.2.2.2.1.length + (szT (.l 0 sQueue) w.2.2.2.2.2.1 + (w.2.2.2.2.2.2.1.length + (w.2.2.2.2.2.2.2.1.length + (szT (.l 0 sStream) w.2.2.2.2.2.2.2.2.1 + (w.2.2.2.2.2.2.2.2.2.1.length + (0 + (0 + (w.2.2.2.2.2.2.2.2.2.2.2.2.1.length + w.2.2.2.2.2.2.2.2.2.2.2.2.2.length)))))))))))) := by
  have h : szT sWorld w = szT sSky w.1 + (szT sProgram w.2.1 + (szT sLaw w.2.2.1 + (szT (.l 0 (.i .i64)) w.2.2.2.1 + (szT (.l 0 sI6) w.2.2.2.2.1 + (szT (.l 0 sQueue) w.2.2.2.2.2.1 + (szT (.l 0 sI4) w.2.2.2.2.2.2.1 + (szT (.l 0 (.i .i64)) w.2.2.2.2.2.2.2.1 + (szT (.l 0 sStream) w.2.2.2.2.2.2.2.2.1 + (szT (.l 0 sI4) w.2.2.2.2.2.2.2.2.2.1 + (0 + (0 + (szT (.l 0 sI6) w.2.2.2.2.2.2.2.2.2.2.2.2.1 + szT (.l 0 sI4) w.2.2.2.2.2.2.2.2.2.2.2.2.2)))))))))))) := rfl
  have f1 (xs : List Int) : szT (.l 0 (.i .i64)) xs = xs.length := szT_row (e := 0) (sh := .i .i64) rfl xs
  have f4 (xs : List (Int × Int × Int × Int)) : szT (.l 0 sI4) xs = xs.length := szT_row (e := 0) (sh := sI4) rfl xs
  have f6 (xs : List (Int × Int × Int × Int × Int × Int)) : szT (.l 0 sI6) xs = xs.length := szT_row (e := 0) (sh := sI6) rfl xs
  rw [h, f1, f1, f4, f4, f4, f6, f6]
end Go.Proofs.YtekefiglklmgnaaGreat.World
namespace Go.Proofs.YtekefiglklmgnaaGreat.World
open Go Go.V Go.Proofs
set_option linter.unusedVariables false
set_option linter.unusedSimpArgs false
set_option maxRecDepth 100000
set_option maxHeartbeats 4000000
theorem fsl1In {k : Nat} (n a b : Int) (hk : 1 ≤ k) : Fsl1In k n a b = some (inR n a b) := by
  obtain ⟨k, rfl⟩ := pred (d := 0) hk
  rw [esl1In]
  unfold inR
  show (if ((decide (a ≤ n)) == true) = true then _ else _) = _
  cases decide (a ≤ n) <;> rfl
end Go.Proofs.YtekefiglklmgnaaGreat.World
namespace Go.Proofs.YtekefiglklmgnaaGreat.World
open Go Go.V Go.Proofs
set_option linter.unusedVariables false
set_option linter.unusedSimpArgs false
set_option maxRecDepth 100000
set_option maxHeartbeats 4000000
abbrev TF : Type := Int × Int × Int × Int
abbrev TT : Type := Int × (List Int) × List Int
/-! ### flows, landings -/
def isFlow (f : TF) (n : Int) : Bool := inR f.1 0 9999 && (isIdx f.2.1 n && (isIdx f.2.2.1 n && (f.2.1 != f.2.2.1 && inR f.2.2.2 0 1)))
theorem fiIsFlow {k : Nat} (f : TF) (n : Int) (hk : 2 ≤ k) : FiIsFlow k f n = some (isFlow f n) := by
  obtain ⟨k, rfl⟩ := pred (d := 1) hk
  rw [eiIsFlow, fiInRange _ _ _ (by omega), fiInRange _ _ _ (by omega), fiisIndex _ _ (by omega), fiisIndex _ _ (by omega)]
  simp only [Option.bind_some]
  unfold isFlow
  cases inR f.1 0 9999 <;> try rfl
  cases isIdx f.2.1 n <;> try rfl
  cases isIdx f.2.2.1 n <;> try rfl
  cases (f.2.1 != f.2.2.1) <;> rfl
theorem fsIsFlow {k : Nat} (f : TF) (n : Int) (hk : 2 ≤ k) : FsIsFlow k f n = some (isFlow f n) := by
  obtain ⟨k, rfl⟩ := pred (d := 1) hk
  rw [esIsFlow, fsl1In _ _ _ (by omega), fsl1In _ _ _ (by omega)]
  simp only [Option.bind_some]
  unfold isFlow isIdx
  cases inR f.1 0 9999 <;> try rfl
  cases decide (f.2.1 ≥ 0) <;> try rfl
  cases decide (f.2.1 < n) <;> try rfl
  cases decide (f.2.2.1 ≥ 0) <;> try rfl
  cases decide (f.2.2.1 < n) <;> try rfl
  cases (f.2.1 != f.2.2.1) <;> rfl
theorem fsl15Has {k : Nat} (l : List Int) (x : Int) (hl : l.length ≤ 1048576) (hk : l.length + 2 ≤ k) : Fsl15Has k l x = some (l.any fun y => y == x) := by
  obtain ⟨k, rfl⟩ := pred (d := 0) (show 1 ≤ k by omega)
  refine (esl15Has k l x).trans (row_i (L := Lsl15Has_0 k _ _ _) (a := l) (fun _ l => some (l.any fun y => y == x)) (fun _ _ => rfl) (by omega) rfl (fun n i y r h0 ht hw hi hx ih => ?_) (by omega))
  show (if (y == x) = true then some true else _) = _
  rw [hw, ih, List.any_cons]
  cases (y == x) <;> rfl
theorem fgContains_int {k : Nat} (l : List Int) (x : Int) (hl : l.length ≤ 1048576) (hk : l.length + 3 ≤ k) : FgContains_int k l x = some (l.any fun y => y == x) := by
  obtain ⟨k, rfl⟩ := pred (d := 1) (show 2 ≤ k by omega)
  refine (egContains_int k l x).trans ((bs (v := findFrom (fun y => y == x) 0 l) ?_).trans (by rw [findFrom_any]))
  obtain ⟨k, rfl⟩ := pred (d := 0) (show 1 ≤ k by omega)
  refine (egIndex_int k l x).trans (row_i (L := LgIndex_int_0 k _ _ _) (a := l) (fun i l => some (findFrom (fun y => y == x) i l)) (fun _ _ => rfl) (by omega) rfl (fun n i y r h0 ht hw hi hx ih => ?_) (by omega))
  show (if (x == y) = true then some (i : Int) else _) = some (if (y == x) = true then (i : Int) else findFrom (fun y => y == x) (i + 1) r)
  rw [hw, ih, show (x == y) = (y == x) by rw [Bool.eq_iff_iff, beq_iff_eq, beq_iff_eq]; exact eq_comm]
  by_cases h : (y == x) = true
  · rw [if_pos h, if_pos h]
  · rw [if_neg h, if_neg h]
def landing (law : List Int) (p : TProgram) (n : Int) : Bool := isIdx n p.1 && (decide (n < p.2.1) == false && (law.any fun y => y == n) || (isIdx n p.1 && decide (n < p.2.1)))
theorem fLanding {k : Nat} (law : List Int) (p : TProgram) (n : Int) (hl : law.length ≤ 1048576) (hk : law.length + 5 ≤ k) : ∃ b, FsIsLanding k law p n = some b ∧ FiIsLanding k law p n = some b := by
  obtain ⟨k, rfl⟩ := pred (d := 0) (show 1 ≤ k by omega)
  have es := esIsLanding k law p n
  have ei := (eiIsLanding k law p n).trans (bs (fiisIndex _ _ (by omega)))
  rw [fsl15Has _ _ hl (by omega)] at es
  rw [fgContains_int _ _ hl (by omega)] at ei
  unfold isIdx at ei
  cases h1 : decide (n ≥ 0) with
  | false => rw [h1] at es ei; exact ⟨false, es, ei⟩
  | true =>
    rw [h1] at es ei
    cases h2 : decide (n < p.1) with
    | false => rw [h2] at es ei; exact ⟨false, es, ei⟩
    | true =>
      rw [h2] at es ei
      cases h3 : decide (n < p.2.1) with
      | false => rw [h3] at es ei; exact ⟨_, es, ei⟩
      | true => rw [h3] at es ei; exact ⟨true, es, ei⟩
/-! ### tables, paths -/
theorem fTableIn {k N : Nat} (p : TProgram) (a d : Int) (hr : rowsLe N sProgram p) (hN : N ≤ 1048576) (hk : N + 5 ≤ k) : ∃ t : TT × Bool, FsTableIn k p a d = some t ∧ FiTableIn k p a d = some t ∧ t.1.2.2.length ≤ N := by
  obtain ⟨k, rfl⟩ := pred (d := 0) (show 1 ≤ k by omega)
  obtain ⟨h1', h2⟩ := rowsLe_row hr.2.2.2
  have h1 : p.2.2.2.length ≤ N := h1'
  have es := (esTableIn k p a d).trans (bs (fsl1In _ _ _ (by omega)))
  have ei := (eiTableIn k p a d).trans (bs (fiisIndex _ _ (by omega)))
  rw [inR_last a (by omega)] at es
  cases hI : isIdx a (p.2.2.2.length : Int) with
  | false =>
    rw [hI] at es ei
    exact ⟨((0, [], []), false), es, ei, by simp⟩
  | true =>
    rw [hI] at es ei
    obtain ⟨a0, a1⟩ := isIdx_pos hI
    have hx := h2 _ (List.getElem_mem a1)
    obtain ⟨g1', g2⟩ := rowsLe_row hx.2.2
    have g1 : (p.2.2.2[a.toNat]).2.2.length ≤ N := g1'
    have es := es.trans ((if_pos rfl).trans ((if_pos a0).trans ((ix_at a1 _).trans (bs (fsl1In _ _ _ (by omega))))))
    have ei := ei.trans ((if_pos rfl).trans ((if_pos a0).trans ((ix_at a1 _).trans (bs (fiisIndex _ _ (by omega))))))
    rw [inR_last d (by omega)] at es
    cases hJ : isIdx d ((p.2.2.2[a.toNat]).2.2.length : Int) with
    | false =>
      rw [hJ] at es ei
      exact ⟨((0, [], []), false), es.trans (if_pos rfl), ei.trans (if_pos rfl), by simp⟩
    | true =>
      rw [hJ] at es ei
      obtain ⟨d0, d1⟩ := isIdx_pos hJ
      have hy := g2 _ (List.getElem_mem d1)
      have e1 : ((p.2.2.2[a.toNat]).2.2[d.toNat]).2.1.length ≤ N := (rowsLe_row hy.2.1).1
      have e2 : ((p.2.2.2[a.toNat]).2.2[d.toNat]).2.2.length ≤ N := (rowsLe_row hy.2.2).1
      refine ⟨((p.2.2.2[a.toNat]).2.2[d.toNat], true), es.trans ((if_neg (by decide)).trans ((if_pos a0).trans ((ix_at a1 _).trans ((if_pos d0).trans ((ix_at d1 _).trans (bs (fsl15Copy _ (by omega) (by omega) (by omega)))))))),
        ei.trans ((if_neg (by decide)).trans ((if_pos a0).trans ((ix_at a1 _).trans ((if_pos d0).trans ((ix_at d1 _).trans (bs (ficloneTable _ (by omega) (by omega) (by omega)))))))), e2⟩
/-- A way along a table to its end. -/
inductive Way (next : List Int) (dst : Int) : List Int → Prop
  | one : Way next dst [dst]
  | step (x y : Int) (r : List Int) : x ≠ dst → 0 ≤ x → next[x.toNat]? = some y → Way next dst (y :: r) → Way next dst (x :: y :: r)
theorem fPathTo {k : Nat} (next : List Int) (src dst : Int) (hl : next.length ≤ 1048576) (hk : next.length + 5 ≤ k) : ∃ r, FsPathTo k next src dst = some r ∧ FiPathTo k next src dst = some r ∧ (r = [] ∨ Way next dst r) ∧ r.length ≤ next.length + 1 := by
  obtain ⟨k, rfl⟩ := pred (d := 0) (show 1 ≤ k by omega)
  have key : ∀ (m n : Nat) (x : Int) (out : List Int), next.length + 1 = m + out.length → m < n →
      ∃ r, LsPathTo_0 k (fun (v0 : Int × (List Int)) (p1 : Bool) => some (v0.2 ++ [v0.1])) (fun (v0 : Int × (List Int)) (p1 : Bool) => some ([])) (fun (v0 : Int × (List Int)) => some ([])) (next, dst) n (x, out) = some r ∧
        LiPathTo_0 k (fun (v0 : Int × (List Int)) (p1 : Bool) => some (v0.2 ++ [v0.1])) (fun (v0 : Int × (List Int)) (p1 : Bool) => some ([])) (fun (v0 : Int × (List Int)) => some ([])) (next, dst) n (x, out) = some r ∧
        (r = [] ∨ ∃ q, r = out ++ x :: q ∧ Way next dst (x :: q)) ∧ r.length ≤ next.length + 1 := by
    intro m
    induction m with
    | zero =>
      intro n x out h hn
      obtain ⟨n, rfl⟩ : ∃ q, n = q + 1 := ⟨n - 1, by omega⟩
      have c : ¬ ((decide ((out.length : Int) ≤ (next.length : Int))) == true) = true := by simp; omega
      exact ⟨[], if_neg c, if_neg c, .inl rfl, by simp⟩
    | succ m ih =>
      intro n x out h hn
      obtain ⟨n, rfl⟩ : ∃ q, n = q + 1 := ⟨n - 1, by omega⟩
      have c : ((decide ((out.length : Int) ≤ (next.length : Int))) == true) = true := by simp; omega
      have hI1 : Fsl1In k x 0 (IntKind.i64.wrap ((next.length : Int) - 1)) = some (isIdx x (next.length : Int)) := by rw [fsl1In _ _ _ (by omega), inR_last x (by omega)]
      have hI2 : FiisIndex k x (next.length : Int) = some (isIdx x (next.length : Int)) := fiisIndex _ _ (by omega)
      have c8 : (out.length + ([x]).length) * 8 ≤ 140737488355328 := by simp; omega
      cases hI : isIdx x (next.length : Int) with
      | false =>
        rw [hI] at hI1 hI2
        exact ⟨[], (if_pos c).trans ((bs hI1).trans (if_neg (by decide))), (if_pos c).trans ((bs hI2).trans (if_neg (by decide))), .inl rfl, by simp⟩
      | true =>
        rw [hI] at hI1 hI2
        obtain ⟨x0, x1⟩ := isIdx_pos hI
        by_cases hd : (x == dst) = true
        · have hxd : x = dst := by simpa using hd
          refine ⟨out ++ [x], (if_pos c).trans ((bs hI1).trans ((if_pos rfl).trans ((if_pos c8).trans (if_pos hd)))), (if_pos c).trans ((bs hI2).trans ((if_pos rfl).trans ((if_pos c8).trans (if_pos hd)))), .inr ⟨[], rfl, by rw [hxd]; exact .one⟩, by simp; omega⟩
        · have hxd : x ≠ dst := by simpa using hd
          obtain ⟨r, r1, r2, r3, r4⟩ := ih n (next[x.toNat]) (out ++ [x]) (by simp; omega) (by omega)
          refine ⟨r, (if_pos c).trans ((bs hI1).trans ((if_pos rfl).trans ((if_pos c8).trans ((if_neg hd).trans ((if_pos x0).trans ((ix_at x1 _).trans r1)))))), (if_pos c).trans ((bs hI2).trans ((if_pos rfl).trans ((if_pos c8).trans ((if_neg hd).trans ((if_pos x0).trans ((ix_at x1 _).trans r2)))))), ?_, r4⟩
          rcases r3 with r3 | ⟨q, r3, r5⟩
          · exact .inl r3
          · exact .inr ⟨next[x.toNat] :: q, by rw [r3]; simp, .step _ _ _ hxd x0 (List.getElem?_eq_getElem x1) r5⟩
  obtain ⟨r, r1, r2, r3, r4⟩ := key (next.length + 1) k src [] (by simp) (by omega)
  refine ⟨r, (esPathTo k next src dst).trans r1, (eiPathTo k next src dst).trans r2, ?_, r4⟩
  rcases r3 with r3 | ⟨q, r3, r5⟩
  · exact .inl r3
  · exact .inr (by rw [r3]; exact r5)
theorem way_det {next : List Int} {dst : Int} : ∀ {a b : List Int} {x : Int}, Way next dst (x :: a) → Way next dst (x :: b) → a = b
  | [], [], x, _, _ => rfl
  | [], y :: b, x, h1, h2 => by cases h1; cases h2; rename_i h _ _ _; exact absurd rfl h
  | y :: a, [], x, h1, h2 => by cases h2; cases h1; rename_i h _ _ _; exact absurd rfl h
  | y :: a, z :: b, x, h1, h2 => by
    cases h1
    rename_i p1 p2 p3 p4
    cases h2
    rename_i q1 q2 q3 q4
    rw [p3] at q3
    obtain rfl : y = z := Option.some.inj q3
    rw [way_det p4 q4]
theorem way_suffix {next : List Int} {dst : Int} : ∀ {pre s : List Int} {x : Int}, Way next dst (pre ++ x :: s) → Way next dst (x :: s)
  | [], s, x, h => h
  | [y], s, x, h => by
    cases h
    rename_i p1 p2 p3 p4
    exact p4
  | y :: z :: pre, s, x, h => by
    cases h
    rename_i p1 p2 p3 p4
    exact way_suffix (pre := z :: pre) p4
theorem way_nodup {next : List Int} {dst : Int} : ∀ {l : List Int}, Way next dst l → l.Nodup
  | [], h => List.nodup_nil
  | [x], h => by simp
  | x :: y :: r, h => by
    have h0 := h
    cases h
    rename_i p1 p2 p3 p4
    refine List.nodup_cons.2 ⟨fun hm => ?_, way_nodup p4⟩
    obtain ⟨pre, s, e⟩ := List.append_of_mem hm
    rw [e] at p4
    have := way_det h0 (way_suffix p4)
    have hl := congrArg List.length e
    rw [this] at hl
    simp at hl
    omega
/-- How often one stands right behind the other. -/
def cnt (a b : Int) : List Int → Nat
  | x :: y :: r => (if (x == a) = true then if (y == b) = true then 1 else 0 else 0) + cnt a b (y :: r)
  | _ => 0
theorem cnt_zero {a b : Int} : ∀ {l : List Int}, a ∉ l → cnt a b l = 0
  | [], _ => rfl
  | [x], _ => rfl
  | x :: y :: r, h => by
    have hx : ¬ (x == a) = true := by
      intro e
      exact h (by simp [show x = a by simpa using e])
    rw [cnt, if_neg hx, cnt_zero (fun hm => h (List.mem_cons_of_mem _ hm))]
theorem cnt_le {a b : Int} : ∀ {l : List Int}, l.Nodup → cnt a b l ≤ 1
  | [], _ => by simp [cnt]
  | [x], _ => by simp [cnt]
  | x :: y :: r, h => by
    have h1 := List.nodup_cons.1 h
    rw [cnt]
    by_cases hx : (x == a) = true
    · have hxa : x = a := by simpa using hx
      rw [cnt_zero (l := y :: r) (by rw [← hxa]; exact h1.1)]
      by_cases hy : (y == b) = true <;> simp [hx, hy]
    · rw [if_neg hx]
      have := cnt_le (a := a) (b := b) h1.2
      omega
theorem cnt_drop {a b : Int} {r : List Int} {i : Nat} (h : i + 1 < r.length) : cnt a b (r.drop i) = (if (r[i] == a) = true then if (r[i + 1] == b) = true then 1 else 0 else 0) + cnt a b (r.drop (i + 1)) := by
  rw [List.drop_eq_getElem_cons (show i < r.length by omega), List.drop_eq_getElem_cons h, cnt]
theorem cnt_end {a b : Int} {r : List Int} {i : Nat} (h : r.length ≤ i + 1) : cnt a b (r.drop i) = 0 := by
  cases hd : r.drop i with
  | nil => rfl
  | cons x t =>
    cases t with
    | nil => rfl
    | cons y t =>
      have := congrArg List.length hd
      simp at this
      omega
theorem figoes {k : Nat} (r : List Int) (a b : Int) (hl : r.length ≤ 1048577) (hk : r.length + 3 ≤ k) : Figoes k r a b = some (decide (0 < cnt a b r)) := by
  obtain ⟨k, rfl⟩ := pred (d := 0) (show 1 ≤ k by omega)
  have key : ∀ (m n i : Nat), (i + 1 + m = r.length ∨ (m = 0 ∧ r.length ≤ i + 1)) → m < n → Ligoes_0 k (fun (v0 : Int) (x1 : Int) (x2 : Int) => some true) (fun (v0 : Int) => some false) (r, a, b) n ((i + 1 : Nat) : Int) = some (decide (0 < cnt a b (r.drop i))) := by
    intro m
    induction m with
    | zero =>
      intro n i h hn
      obtain ⟨n, rfl⟩ : ∃ q, n = q + 1 := ⟨n - 1, by omega⟩
      rw [cnt_end (by omega)]
      exact if_neg (by simp; omega)
    | succ m ih =>
      intro n i h hn
      obtain ⟨n, rfl⟩ : ∃ q, n = q + 1 := ⟨n - 1, by omega⟩
      have h1 : i < r.length := by omega
      have h2 : i + 1 < r.length := by omega
      have e1 : IntKind.i64.wrap (((i + 1 : Nat) : Int) - 1) = (i : Int) := by rw [wrap_id (by omega) (by omega)]; omega
      have e2 : IntKind.i64.wrap (((i + 1 : Nat) : Int) + 1) = ((i + 1 + 1 : Nat) : Int) := by rw [wrap_id (by omega) (by omega)]; omega
      have e3 : ((i : Int)).toNat = i := by simp
      have e4 : (((i + 1 : Nat) : Int)).toNat = i + 1 := by simp
      refine (if_pos (show decide (((i + 1 : Nat) : Int) < (r.length : Int)) = true from decide_eq_true (by omega))).trans ?_
      dsimp only
      rw [e1, if_pos (by omega), e3, ix_at h1, cnt_drop h2]
      by_cases c1 : (r[i] == a) = true
      · rw [if_pos c1, if_pos (show ((r[i] == a) == true) = true by rw [c1]; rfl), if_pos (show (0 : Int) ≤ ((i + 1 : Nat) : Int) by omega), e4, ix_at h2]
        by_cases c2 : (r[i + 1] == b) = true
        · rw [if_pos c2, if_pos c2]
          congr 1
          symm
          rw [decide_eq_true_eq]
          omega
        · rw [if_neg c2, if_neg c2, e2, Nat.zero_add]
          exact ih n (i + 1) (by omega) (by omega)
      · rw [if_neg c1, if_neg (show ¬ ((r[i] == a) == true) = true by simpa using c1), e2, Nat.zero_add]
        exact ih n (i + 1) (by omega) (by omega)
  refine (eigoes k r a b).trans ?_
  have := key (r.length - 1) k 0 (by omega) (by omega)
  simpa using this
def bump : Nat → Int → Int
  | 0, s => s
  | n + 1, s => bump n (IntKind.i64.wrap (s + 1))
theorem lsRes {R : Type} {k : Nat} (X : VsReservedOn_1 → Option R) (Y : Int → Option R) (hX : ∀ v, X v = Y v.1) (c : CsReservedOn_1) (hl : c.2.2.2.2.2.2.length ≤ 1048577) :
    ∀ (m n i : Nat) (s : Int), (i + 1 + m = c.2.2.2.2.2.2.length ∨ (m = 0 ∧ c.2.2.2.2.2.2.length ≤ i + 1)) → m < n → LsReservedOn_1 k X c n (s, ((i + 1 : Nat) : Int)) = Y (bump (cnt c.2.2.1 c.2.2.2.1 (c.2.2.2.2.2.2.drop i)) s) := by
  intro m
  induction m with
  | zero =>
    intro n i s h hn
    obtain ⟨n, rfl⟩ : ∃ q, n = q + 1 := ⟨n - 1, by omega⟩
    rw [cnt_end (by omega)]
    refine (if_neg (by simp; omega)).trans ?_
    rw [hX]
    rfl
  | succ m ih =>
    intro n i s h hn
    obtain ⟨n, rfl⟩ : ∃ q, n = q + 1 := ⟨n - 1, by omega⟩
    have h1 : i < c.2.2.2.2.2.2.length := by omega
    have h2 : i + 1 < c.2.2.2.2.2.2.length := by omega
    have e1 : IntKind.i64.wrap (((i + 1 : Nat) : Int) - 1) = (i : Int) := by rw [wrap_id (by omega) (by omega)]; omega
    have e2 : IntKind.i64.wrap (((i + 1 : Nat) : Int) + 1) = ((i + 1 + 1 : Nat) : Int) := by rw [wrap_id (by omega) (by omega)]; omega
    have e3 : ((i : Int)).toNat = i := by simp
    have e4 : (((i + 1 : Nat) : Int)).toNat = i + 1 := by simp
    refine (if_pos (by simp; omega)).trans ?_
    dsimp only
    rw [e1, if_pos (by omega), if_pos (by omega), e3, ix_at h1, cnt_drop h2]
    by_cases c1 : (c.2.2.2.2.2.2[i] == c.2.2.1) = true
    · rw [if_pos c1, if_pos (by rw [c1]; rfl), if_pos (by omega), if_pos (by omega), e4, ix_at h2]
      by_cases c2 : (c.2.2.2.2.2.2[i + 1] == c.2.2.2.1) = true
      · rw [if_pos c2, if_pos c2, e2, Nat.add_comm 1]
        exact ih n (i + 1) _ (by omega) (by omega)
      · rw [if_neg c2, if_neg c2, e2, Nat.zero_add]
        exact ih n (i + 1) _ (by omega) (by omega)
    · rw [if_neg c1, if_neg (by simpa using c1), e2, Nat.zero_add]
      exact ih n (i + 1) _ (by omega) (by omega)
theorem fRouteIn {k N : Nat} (p : TProgram) (a : Int) (f : TF) (hr : rowsLe N sProgram p) (hN : N ≤ 1048576) (hk : N + 10 ≤ k) : ∃ r, FsRouteIn k p a f = some r ∧ FiRouteIn k p a f = some r ∧ r.Nodup ∧ r.length ≤ N + 1 := by
  obtain ⟨k, rfl⟩ := pred (d := 1) (show 2 ≤ k by omega)
  obtain ⟨t, t1, t2, t3⟩ := fTableIn (k := k) p a f.2.2.1 hr hN (by omega)
  have es := (esRouteIn k p a f).trans (bs t1)
  have ei := (eiRouteIn k p a f).trans (bs t2)
  cases hb : t.2 with
  | false => exact ⟨[], es.trans (if_pos (by rw [hb]; rfl)), ei.trans (if_pos (by rw [hb]; rfl)), List.nodup_nil, by simp⟩
  | true =>
    obtain ⟨k, rfl⟩ := pred (d := 0) (show 1 ≤ k by omega)
    obtain ⟨r, r1, r2, r3, r4⟩ := fPathTo (k := k) t.1.2.2 f.2.1 t.1.1 (by omega) (by omega)
    have e1 : FsRouteOf (k + 1) t.1 f.2.1 = some r := (esRouteOf k t.1 f.2.1).trans ((bs r1).trans rfl)
    have e2 : FiRouteOf (k + 1) t.1 f.2.1 = some r := (eiRouteOf k t.1 f.2.1).trans ((bs r2).trans rfl)
    refine ⟨r, es.trans ((if_neg (by rw [hb]; decide)).trans ((bs e1).trans rfl)), ei.trans ((if_neg (by rw [hb]; decide)).trans ((bs e2).trans rfl)), ?_, by omega⟩
    rcases r3 with r3 | r3
    · rw [r3]; exact List.nodup_nil
    · exact way_nodup r3
theorem fReservedOn {k N : Nat} (p : TProgram) (l : List TF) (a x y : Int) (hr : rowsLe N sProgram p) (hN : N ≤ 1048576) (hl : l.length ≤ N) (hk : N + 15 ≤ k) : ∃ n, FsReservedOn k p l a x y = some n ∧ FiReservedOn k p l a x y = some n := by
  obtain ⟨k, rfl⟩ := pred (d := 0) (show 1 ≤ k by omega)
  have key : ∀ (m n i : Nat) (s : Int), i + m = l.length → m < n → ∃ v, LsReservedOn_0 k (fun (v0 : Int × Int) => some v0.1) (l, a, x, y, p) n (s, (i : Int)) = some v ∧ LiReservedOn_0 k (fun (v0 : Int × Int) => some v0.1) (a, x, y, l, (l.length : Int), p) n (s, (i : Int)) = some v := by
    intro m
    induction m with
    | zero =>
      intro n i s h hn
      obtain ⟨n, rfl⟩ : ∃ q, n = q + 1 := ⟨n - 1, by omega⟩
      have c : ¬ decide ((i : Int) < (l.length : Int)) = true := by simp; omega
      exact ⟨s, if_neg c, if_neg c⟩
    | succ m ih =>
      intro n i s h hn
      obtain ⟨n, rfl⟩ : ∃ q, n = q + 1 := ⟨n - 1, by omega⟩
      have hi : i < l.length := by omega
      have c : decide ((i : Int) < (l.length : Int)) = true := by simp; omega
      have h0 : (0 : Int) ≤ (i : Int) := by omega
      have hf : l[i]? = some l[i] := List.getElem?_eq_getElem hi
      have e2 : IntKind.i64.wrap ((i : Int) + 1) = ((i + 1 : Nat) : Int) := by rw [wrap_id (by omega) (by omega)]; omega
      obtain ⟨r, r1, r2, r3, r4⟩ := fRouteIn (k := k) p a l[i] hr hN (by omega)
      have hc := cnt_le (a := x) (b := y) r3
      by_cases h1 : (l[i].2.2.2 == 1) = true
      · have h1' : ¬ (l[i].2.2.2 != 1) = true := by simpa using h1
        obtain ⟨v, v1, v2⟩ := ih n (i + 1) (bump (cnt x y r) s) (by omega) (by omega)
        have es : LsReservedOn_0 k (fun (v0 : Int × Int) => some v0.1) (l, a, x, y, p) (n + 1) (s, (i : Int)) = LsReservedOn_0 k (fun (v0 : Int × Int) => some v0.1) (l, a, x, y, p) n (bump (cnt x y r) s, IntKind.i64.wrap ((i : Int) + 1)) := by
          refine (if_pos c).trans ((if_pos h0).trans ((ix_some (n := i) hf _).trans ((if_neg h1').trans ((if_pos h0).trans ((ix_some (n := i) hf _).trans ((bs r1).trans ?_))))))
          have := lsRes (k := k) _ (fun q => LsReservedOn_0 k (fun (v0 : Int × Int) => some v0.1) (l, a, x, y, p) n (q, IntKind.i64.wrap ((i : Int) + 1))) (fun _ => rfl) (l, a, x, y, (i : Int), p, r) (by show r.length ≤ _; omega) (r.length - 1) k 0 s (by show _ ∨ (_ ∧ r.length ≤ _); by_cases hr0 : r.length = 0; exact .inr ⟨by omega, by omega⟩; exact .inl (by show 0 + 1 + (r.length - 1) = r.length; omega)) (by omega)
          exact this
        have ei : LiReservedOn_0 k (fun (v0 : Int × Int) => some v0.1) (a, x, y, l, (l.length : Int), p) (n + 1) (s, (i : Int)) = LiReservedOn_0 k (fun (v0 : Int × Int) => some v0.1) (a, x, y, l, (l.length : Int), p) n (bump (cnt x y r) s, IntKind.i64.wrap ((i : Int) + 1)) := by
          refine (if_pos c).trans ((if_pos h0).trans ((ix_some (n := i) hf _).trans ((if_pos (show ((l[i].2.2.2 == 1) == true) = true by rw [h1]; rfl)).trans ((bs r2).trans ((bs (figoes r x y (by omega) (by omega))).trans ?_)))))
          by_cases hz : cnt x y r = 0
          · rw [hz]
            exact if_neg (by decide)
          · have : cnt x y r = 1 := by omega
            rw [this]
            exact if_pos (by decide)
        refine ⟨v, es.trans ?_, ei.trans ?_⟩
        · rw [e2]; exact v1
        · rw [e2]; exact v2
      · have h1' : (l[i].2.2.2 != 1) = true := by simpa using h1
        obtain ⟨v, v1, v2⟩ := ih n (i + 1) s (by omega) (by omega)
        refine ⟨v, (if_pos c).trans ((if_pos h0).trans ((ix_some (n := i) hf _).trans ((if_pos h1').trans ?_))), (if_pos c).trans ((if_pos h0).trans ((ix_some (n := i) hf _).trans ((if_neg (show ¬ ((l[i].2.2.2 == 1) == true) = true by simpa using h1)).trans ?_)))⟩
        · dsimp only; rw [e2]; exact v1
        · dsimp only; rw [e2]; exact v2
  obtain ⟨v, v1, v2⟩ := key l.length k 0 0 (by omega) (by omega)
  exact ⟨v, (esReservedOn k p l a x y).trans v1, (eiReservedOn k p l a x y).trans v2⟩
theorem fRoom1 {k N : Nat} {Xs : VsHasRoom_1 → Option Bool} {Xi : ViHasRoom_1 → Option Bool} (p : TProgram) (l : List TF) (f : TF) (lim : Int) (a : Int) (r : List Int) (cs : CsHasRoom_1) (ci : CiHasRoom_1) (hcs : cs = (l, lim, a, p, f, r)) (hci : ci = (l, lim, a, (p.2.2.2.length : Int), a, p, f, r))
    (hX : ∀ v, ∃ b, Xs v = some b ∧ Xi v = some b) (hr : rowsLe N sProgram p) (hN : N ≤ 1048576) (hl : l.length ≤ N) (hrl : r.length ≤ N + 1) (hk : N + 15 ≤ k) :
    ∃ b, LsHasRoom_1 k (fun (v1 : Int) (x2 : Int) (x3 : Int) (p4 : Int) => some false) Xs cs k 1 = some b ∧ LiHasRoom_1 k (fun (v1 : Int) (x2 : Int) (x3 : Int) (p4 : Int) => some false) Xi ci k 1 = some b := by
  subst hcs hci
  have key : ∀ (m n i : Nat), (i + 1 + m = r.length ∨ (m = 0 ∧ r.length ≤ i + 1)) → m < n → ∃ b, LsHasRoom_1 k (fun (v1 : Int) (x2 : Int) (x3 : Int) (p4 : Int) => some false) Xs (l, lim, a, p, f, r) n ((i + 1 : Nat) : Int) = some b ∧ LiHasRoom_1 k (fun (v1 : Int) (x2 : Int) (x3 : Int) (p4 : Int) => some false) Xi (l, lim, a, (p.2.2.2.length : Int), a, p, f, r) n ((i + 1 : Nat) : Int) = some b := by
    intro m
    induction m with
    | zero =>
      intro n i h hn
      obtain ⟨n, rfl⟩ : ∃ q, n = q + 1 := ⟨n - 1, by omega⟩
      have c : ¬ decide (((i + 1 : Nat) : Int) < (r.length : Int)) = true := by rw [decide_eq_false (by omega)]; decide
      obtain ⟨b, b1, b2⟩ := hX ((i + 1 : Nat) : Int)
      exact ⟨b, (if_neg c).trans b1, (if_neg c).trans b2⟩
    | succ m ih =>
      intro n i h hn
      obtain ⟨n, rfl⟩ : ∃ q, n = q + 1 := ⟨n - 1, by omega⟩
      have h1 : i < r.length := by omega
      have h2 : i + 1 < r.length := by omega
      have c : decide (((i + 1 : Nat) : Int) < (r.length : Int)) = true := decide_eq_true (by omega)
      have e1 : IntKind.i64.wrap (((i + 1 : Nat) : Int) - 1) = (i : Int) := by rw [wrap_id (by omega) (by omega)]; omega
      have e2 : IntKind.i64.wrap (((i + 1 : Nat) : Int) + 1) = ((i + 1 + 1 : Nat) : Int) := by rw [wrap_id (by omega) (by omega)]; omega
      have g1 : r[i]? = some r[i] := List.getElem?_eq_getElem h1
      have g2 : r[i + 1]? = some r[i + 1] := List.getElem?_eq_getElem h2
      obtain ⟨q, q1, q2⟩ := fReservedOn (k := k) p l a r[i] r[i + 1] hr hN hl hk
      obtain ⟨b, b1, b2⟩ := ih n (i + 1) (by omega) (by omega)
      have p1 : (0 : Int) ≤ (i : Int) := by omega
      have p2 : (i : Int) < (r.length : Int) := by omega
      have p3 : (0 : Int) ≤ ((i + 1 : Nat) : Int) := by omega
      have p4 : ((i + 1 : Nat) : Int) < (r.length : Int) := by omega
      have es : LsHasRoom_1 k (fun (v1 : Int) (x2 : Int) (x3 : Int) (p4 : Int) => some false) Xs (l, lim, a, p, f, r) (n + 1) ((i + 1 : Nat) : Int) = if decide (q ≥ lim) = true then some false else LsHasRoom_1 k (fun (v1 : Int) (x2 : Int) (x3 : Int) (p4 : Int) => some false) Xs (l, lim, a, p, f, r) n (IntKind.i64.wrap (((i + 1 : Nat) : Int) + 1)) := by
        refine (if_pos c).trans ?_
        dsimp only
        rw [e1]
        exact (if_pos p1).trans ((if_pos p2).trans ((ix_some (n := i) g1 _).trans ((if_pos p3).trans ((if_pos p4).trans ((ix_some (n := i + 1) g2 _).trans (bs q1))))))
      have ei : LiHasRoom_1 k (fun (v1 : Int) (x2 : Int) (x3 : Int) (p4 : Int) => some false) Xi (l, lim, a, (p.2.2.2.length : Int), a, p, f, r) (n + 1) ((i + 1 : Nat) : Int) = if decide (q ≥ lim) = true then some false else LiHasRoom_1 k (fun (v1 : Int) (x2 : Int) (x3 : Int) (p4 : Int) => some false) Xi (l, lim, a, (p.2.2.2.length : Int), a, p, f, r) n (IntKind.i64.wrap (((i + 1 : Nat) : Int) + 1)) := by
        refine (if_pos c).trans ?_
        dsimp only
        rw [e1]
        exact (if_pos p1).trans ((if_pos p2).trans ((ix_some (n := i) g1 _).trans ((if_pos p3).trans ((if_pos p4).trans ((ix_some (n := i + 1) g2 _).trans (bs q2))))))
      rw [e2] at es ei
      by_cases hq : decide (q ≥ lim) = true
      · exact ⟨false, es.trans (if_pos hq), ei.trans (if_pos hq)⟩
      · exact ⟨b, es.trans ((if_neg hq).trans b1), ei.trans ((if_neg hq).trans b2)⟩
  have := key (r.length - 1) k 0 (by by_cases hr0 : r.length = 0; exact .inr ⟨by omega, by omega⟩; exact .inl (by omega)) (by omega)
  simpa using this
theorem fHasRoom {k N : Nat} (p : TProgram) (l : List TF) (f : TF) (lim : Int) (hr : rowsLe N sProgram p) (hN : N ≤ 1048576) (hl : l.length ≤ N) (hk : N + 20 ≤ k) : ∃ b, FsHasRoom k p l f lim = some b ∧ FiHasRoom k p l f lim = some b := by
  obtain ⟨k, rfl⟩ := pred (d := 0) (show 1 ≤ k by omega)
  have hpl : p.2.2.2.length ≤ N := (rowsLe_row hr.2.2.2).1
  have key : ∀ (m n i : Nat), i + m = p.2.2.2.length → m < n → ∃ b, LsHasRoom_0 k (fun (v0 : Int) (p1 : List Int) (v1 : Int) (x2 : Int) (x3 : Int) (p4 : Int) => some false) (fun (v0 : Int) => some true) (l, lim, p, f) n (i : Int) = some b ∧
      LiHasRoom_0 k (fun (v0 : Int) (p1 : List Int) (v1 : Int) (x2 : Int) (x3 : Int) (p4 : Int) => some false) (fun (v0 : Int) => some true) (l, lim, (p.2.2.2.length : Int), p, f) n (i : Int) = some b := by
    intro m
    induction m with
    | zero =>
      intro n i h hn
      obtain ⟨n, rfl⟩ : ∃ q, n = q + 1 := ⟨n - 1, by omega⟩
      have c : ¬ decide ((i : Int) < (p.2.2.2.length : Int)) = true := by rw [decide_eq_false (by omega)]; decide
      exact ⟨true, if_neg c, if_neg c⟩
    | succ m ih =>
      intro n i h hn
      obtain ⟨n, rfl⟩ : ∃ q, n = q + 1 := ⟨n - 1, by omega⟩
      have c : decide ((i : Int) < (p.2.2.2.length : Int)) = true := decide_eq_true (by omega)
      have e2 : IntKind.i64.wrap ((i : Int) + 1) = ((i + 1 : Nat) : Int) := by rw [wrap_id (by omega) (by omega)]; omega
      obtain ⟨r, r1, r2, r3, r4⟩ := fRouteIn (k := k) p (i : Int) f hr hN (by omega)
      obtain ⟨b, b1, b2⟩ := ih n (i + 1) (by omega) (by omega)
      rw [← e2] at b1 b2
      obtain ⟨b', c1, c2⟩ := fRoom1 (k := k) (Xs := fun _ => _) (Xi := fun _ => _) p l f lim (i : Int) r (l, lim, (i : Int), p, f, r) (l, lim, (i : Int), (p.2.2.2.length : Int), (i : Int), p, f, r) rfl rfl (fun _ => ⟨b, b1, b2⟩) hr hN hl r4 (by omega)
      exact ⟨b', (if_pos c).trans ((bs r1).trans c1), (if_pos c).trans ((bs r2).trans c2)⟩
  obtain ⟨v, v1, v2⟩ := key p.2.2.2.length k 0 (by omega) (by omega)
  exact ⟨v, (esHasRoom k p l f lim).trans v1, (eiHasRoom k p l f lim).trans v2⟩
end Go.Proofs.YtekefiglklmgnaaGreat.World
namespace Go.Proofs.YtekefiglklmgnaaGreat.World
open Go Go.V Go.Proofs
set_option linter.unusedVariables false
set_option linter.unusedSimpArgs false
set_option maxRecDepth 100000
set_option maxHeartbeats 4000000
/-! ### StepFlow -/
theorem sFind {R : Type} {k : Nat} (l : List TF) (f : TF) (c : CsAdmitFlow_0) (hc : c = (l, c.2.1, c.2.2.1, f, c.2.2.2.2)) (A B : Option R) (hl : l.length ≤ 1048576) (hk : l.length < k) :
    LsAdmitFlow_0 k (fun (v0 : Int) (x2 : Int × Int × Int × Int) => A) (fun (v0 : Int) => B) c k 0 = if (l.any fun x => x.1 == f.1) = true then A else B := by
  rw [hc]
  refine row_i (L := LsAdmitFlow_0 k _ _ _) (a := l) (fun _ l => if (l.any fun x => x.1 == f.1) = true then A else B) (fun _ _ => rfl) (by omega) (by simp) (fun n i x r h0 ht hw hi hx ih => ?_) hk
  show (if (x.1 == f.1) = true then A else _) = _
  rw [hw, ih, List.any_cons]
  cases (x.1 == f.1) <;> rfl
theorem fContainsFlow {k : Nat} (l : List TF) (f : TF) (hl : l.length ≤ 1048576) (hk : l.length + 5 ≤ k) : FgContainsFunc_Flowv_iAdmitFlow_1 k l f.1 f.2.1 f.2.2.1 f.2.2.2 = some (l.any fun x => x.1 == f.1) := by
  obtain ⟨k, rfl⟩ := pred (d := 1) (show 2 ≤ k by omega)
  refine (egContainsFunc_Flowv_iAdmitFlow_1 k l _ _ _ _).trans ((bs (v := findFrom (fun x => x.1 == f.1) 0 l) ?_).trans (by rw [findFrom_any]))
  obtain ⟨k, rfl⟩ := pred (d := 0) (show 1 ≤ k by omega)
  refine (egIndexFunc_Flowv_iAdmitFlow_1 k l _ _ _ _).trans (row_i (L := LgIndexFunc_Flowv_iAdmitFlow_1_0 k _ _ _) (a := l) (fun i l => some (findFrom (fun x => x.1 == f.1) i l)) (fun _ _ => rfl) (by omega) rfl (fun n i x r h0 ht hw hi hx ih => ?_) (by omega))
  obtain ⟨k, rfl⟩ := pred (d := 0) (show 1 ≤ k by omega)
  refine (bs (eiAdmitFlow_1v k x _ _ _ _)).trans ?_
  show (if (x.1 == f.1) = true then some (i : Int) else _) = some (if (x.1 == f.1) = true then (i : Int) else findFrom (fun x => x.1 == f.1) (i + 1) r)
  rw [hw, ih]
  by_cases h : (x.1 == f.1) = true
  · rw [if_pos h, if_pos h]
  · rw [if_neg h, if_neg h]
theorem fAdmit {k N : Nat} (p : TProgram) (l : List TF) (f : TF) (lim : Int) (hr : rowsLe N sProgram p) (hN : N ≤ 1048576) (hl : l.length ≤ N) (hk : N + 30 ≤ k) :
    ∃ q b, FsAdmitFlow k p l f lim = some (q, b) ∧ FiAdmitFlow k p l f lim = some (q, b) ∧ q.length ≤ l.length + 1 := by
  obtain ⟨k, rfl⟩ := pred (d := 0) (show 1 ≤ k by omega)
  have es := (esAdmitFlow k p l f lim).trans ((if_pos (by omega)).trans (bs (fsIsFlow _ _ (by omega))))
  have ei := (eiAdmitFlow k p l f lim).trans ((bs (fgClone_Flow l (by omega) (by omega))).trans (bs (fiIsFlow _ _ (by omega))))
  have c8 : (l.length + ([f]).length) * 32 ≤ 140737488355328 := by simp; omega
  cases h1 : isFlow f p.1 with
  | false =>
    rw [h1] at es ei
    exact ⟨l, false, es.trans (if_neg (by decide)), ei.trans (if_neg (by decide)), by omega⟩
  | true =>
    rw [h1] at es ei
    have es := es.trans (if_pos rfl)
    have ei := ei.trans (if_pos rfl)
    by_cases h2 : (l.length : Int) ≥ 8
    · have c : ¬ ((decide ((l.length : Int) ≥ 8)) == false) = true := by rw [decide_eq_true h2]; decide
      exact ⟨l, false, es.trans (if_pos (decide_eq_true h2)), ei.trans (if_neg c), by omega⟩
    · have c : ((decide ((l.length : Int) ≥ 8)) == false) = true := by rw [decide_eq_false h2]; rfl
      have c' : ¬ decide ((l.length : Int) ≥ 8) = true := by rw [decide_eq_false h2]; decide
      have es := es.trans ((if_neg c').trans (sFind l f _ rfl _ _ (by omega) (by omega)))
      have ei := ei.trans ((if_pos c).trans (bs (fContainsFlow l f (by omega) (by omega))))
      cases h3 : (l.any fun x => x.1 == f.1) with
      | true =>
        rw [h3] at es ei
        exact ⟨l, false, es.trans (if_pos rfl), ei.trans (if_neg (by decide)), by omega⟩
      | false =>
        rw [h3] at es ei
        have es := es.trans (if_neg (by decide))
        have ei := ei.trans (if_pos rfl)
        by_cases h4 : ((f.2.2.2 == 1) == true) = true
        · obtain ⟨b, b1, b2⟩ := fHasRoom (k := k) p l f lim hr hN hl (by omega)
          have es := es.trans ((if_pos h4).trans (bs b1))
          have ei := ei.trans ((if_pos h4).trans (bs b2))
          cases b with
          | false => exact ⟨l, false, es.trans (if_pos rfl), ei.trans (if_pos rfl), by omega⟩
          | true => exact ⟨l ++ [f], true, es.trans ((if_neg (by decide)).trans (if_pos c8)), ei.trans ((if_neg (by decide)).trans (if_pos c8)), by simp⟩
        · exact ⟨l ++ [f], true, es.trans ((if_neg h4).trans (if_pos c8)), ei.trans ((if_neg h4).trans (if_pos c8)), by simp⟩
theorem sumL_append {α : Type} {f : α → Nat} : ∀ {a b : List α}, sumL f (a ++ b) = sumL f a + sumL f b
  | [], b => by simp [sumL]
  | x :: a, b => by simp only [List.cons_append, sumL, sumL_append]; omega
abbrev TS : Type := Int × Int × List Int
def withFlow (w : TW) (fl : List TF) (c : List Int) (s : List TS) : TW := (w.1, w.2.1, w.2.2.1, w.2.2.2.1, w.2.2.2.2.1, w.2.2.2.2.2.1, fl, c, s, w.2.2.2.2.2.2.2.2.2.1, w.2.2.2.2.2.2.2.2.2.2.1, w.2.2.2.2.2.2.2.2.2.2.2.1, w.2.2.2.2.2.2.2.2.2.2.2.2.1, w.2.2.2.2.2.2.2.2.2.2.2.2.2)
theorem stepStepFlow {N : Nat} (k : Nat) (w : TW) (f : TF) (hr : rowsLe N sWorld w) (hN : N ≤ 1048576) (hk : N + 40 ≤ k) :
    ∃ r b, FsStepFlow k w f = some (r, b) ∧ FiStepFlow k w f = some (r, b) ∧ szT sWorld r ≤ szT sWorld w + 3 := by
  obtain ⟨k, rfl⟩ := pred (d := 0) (show 1 ≤ k by omega)
  have l3 : w.2.2.1.length ≤ N := (rowsLe_row (e := 3) (sh := .i .i64) hr.2.2.1).1
  have l7 : w.2.2.2.2.2.2.1.length ≤ N := (rowsLe_row hr.2.2.2.2.2.2.1).1
  have l8 : w.2.2.2.2.2.2.2.1.length ≤ N := (rowsLe_row hr.2.2.2.2.2.2.2.1).1
  have l9 : w.2.2.2.2.2.2.2.2.1.length ≤ N := (rowsLe_row hr.2.2.2.2.2.2.2.2.1).1
  obtain ⟨q, b, a1, a2, a3⟩ := fAdmit (k := k) w.2.1 w.2.2.2.2.2.2.1 f 3 hr.2.1 hN l7 (by omega)
  obtain ⟨ld, d1, d2⟩ := fLanding (k := k) w.2.2.1 w.2.1 f.2.2.1 (by omega) (by omega)
  have ew := ficloneWorld (k := k) w hr hN (by omega)
  have es := (esStepFlow k w f).trans ((bs (fsl33Copy w hr hN (by omega))).trans (bs a1))
  have ei := (eiStepFlow k w f).trans ((bs ew).trans (bs a2))
  cases b with
  | false => exact ⟨w, false, es.trans (if_neg (show ¬ ((!false) == false) = true by decide)), ei.trans ((if_neg (show ¬ ((!false) == false) = true by decide)).trans ((bs ew).trans rfl)), by omega⟩
  | true =>
    have es := es.trans ((if_pos rfl).trans (bs d1))
    have ei := ei.trans ((if_pos rfl).trans (bs d2))
    cases ld with
    | false => exact ⟨w, false, es.trans (if_pos rfl), ei.trans ((if_pos rfl).trans ((bs ew).trans rfl)), by omega⟩
    | true =>
      have c1 : (w.2.2.2.2.2.2.2.1.length + ([0] : List Int).length) * 8 ≤ 140737488355328 := by simp; omega
      have c2 : (w.2.2.2.2.2.2.2.2.1.length + ([(f.1, 0, [])] : List TS).length) * 40 ≤ 140737488355328 := by simp; omega
      refine ⟨withFlow w q (w.2.2.2.2.2.2.2.1 ++ [0]) (w.2.2.2.2.2.2.2.2.1 ++ [(f.1, 0, [])]), true, es.trans ((if_neg (by decide)).trans ((if_pos c1).trans (if_pos c2))), ei.trans ((if_neg (by decide)).trans ((if_pos c1).trans (if_pos c2))), ?_⟩
      have g1 : szT (.l 0 sStream) (w.2.2.2.2.2.2.2.2.1 ++ [((f.1, 0, []) : TS)]) = (w.2.2.2.2.2.2.2.2.1 ++ [((f.1, 0, []) : TS)]).length + sumL (szT sStream) (w.2.2.2.2.2.2.2.2.1 ++ [((f.1, 0, []) : TS)]) := szT_rowS 0 sStream _
      have g2 : szT (.l 0 sStream) w.2.2.2.2.2.2.2.2.1 = w.2.2.2.2.2.2.2.2.1.length + sumL (szT sStream) w.2.2.2.2.2.2.2.2.1 := szT_rowS 0 sStream _
      have g3 : sumL (szT sStream) (w.2.2.2.2.2.2.2.2.1 ++ [((f.1, 0, []) : TS)]) = sumL (szT sStream) w.2.2.2.2.2.2.2.2.1 + sumL (szT sStream) [((f.1, 0, []) : TS)] := sumL_append
      have g4 : sumL (szT sStream) [((f.1, 0, []) : TS)] = 0 := rfl
      rw [g3, g4, List.length_append] at g1
      rw [szW, szW w]
      simp only [withFlow, List.length_append, List.length_singleton] at g1 ⊢
      omega
end Go.Proofs.YtekefiglklmgnaaGreat.World
namespace Go.Proofs.YtekefiglklmgnaaGreat.World
open Go Go.V Go.Proofs
set_option linter.unusedVariables false
set_option linter.unusedSimpArgs false
set_option maxRecDepth 100000
set_option maxHeartbeats 4000000
theorem lFnExactStepFlow (w : TW) (f : Int × Int × Int × Int) (hr : rowsLe 140737488351232 sLWorld w) : ∃ k, FlFnExactStepFlow k w f = some true := by
  refine ⟨3 * szT sLWorld w + 20000, ?_⟩
  rw [elFnExactStepFlow, zlszWorld _ w 1048576 hr (by omega) (by omega) (by omega), Option.bind_some]
  by_cases hz : szT sLWorld w ≤ 1048576
  · rw [szR_pos (by omega), if_neg (by simp; omega)]
    have e60 : szT sWorld w = szT sLWorld w := rfl
    have hrow := rows_le sWorld w (szT sLWorld w) (Nat.le_of_eq e60)
    obtain ⟨r, b, hs, hi, hsz⟩ := stepStepFlow (3 * szT sLWorld w + 19999) w f hrow (by omega) (by omega)
    have tw := tltoWorld (3 * szT sLWorld w + 19999) w hz (by omega)
    have t0 := tltoFlow (3 * szT sLWorld w + 19999) f (by simp [szT, szTL]) (by simp [szT, szTL])
    have qw := qleqWorld (3 * szT sLWorld w + 19999) w (by rw [e60]; omega) (by rw [e60]; omega)
    have qr := qleqWorld (3 * szT sLWorld w + 19999) r (by omega) (by omega)
    have mw := mlmarkWorld (3 * szT sLWorld w + 19999) w 1 (by omega) (by rw [e60]; omega) (by rw [e60]; omega) (by rw [e60]; omega)
    have mr := mlmarkWorld (3 * szT sLWorld w + 19999) r 1 (by omega) (by omega) (by omega) (by omega)
    have hh := hlheldWorld (3 * szT sLWorld w + 19999) r 1 (by omega) (by omega) (by omega) (by omega)
    have nW : decide ((mkT sWorld w 1).2 < 0) = false := by have := mkT_le sWorld w 1 rfl; rw [decide_eq_false]; omega
    have nR : decide ((mkT sWorld r 1).2 < 0) = false := by have := mkT_le sWorld r 1 rfl; rw [decide_eq_false]; omega
    refine (bs tw).trans ?_
    refine (bs t0).trans ?_
    refine (bs hs).trans ?_
    refine (bs tw).trans ?_
    refine (bs t0).trans ?_
    refine (bs hi).trans ?_
    refine (bs qr).trans ?_
    refine (if_pos rfl).trans ?_
    refine (if_neg (by simp)).trans ?_
    refine (bs tw).trans ?_
    refine (bs qw).trans ?_
    refine (if_neg (by decide)).trans ?_
    refine (bs mw).trans ?_
    refine (if_pos (show ((decide ((mkT sWorld w 1).2 < 0)) == false) = true by rw [nW]; rfl)).trans ?_
    refine (bs qr).trans ?_
    refine (if_pos rfl).trans ?_
    refine (if_neg (by simp)).trans ?_
    refine (bs mr).trans ?_
    refine (bs hh).trans ?_
    refine (if_neg (by rw [nR]; decide)).trans ?_
    refine (if_neg (by simp)).trans ?_
    refine (bs tw).trans ?_
    refine (bs t0).trans ?_
    refine (bs hi).trans ?_
    refine (bs qr).trans ?_
    refine (if_pos rfl).trans ?_
    refine (if_neg (by simp)).trans ?_
    refine (bs hh).trans ?_
    refine (if_neg (by rw [nR]; decide)).trans ?_
    refine (if_neg (by simp)).trans ?_
    rfl
  · rw [szR_neg (by omega), if_pos (by decide)]
end Go.Proofs.YtekefiglklmgnaaGreat.World
namespace Go.Proofs.YtekefiglklmgnaaGreat.World
open Go Go.V Go.Proofs
open Go.ChangeShapes Go.WideShapes Go.ChangeAt Go.RowKit
set_option linter.unusedVariables false
set_option maxRecDepth 100000
theorem tyOk : ∀ t i, E.ty t = some i → TyOk E.P t i := by
  intro t i h
  replace h : ty t = some i := h
  unfold ty at h
  split at h <;> first | (cases h; done) | (cases h; exact ⟨by kernel_rfl, by kernel_rfl⟩)
theorem fn0Ok : ∀ f F, fn0 f = some F → E.P.funcs[f]? = some F ∧ F.name ≠ "runtime.NumGoroutine" ∧ ∀ c, F.body = some c → codeOk c = true := by
  intro f F h
  unfold fn0 at h
  split at h <;> first | (cases h; done) | (cases h; exact ⟨by kernel_rfl, of_decide_eq_true (by kernel_rfl), fun c hc => by cases hc; kernel_rfl⟩)
theorem fn1Ok : ∀ f F, fn1 f = some F → E.P.funcs[f]? = some F ∧ F.name ≠ "runtime.NumGoroutine" ∧ ∀ c, F.body = some c → codeOk c = true := by
  intro f F h
  unfold fn1 at h
  split at h <;> first | (cases h; done) | (cases h; exact ⟨by kernel_rfl, of_decide_eq_true (by kernel_rfl), fun c hc => by cases hc; kernel_rfl⟩)
theorem fn2Ok : ∀ f F, fn2 f = some F → E.P.funcs[f]? = some F ∧ F.name ≠ "runtime.NumGoroutine" ∧ ∀ c, F.body = some c → codeOk c = true := by
  intro f F h
  unfold fn2 at h
  split at h <;> first | (cases h; done) | (cases h; exact ⟨by kernel_rfl, of_decide_eq_true (by kernel_rfl), fun c hc => by cases hc; kernel_rfl⟩)
theorem fnOk : ∀ f F, E.fn f = some F → E.P.funcs[f]? = some F ∧ F.name ≠ "runtime.NumGoroutine" ∧ ∀ c, F.body = some c → codeOk c = true := by
  intro f F h
  replace h : fn f = some F := h
  unfold fn at h
  split at h
  · rename_i F' hF
    rw [← Option.some.inj h]
    exact fn0Ok f F' hF
  split at h
  · rename_i F' hF
    rw [← Option.some.inj h]
    exact fn1Ok f F' hF
  exact fn2Ok f F h
theorem envOk : EnvOk E := ⟨tyOk, fun f F h => (fnOk f F h).1, fun f F h => (fnOk f F h).2.1, by kernel_rfl⟩
theorem sound (k : Nat) : CallOk E (den E k) := den_sound envOk (fun f F c h => (fnOk f F h).2.2 c) (fun f g h => by cases h) k
end Go.Proofs.YtekefiglklmgnaaGreat.World
namespace Go.Proofs.YtekefiglklmgnaaGreat.World
open Go Go.V Go.Proofs
open Go.ChangeShapes Go.WideShapes Go.ChangeAt Go.RowKit
set_option linter.unusedVariables false
set_option maxRecDepth 100000
theorem walk5 {k : Nat} {y0 : TW} {y1 : Int × Int × Int × Int} (h : FlFnExactStepFlow k y0 y1 = some true) {W : World} {v0 v1 : Value} (h0 : VA W (fun _ => True) (fun _ => undef) (argAV sLWorld y0) v0) (l0 : (argAV sLWorld y0).lt 0) (h1 : VA W (fun _ => True) (fun _ => undef) (argAV sI4 y1) v1) (l1 : (argAV sI4 y1).lt 0) :
    Calls Tryz.prog 5 #[v0, v1] W fun e W' => e = .returned (.bool true) ∧ Go.RowKit.Below W.heap.size W W' := by
  have hs := (sound k) 5 [argAV sLWorld y0, argAV sI4 y1] true h
  refine (hs.2 (fun _ => True) W [v0, v1] [] (fun p hp => absurd (show p ∈ ([] : List (Nat × Array Value)) from hp) (by simp)) (by
    show ArgsT W (fun _ => True) [] _ _ []
    exact ⟨⟨h0, h1, trivial⟩, by intro x hx; simp at hx; rcases hx with rfl | rfl; exact l0; exact l1, rfl⟩) List.nodup_nil (by simp)).mono ?_
  rintro e W' ⟨v, rfl, hb, hr⟩
  exact ⟨by rw [resOk_bool hr], Chg.below hb⟩
theorem own : ownKnob Tryz.prog.godebug = none := by kernel_rfl
theorem lifted (os : Os) (started : os.Started) (H : Type) (enc : TypeId × Value → H) :
    ReturnsInHanded {} Tryz.checked os 5 .any (YtekefiglklmgnaaGreat.Rows.fnExactStepFlowSpec.pre6 enc Tryz.prog Tryz.f5 YtekefiglklmgnaaGreat.Rows.fnExactStepFlowRow.domain false) (YtekefiglklmgnaaGreat.Rows.fnExactStepFlowSpec.post enc Tryz.prog Tryz.f5 false true false false) := by
  refine returnsInHanded_of_change_sized (C := Tryz.checked) own started (by kernel_rfl) Tryz.func5
    (ChangeSpec.witness6 (enc := enc) (C := Tryz.checked) false ⟨#[], #[.agg #[(.int .i64 0), (.slice none 0 0), (.slice none 0 0), (.int .i64 0), (.int .i64 0), (.int .i64 0), (.int .i64 0), (.int .i64 0), (.slice none 0 0), (.int .i64 0), (.int .i64 0), (.int .i64 0), (.int .i64 0), (.slice none 0 0), (.slice none 0 0), (.slice none 0 0), (.slice none 0 0), (.slice none 0 0), (.slice none 0 0), (.slice none 0 0), (.slice none 0 0), (.slice none 0 0), (.int .i64 0), (.int .i64 0), (.slice none 0 0), (.slice none 0 0)], .agg #[(.int .i64 0), (.int .i64 0), (.int .i64 0), (.int .i64 0)]], []⟩ 8 (by kernel_rfl) (by kernel_rfl) (by kernel_rfl) (by kernel_rfl)) ?_
  intro W base args ds gs before hval0 hW hcnd hsz0 _
  have hsz : (DataW.weightsEach Tryz.prog (Tryz.f5.params.toList ++ YtekefiglklmgnaaGreat.Rows.fnExactStepFlowSpec.plain.varTypes Tryz.prog) (ds ++ gs)).all (· ≤ reachBytes) = true := hsz0
  have hval : ∀ (j : Nat) t v, Tryz.f5.params[j]? = some t → args[j]? = some v → Value.okWide Tryz.prog W .any base t v := hval0
  have hW' := hW
  obtain ⟨p, q, hA0, hV, rfl, hfz, hnd⟩ := hW
  have hA : DataW.TrodAll enc Tryz.prog W 0 (fun _ => true) true Tryz.f5.params.toList args.toList ds p := hA0
  have hAA := hA
  rw [Tryz.params5] at hA hval hsz
  obtain ⟨v0, vs0, d0, ds0, p0, q0, hargs, rfl, rfl, h0, r0⟩ := trodAll_cons hA
  obtain ⟨v1, vs1, d1, ds1, p1, q1, rfl, rfl, rfl, h1, r1⟩ := trodAll_cons r0
  obtain ⟨rfl, rfl, rfl⟩ := trodAll_nil r1
  obtain rfl : args = #[v0, v1] := by cases args; simp_all
  obtain ⟨rfl, rfl⟩ := trodVars_none hV
  have hwt0 : ∀ n ∈ d0.weights Tryz.prog 41, n ≤ reachBytes := by
    intro n hn
    have := List.all_eq_true.1 hsz n (by simp [DataW.weightsEach, hn])
    simpa using this
  have hwt1 : ∀ n ∈ d1.weights Tryz.prog 74, n ≤ reachBytes := by
    intro n hn
    have := List.all_eq_true.1 hsz n (by simp [DataW.weightsEach, hn])
    simpa using this
  obtain ⟨y0, a0, b0, w0⟩ := arg_VA (sh := sLWorld) (by kernel_rfl) (hval 0 41 v0 rfl rfl) h0 hwt0
  obtain ⟨y1, a1, b1, w1⟩ := arg_VA (sh := sI4) (by kernel_rfl) (hval 1 74 v1 rfl rfl) h1 hwt1
  obtain ⟨k, hk⟩ := lFnExactStepFlow y0 y1 (rows_wf (P := Tryz.prog) sLWorld y0 (by kernel_rfl) w0)
  have hlt : ∀ x ∈ p0 ++ (p1 ++ []), x.block < W.heap.size := fun x hx => hW'.lt x (by simpa using hx)
  refine (walk5 hk a0 b0 a1 b1).mono fun e W' ⟨he, bel⟩ => ?_
  subst he
  exact ⟨_, rfl, _, _, _, [], _, [], hW', trodAll_mk1 (shut_bool Tryz.underlying4 _), below_trodAll (by kernel_rfl) bel _ _ _ _ (by kernel_rfl) hAA hlt, rfl, bel.frame _, fun h => by cases h⟩
theorem facts_of {P : Program} {f : FuncId} {fn : Func} {s : ChangeSpec} {c : OpenClaim} (k1 : (c.wf (OpenSpec.ofChange s)) = true) (k2 : (laidOutB P) = true) (k3 : (mapsRowed P) = true) (k4 : (fn.params.all (P.readableRec ·)) = true) (k5 : (namedTie P c.named s.vars) = true) (k6 : ((c.stops == [])) = true) (k7 : ((P.stops == [])) = true) (k8 : ((c.knobs == [])) = true) (k9 : ((P.stopKnobs == [])) = true) (k10 : ((c.inPlace == P.inPlace f)) = true) (k11 : ((c.unfollowed == P.unfollowed f)) = true) (k12 : ((c.recurses == P.recurses f)) = true) (k13 : ((c.named == P.varsNamed f)) = true) (k14 : ((c.maps == (fn.params.toList ++ s.plain.varTypes P).any (P.mapsRec ·))) = true) (k15 : ((c.ifaces == (fn.params.toList ++ s.plain.varTypes P).any (P.ifacesRec ·))) = true) (k16 : ((c.mapsOut == P.mapsAmong fn.resultTypes.toList)) = true) (k17 : ((c.loops == (fn.params.toList ++ s.plain.varTypes P).any (P.loopsFrom ·))) = true) (k18 : ((c.wideKeys == (fn.params.toList ++ s.plain.varTypes P ++ fn.resultTypes.toList).any (P.wideKeysFrom ·))) = true) (k19 : (s.vars.all (P.varReadable ·)) = true) (k20 : (fn.resultTypes.all (fun t => P.readableRec t && decide (t < P.types.size))) = true) (k21 : ((c.ifacesOut == fn.resultTypes.toList.any (P.ifacesRec ·))) = true) (k22 : ((c.loopsOut == fn.resultTypes.toList.any (P.loopsFrom ·))) = true) (k23 : ((c.plainKeys == P.plainKeys)) = true) (k24 : (c.shortTexts.isNone) = true) (k25 : (P.stopsHeard) = true) (k26 : (P.mayEnter) = true) (k27 : ((c.lifted == P.liftsFinal)) = true) (k28 : ((P.make == some c.make)) = true) (k29 : ((c.kinds == (if c.domain.isEmpty then [] else fn.params.toList.map fun t => match P.underlying t with | some (.int k) => some k | _ => none))) = true) (k30 : ((c.pinned == c.pinnedBy)) = true) (k31 : ((c.veiled == (fn.params.toList ++ s.plain.varTypes P ++ fn.resultTypes.toList).any (P.veiledRec ·))) = true) (k32 : (c.veiledFits P fn.params.toList (fn.params.toList ++ s.plain.varTypes P ++ fn.resultTypes.toList)) = true) : joinedFacts P f fn s c = true := by
  unfold joinedFacts
  simp only [k1, k2, k3, k4, k5, k6, k7, k8, k9, k10, k11, k12, k13, k14, k15, k16, k17, k18, k19, k20, k21, k22, k23, k24, k25, k26, k27, k28, k30, k31, k32, Bool.and_true, Bool.true_and]
  exact k29
theorem k1 : (YtekefiglklmgnaaGreat.Rows.fnExactStepFlowRow.wf (OpenSpec.ofChange YtekefiglklmgnaaGreat.Rows.fnExactStepFlowSpec)) = true := by kernel_rfl
theorem k2 : (laidOutB Tryz.checked.prog) = true := by kernel_rfl
theorem k3 : (mapsRowed Tryz.checked.prog) = true := by kernel_rfl
theorem k4 : (Tryz.f5.params.all (Tryz.checked.prog.readableRec ·)) = true := by kernel_rfl
theorem k5 : (namedTie Tryz.checked.prog YtekefiglklmgnaaGreat.Rows.fnExactStepFlowRow.named YtekefiglklmgnaaGreat.Rows.fnExactStepFlowSpec.vars) = true := by kernel_rfl
theorem k6 : ((YtekefiglklmgnaaGreat.Rows.fnExactStepFlowRow.stops == [])) = true := by kernel_rfl
theorem k7 : ((Tryz.checked.prog.stops == [])) = true := by kernel_rfl
theorem k8 : ((YtekefiglklmgnaaGreat.Rows.fnExactStepFlowRow.knobs == [])) = true := by kernel_rfl
theorem k9 : ((Tryz.checked.prog.stopKnobs == [])) = true := by kernel_rfl
theorem k10 : ((YtekefiglklmgnaaGreat.Rows.fnExactStepFlowRow.inPlace == Tryz.checked.prog.inPlace 5)) = true := by kernel_rfl
theorem k11 : ((YtekefiglklmgnaaGreat.Rows.fnExactStepFlowRow.unfollowed == Tryz.checked.prog.unfollowed 5)) = true := by kernel_rfl
theorem k12 : ((YtekefiglklmgnaaGreat.Rows.fnExactStepFlowRow.recurses == Tryz.checked.prog.recurses 5)) = true := by kernel_rfl
theorem k13 : ((YtekefiglklmgnaaGreat.Rows.fnExactStepFlowRow.named == Tryz.checked.prog.varsNamed 5)) = true := by kernel_rfl
theorem k14 : ((YtekefiglklmgnaaGreat.Rows.fnExactStepFlowRow.maps == (Tryz.f5.params.toList ++ YtekefiglklmgnaaGreat.Rows.fnExactStepFlowSpec.plain.varTypes Tryz.checked.prog).any (Tryz.checked.prog.mapsRec ·))) = true := by kernel_rfl
theorem k15 : ((YtekefiglklmgnaaGreat.Rows.fnExactStepFlowRow.ifaces == (Tryz.f5.params.toList ++ YtekefiglklmgnaaGreat.Rows.fnExactStepFlowSpec.plain.varTypes Tryz.checked.prog).any (Tryz.checked.prog.ifacesRec ·))) = true := by kernel_rfl
theorem k16 : ((YtekefiglklmgnaaGreat.Rows.fnExactStepFlowRow.mapsOut == Tryz.checked.prog.mapsAmong Tryz.f5.resultTypes.toList)) = true := by kernel_rfl
theorem k17 : ((YtekefiglklmgnaaGreat.Rows.fnExactStepFlowRow.loops == (Tryz.f5.params.toList ++ YtekefiglklmgnaaGreat.Rows.fnExactStepFlowSpec.plain.varTypes Tryz.checked.prog).any (Tryz.checked.prog.loopsFrom ·))) = true := by kernel_rfl
theorem k18 : ((YtekefiglklmgnaaGreat.Rows.fnExactStepFlowRow.wideKeys == (Tryz.f5.params.toList ++ YtekefiglklmgnaaGreat.Rows.fnExactStepFlowSpec.plain.varTypes Tryz.checked.prog ++ Tryz.f5.resultTypes.toList).any (Tryz.checked.prog.wideKeysFrom ·))) = true := by kernel_rfl
theorem k19 : (YtekefiglklmgnaaGreat.Rows.fnExactStepFlowSpec.vars.all (Tryz.checked.prog.varReadable ·)) = true := by kernel_rfl
theorem k20 : (Tryz.f5.resultTypes.all (fun t => Tryz.checked.prog.readableRec t && decide (t < Tryz.checked.prog.types.size))) = true := by kernel_rfl
theorem k21 : ((YtekefiglklmgnaaGreat.Rows.fnExactStepFlowRow.ifacesOut == Tryz.f5.resultTypes.toList.any (Tryz.checked.prog.ifacesRec ·))) = true := by kernel_rfl
theorem k22 : ((YtekefiglklmgnaaGreat.Rows.fnExactStepFlowRow.loopsOut == Tryz.f5.resultTypes.toList.any (Tryz.checked.prog.loopsFrom ·))) = true := by kernel_rfl
theorem k23 : ((YtekefiglklmgnaaGreat.Rows.fnExactStepFlowRow.plainKeys == Tryz.checked.prog.plainKeys)) = true := by kernel_rfl
theorem k24 : (YtekefiglklmgnaaGreat.Rows.fnExactStepFlowRow.shortTexts.isNone) = true := by kernel_rfl
theorem k25 : (Tryz.checked.prog.stopsHeard) = true := by kernel_rfl
theorem k26 : (Tryz.checked.prog.mayEnter) = true := by kernel_rfl
theorem k27 : ((YtekefiglklmgnaaGreat.Rows.fnExactStepFlowRow.lifted == Tryz.checked.prog.liftsFinal)) = true := by kernel_rfl
theorem k28 : ((Tryz.checked.prog.make == some YtekefiglklmgnaaGreat.Rows.fnExactStepFlowRow.make)) = true := by kernel_rfl
theorem k29 : ((YtekefiglklmgnaaGreat.Rows.fnExactStepFlowRow.kinds == (if YtekefiglklmgnaaGreat.Rows.fnExactStepFlowRow.domain.isEmpty then [] else Tryz.f5.params.toList.map fun t => match Tryz.checked.prog.underlying t with | some (.int k) => some k | _ => none))) = true := by kernel_rfl
theorem k30 : ((YtekefiglklmgnaaGreat.Rows.fnExactStepFlowRow.pinned == YtekefiglklmgnaaGreat.Rows.fnExactStepFlowRow.pinnedBy)) = true := by kernel_rfl
theorem k31 : ((YtekefiglklmgnaaGreat.Rows.fnExactStepFlowRow.veiled == (Tryz.f5.params.toList ++ YtekefiglklmgnaaGreat.Rows.fnExactStepFlowSpec.plain.varTypes Tryz.checked.prog ++ Tryz.f5.resultTypes.toList).any (Tryz.checked.prog.veiledRec ·))) = true := by kernel_rfl
theorem k32 : (YtekefiglklmgnaaGreat.Rows.fnExactStepFlowRow.veiledFits Tryz.checked.prog Tryz.f5.params.toList (Tryz.f5.params.toList ++ YtekefiglklmgnaaGreat.Rows.fnExactStepFlowSpec.plain.varTypes Tryz.checked.prog ++ Tryz.f5.resultTypes.toList)) = true := by kernel_rfl
theorem k0 : YtekefiglklmgnaaGreat.Tryz.pinned.checked.prog.funcNamed YtekefiglklmgnaaGreat.Rows.fnExactStepFlowRow.func = some 5 := by kernel_rfl
theorem wrapper : Tryz.f5.isWrapper Tryz.checked.prog YtekefiglklmgnaaGreat.Rows.fnExactStepFlowRow.wrapper YtekefiglklmgnaaGreat.Rows.fnExactStepFlowRow.mainSum := by
  unfold Func.isWrapper
  first | (rw [if_pos (by decide +kernel)]; kernel_rfl) | (rw [if_neg (by decide +kernel)]; exact ⟨rfl, rfl⟩)
theorem facts : joinedFacts YtekefiglklmgnaaGreat.Tryz.pinned.checked.prog 5 Tryz.f5 YtekefiglklmgnaaGreat.Rows.fnExactStepFlowSpec YtekefiglklmgnaaGreat.Rows.fnExactStepFlowRow = true := facts_of k1 k2 k3 k4 k5 k6 k7 k8 k9 k10 k11 k12 k13 k14 k15 k16 k17 k18 k19 k20 k21 k22 k23 k24 k25 k26 k27 k28 k29 k30 k31 k32
theorem over : YtekefiglklmgnaaGreat.Rows.fnExactStepFlowRow.holds YtekefiglklmgnaaGreat.Tryz.pinned (OpenSpec.ofChange YtekefiglklmgnaaGreat.Rows.fnExactStepFlowSpec) :=
  OpenClaim.holds_of_wide 5 Tryz.f5 rfl rfl rfl rfl rfl rfl rfl ⟨rfl, rfl, rfl, rfl, rfl⟩ rfl rfl rfl rfl rfl k0 Tryz.func5 facts
    (of_decide_eq_true (by kernel_rfl)) wrapper
    (fun os started H enc _ => lifted os started H enc)
end Go.Proofs.YtekefiglklmgnaaGreat.World
namespace Go.Proofs.YtekefiglklmgnaaGreat
/-- The row, under a short name. -/
theorem fnExactStepFlow_holds : Rows.FnExactStepFlowSaid := World.over
end Go.Proofs.YtekefiglklmgnaaGreat
