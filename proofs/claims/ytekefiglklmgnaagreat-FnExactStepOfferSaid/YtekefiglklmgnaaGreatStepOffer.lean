/- 'laws.FnExactStepOffer' returns true for every input. No condition. -/
import Derived.Test.YtekefiglklmgnaaGreatWp
import Derived.Test.YtekefiglklmgnaaGreatRows
import Derived.Test.YtekefiglklmgnaaGreatChecked
import Derived.KernelRfl
namespace Go.Proofs.YtekefiglklmgnaaGreat.World
open Go Go.V Go.Proofs
set_option linter.unusedVariables false
set_option linter.unusedSimpArgs false
set_option maxRecDepth 100000
abbrev TW := TWorld
theorem pred {k d : Nat} (h : d + 1 ≤ k) : ∃ q, k = q + 1 := ⟨k - 1, by omega⟩
/-! ### numbers, rows -/
def isIdx (a b : Int) : Bool := decide (a ≥ 0) && decide (a < b)
def inR (n a b : Int) : Bool := decide (a ≤ n) && decide (n ≤ b)
theorem fiisIndex {k : Nat} (a b : Int) (hk : 1 ≤ k) : FiisIndex k a b = some (isIdx a b) := by
  obtain ⟨k, rfl⟩ := pred (d := 0) hk
  rw [eiisIndex]
  unfold isIdx
  cases decide (a ≥ 0) <;> rfl
theorem fiInRange {k : Nat} (n a b : Int) (hk : 1 ≤ k) : FiInRange k n a b = some (inR n a b) := by
  obtain ⟨k, rfl⟩ := pred (d := 0) hk
  rw [eiInRange]
  unfold inR
  cases decide (a ≤ n) <;> rfl
theorem inR_last {len : Nat} (n : Int) (h : len ≤ 140737488351232) : inR n 0 (IntKind.i64.wrap ((len : Int) - 1)) = isIdx n (len : Int) := by
  rw [wrap_id (by omega) (by omega)]
  unfold inR isIdx
  have e : decide (n ≤ (len : Int) - 1) = decide (n < (len : Int)) := by
    by_cases h : n < (len : Int)
    · rw [decide_eq_true h, decide_eq_true (by omega)]
    · rw [decide_eq_false h, decide_eq_false (by omega)]
  rw [e]
theorem isIdx_pos {n : Int} {len : Nat} (h : isIdx n (len : Int) = true) : 0 ≤ n ∧ n.toNat < len := by
  unfold isIdx at h
  simp only [Bool.and_eq_true, decide_eq_true_eq] at h
  omega
/-! ### copies -/
theorem fgClone_int {k : Nat} (x : List (Int)) (hl : x.length ≤ 1048576) (hk : 1 ≤ k) : FgClone_int k x = some x := by
  obtain ⟨k, rfl⟩ := pred (d := 0) hk
  rw [egClone_int, if_pos (by omega), clone_eq]
theorem fgClone_Sat {k : Nat} (x : List (Int × Int × Int × Int)) (hl : x.length ≤ 1048576) (hk : 1 ≤ k) : FgClone_Sat k x = some x := by
  obtain ⟨k, rfl⟩ := pred (d := 0) hk
  rw [egClone_Sat, if_pos (by omega), clone_eq]
theorem fgClone_Site {k : Nat} (x : List (Int × Int × Int)) (hl : x.length ≤ 1048576) (hk : 1 ≤ k) : FgClone_Site k x = some x := by
  obtain ⟨k, rfl⟩ := pred (d := 0) hk
  rw [egClone_Site, if_pos (by omega), clone_eq]
theorem fgClone_Zone {k : Nat} (x : List (Int × Int × Int)) (hl : x.length ≤ 1048576) (hk : 1 ≤ k) : FgClone_Zone k x = some x := by
  obtain ⟨k, rfl⟩ := pred (d := 0) hk
  rw [egClone_Zone, if_pos (by omega), clone_eq]
theorem fgClone_Battery {k : Nat} (x : List (Int × Int × Int × Int × Int × Int)) (hl : x.length ≤ 1048576) (hk : 1 ≤ k) : FgClone_Battery k x = some x := by
  obtain ⟨k, rfl⟩ := pred (d := 0) hk
  rw [egClone_Battery, if_pos (by omega), clone_eq]
theorem fgClone_Fault {k : Nat} (x : List (Int × Int × Int × Int)) (hl : x.length ≤ 1048576) (hk : 1 ≤ k) : FgClone_Fault k x = some x := by
  obtain ⟨k, rfl⟩ := pred (d := 0) hk
  rw [egClone_Fault, if_pos (by omega), clone_eq]
theorem fgClone_Flow {k : Nat} (x : List (Int × Int × Int × Int)) (hl : x.length ≤ 1048576) (hk : 1 ≤ k) : FgClone_Flow k x = some x := by
  obtain ⟨k, rfl⟩ := pred (d := 0) hk
  rw [egClone_Flow, if_pos (by omega), clone_eq]
theorem fgClone_Link {k : Nat} (x : List (Int × Int)) (hl : x.length ≤ 1048576) (hk : 1 ≤ k) : FgClone_Link k x = some x := by
  obtain ⟨k, rfl⟩ := pred (d := 0) hk
  rw [egClone_Link, if_pos (by omega), clone_eq]
theorem fgClone_Packet {k : Nat} (x : List (Int × Int × Int × Int × Int × Int)) (hl : x.length ≤ 1048576) (hk : 1 ≤ k) : FgClone_Packet k x = some x := by
  obtain ⟨k, rfl⟩ := pred (d := 0) hk
  rw [egClone_Packet, if_pos (by omega), clone_eq]
theorem fgClone_Sent {k : Nat} (x : List (Int × Int × Int × Int)) (hl : x.length ≤ 1048576) (hk : 1 ≤ k) : FgClone_Sent k x = some x := by
  obtain ⟨k, rfl⟩ := pred (d := 0) hk
  rw [egClone_Sent, if_pos (by omega), clone_eq]
theorem ficloneQueue {k : Nat} (x : List (Int × Int × Int × Int × Int × Int)) (hl : x.length ≤ 1048576) (hk : 2 ≤ k) : FicloneQueue k x = some x := by
  obtain ⟨k, rfl⟩ := pred (d := 1) hk
  rw [eicloneQueue, fgClone_Packet x hl (by omega), Option.bind_some]
theorem ficloneLinks {k : Nat} (x : List (Int × Int)) (hl : x.length ≤ 1048576) (hk : 2 ≤ k) : FicloneLinks k x = some x := by
  obtain ⟨k, rfl⟩ := pred (d := 1) hk
  rw [eicloneLinks, fgClone_Link x hl (by omega), Option.bind_some]
theorem ficloneStream {k : Nat} (x : Int × Int × List Int) (hl : x.2.2.length ≤ 1048576) (hk : 2 ≤ k) : FicloneStream k x = some x := by
  obtain ⟨k, rfl⟩ := pred (d := 1) hk
  rw [eicloneStream, fgClone_int _ hl (by omega), Option.bind_some]
theorem ficloneTable {k : Nat} (x : Int × (List Int) × List Int) (h1 : x.2.1.length ≤ 1048576) (h2 : x.2.2.length ≤ 1048576) (hk : 2 ≤ k) : FicloneTable k x = some x := by
  obtain ⟨k, rfl⟩ := pred (d := 1) hk
  rw [eicloneTable, fgClone_int _ h1 (by omega), Option.bind_some, fgClone_int _ h2 (by omega), Option.bind_some]
theorem fsl15Copy {k : Nat} (x : Int × (List Int) × List Int) (h1 : x.2.1.length ≤ 1048576) (h2 : x.2.2.length ≤ 1048576) (hk : 1 ≤ k) : Fsl15Copy k x = some x := by
  obtain ⟨k, rfl⟩ := pred (d := 0) hk
  rw [esl15Copy, if_pos (by omega), if_pos (by omega)]
theorem fsl24Copy {k : Nat} (x : List (Int × Int × Int × Int × Int × Int)) (hl : x.length ≤ 1048576) (hk : 1 ≤ k) : Fsl24Copy k x = some x := by
  obtain ⟨k, rfl⟩ := pred (d := 0) hk
  rw [esl24Copy, if_pos (by omega)]
theorem fsl25Copy {k : Nat} (x : Int × Int × List Int) (hl : x.2.2.length ≤ 1048576) (hk : 1 ≤ k) : Fsl25Copy k x = some x := by
  obtain ⟨k, rfl⟩ := pred (d := 0) hk
  rw [esl25Copy, if_pos (by omega)]
theorem ficloneSky {k N : Nat} (s : TSky) (hr : rowsLe N sSky s) (hN : N ≤ 1048576) (hk : 2 ≤ k) : FicloneSky k s = some s := by
  obtain ⟨k, rfl⟩ := pred (d := 1) hk
  have h1 : s.2.1.length ≤ N := (rowsLe_row hr.2.1).1
  have h2 : s.2.2.1.length ≤ N := (rowsLe_row hr.2.2.1).1
  have h3 : s.2.2.2.2.2.2.2.2.1.length ≤ N := (rowsLe_row hr.2.2.2.2.2.2.2.2.1).1
  rw [eicloneSky, fgClone_Sat _ (by omega) (by omega), Option.bind_some, fgClone_Site _ (by omega) (by omega), Option.bind_some, fgClone_Zone _ (by omega) (by omega), Option.bind_some]
theorem fsl33Sky {k N : Nat} (s : TSky) (hr : rowsLe N sSky s) (hN : N ≤ 1048576) (hk : 1 ≤ k) : Fsl33Sky k s = some s := by
  obtain ⟨k, rfl⟩ := pred (d := 0) hk
  have h1 : s.2.1.length ≤ N := (rowsLe_row hr.2.1).1
  have h2 : s.2.2.1.length ≤ N := (rowsLe_row hr.2.2.1).1
  have h3 : s.2.2.2.2.2.2.2.2.1.length ≤ N := (rowsLe_row hr.2.2.2.2.2.2.2.2.1).1
  rw [esl33Sky, if_pos (by omega), if_pos (by omega), if_pos (by omega)]
theorem ficloneProgram {k N : Nat} (p : TProgram) (hr : rowsLe N sProgram p) (hN : N ≤ 1048576) (hk : N + 4 ≤ k) : FicloneProgram k p = some p := by
  obtain ⟨k, rfl⟩ := pred (d := 0) (show 1 ≤ k by omega)
  obtain ⟨h1', h2⟩ := rowsLe_row hr.2.2.2
  have h1 : p.2.2.2.length ≤ N := h1'
  refine (eicloneProgram k p).trans (take_loop (L := LicloneProgram_0 k _ _) (a := p.2.2.2) (fun n i h h0 ht hd hw hlen => ?_) (fun n hd => ?_) (by omega) (by omega))
  · refine (if_pos hd).trans ((if_pos h0).trans ?_)
    have hx := h2 _ (List.getElem_mem h)
    have g1 : (p.2.2.2[i]).2.1.length ≤ N := (rowsLe_row hx.2.1).1
    obtain ⟨g2', g3⟩ := rowsLe_row hx.2.2
    have g2 : (p.2.2.2[i]).2.2.length ≤ N := g2'
    dsimp only
    rw [ht, ix_at h, ficloneLinks _ (by omega) (by omega), Option.bind_some]
    refine take_loop (L := LicloneProgram_1 k _ _) (a := (p.2.2.2[i]).2.2) (fun m j hj j0 jt jd jw jlen => ?_) (fun m jd => ?_) (by omega) (by omega)
    · refine (if_pos jd).trans ((if_pos j0).trans ?_)
      have hy := g3 _ (List.getElem_mem hj)
      have e1 : ((p.2.2.2[i]).2.2[j]).2.1.length ≤ N := (rowsLe_row hy.2.1).1
      have e2 : ((p.2.2.2[i]).2.2[j]).2.2.length ≤ N := (rowsLe_row hy.2.2).1
      dsimp only
      rw [jt, ix_at hj, ficloneTable _ (by omega) (by omega) (by omega), Option.bind_some, if_pos (by rw [jlen]; simp; omega), jw]
    · refine (if_neg (by rw [jd]; decide)).trans ?_
      dsimp only
      rw [if_pos (by rw [hlen]; simp; omega), hw]
  · exact (if_neg (by rw [hd]; decide))
theorem fsl17Copy {k N : Nat} (p : TProgram) (hr : rowsLe N sProgram p) (hN : N ≤ 1048576) (hk : N + 4 ≤ k) : Fsl17Copy k p = some p := by
  obtain ⟨k, rfl⟩ := pred (d := 0) (show 1 ≤ k by omega)
  obtain ⟨h1', h2⟩ := rowsLe_row hr.2.2.2
  have h1 : p.2.2.2.length ≤ N := h1'
  refine (esl17Copy k p).trans (take_loop (L := Lsl17Copy_0 k _ _) (a := p.2.2.2) (fun n i h h0 ht hd hw hlen => ?_) (fun n hd => ?_) (by omega) (by omega))
  · refine (if_pos hd).trans ((if_pos h0).trans ?_)
    have hx := h2 _ (List.getElem_mem h)
    have g1 : (p.2.2.2[i]).2.1.length ≤ N := (rowsLe_row hx.2.1).1
    obtain ⟨g2', g3⟩ := rowsLe_row hx.2.2
    have g2 : (p.2.2.2[i]).2.2.length ≤ N := g2'
    dsimp only
    rw [ht, ix_at h, if_pos h0, ix_at h, if_pos (by omega)]
    refine take_loop (L := Lsl17Copy_1 k _ _) (a := (p.2.2.2[i]).2.2) (fun m j hj j0 jt jd jw jlen => ?_) (fun m jd => ?_) (by omega) (by omega)
    · refine (show Lsl17Copy_1 k _ _ (m + 1) _ = (if (0 : Int) ≤ (i : Int) then ix p.2.2.2 (i : Int).toNat _ else none) from rfl).trans ?_
      rw [if_pos h0, ht, ix_at h]
      have hy := g3 _ (List.getElem_mem hj)
      have e1 : ((p.2.2.2[i]).2.2[j]).2.1.length ≤ N := (rowsLe_row hy.2.1).1
      have e2 : ((p.2.2.2[i]).2.2[j]).2.2.length ≤ N := (rowsLe_row hy.2.2).1
      dsimp only
      rw [if_pos jd, if_pos h0, ix_at h, if_pos j0, jt, ix_at hj, fsl15Copy _ (by omega) (by omega) (by omega), Option.bind_some, if_pos (by rw [jlen]; simp; omega), jw]
    · refine (show Lsl17Copy_1 k _ _ (m + 1) _ = (if (0 : Int) ≤ (i : Int) then ix p.2.2.2 (i : Int).toNat _ else none) from rfl).trans ?_
      rw [if_pos h0, ht, ix_at h]
      dsimp only
      rw [if_neg (by rw [jd]; decide), if_pos (by rw [hlen]; simp; omega), hw]
  · exact (if_neg (by rw [hd]; decide))
theorem ficloneWorld {k N : Nat} (w : TW) (hr : rowsLe N sWorld w) (hN : N ≤ 1048576) (hk : N + 5 ≤ k) : FicloneWorld k w = some w := by
  obtain ⟨k, rfl⟩ := pred (d := 0) (show 1 ≤ k by omega)
  obtain ⟨r1, r2, r3, r4, r5, r6, r7, r8, r9, r10, r11, r12, r13, r14⟩ := hr
  have h3 : w.2.2.1.length ≤ N := (rowsLe_row (e := 3) (sh := .i .i64) r3).1
  have h4 : w.2.2.2.1.length ≤ N := (rowsLe_row r4).1
  have h5 : w.2.2.2.2.1.length ≤ N := (rowsLe_row r5).1
  have h7 : w.2.2.2.2.2.2.1.length ≤ N := (rowsLe_row r7).1
  have h8 : w.2.2.2.2.2.2.2.1.length ≤ N := (rowsLe_row r8).1
  have h10 : w.2.2.2.2.2.2.2.2.2.1.length ≤ N := (rowsLe_row r10).1
  have h13 : w.2.2.2.2.2.2.2.2.2.2.2.2.1.length ≤ N := (rowsLe_row r13).1
  have h14 : w.2.2.2.2.2.2.2.2.2.2.2.2.2.length ≤ N := (rowsLe_row r14).1
  obtain ⟨h6', q6⟩ := rowsLe_row r6
  obtain ⟨h9', q9⟩ := rowsLe_row r9
  have h6 : w.2.2.2.2.2.1.length ≤ N := h6'
  have h9 : w.2.2.2.2.2.2.2.2.1.length ≤ N := h9'
  refine (eicloneWorld k w).trans ?_
  rw [ficloneSky w.1 r1 hN (by omega), Option.bind_some, ficloneProgram w.2.1 r2 hN (by omega), Option.bind_some, fgClone_int _ (by omega) (by omega), Option.bind_some, fgClone_int _ (by omega) (by omega), Option.bind_some, fgClone_Battery _ (by omega) (by omega), Option.bind_some,
    fgClone_Flow _ (by omega) (by omega), Option.bind_some, fgClone_int _ (by omega) (by omega), Option.bind_some, fgClone_Fault _ (by omega) (by omega), Option.bind_some, fgClone_Packet _ (by omega) (by omega), Option.bind_some, fgClone_Sent _ (by omega) (by omega), Option.bind_some]
  refine take_loop (L := LicloneWorld_0 k _ _) (a := w.2.2.2.2.2.1) (fun n i h h0 ht hd hw hlen => ?_) (fun n hd => ?_) (by omega) (by omega)
  · refine (if_pos hd).trans ((if_pos h0).trans ?_)
    have hx : (w.2.2.2.2.2.1[i]).length ≤ N := (rowsLe_row (e := 0) (sh := sI6) (q6 _ (List.getElem_mem h))).1
    dsimp only
    rw [ht, ix_at h, ficloneQueue _ (by omega) (by omega), Option.bind_some, if_pos (by rw [hlen]; simp; omega), hw]
  · refine (if_neg (by rw [hd]; decide)).trans ?_
    refine take_loop (L := LicloneWorld_1 k _ _) (a := w.2.2.2.2.2.2.2.2.1) (fun n i h h0 ht hd hw hlen => ?_) (fun n hd => ?_) (by omega) (by omega)
    · refine (if_pos hd).trans ((if_pos h0).trans ?_)
      have hx : (w.2.2.2.2.2.2.2.2.1[i]).2.2.length ≤ N := (rowsLe_row (e := 0) (sh := .i .i64) (q9 _ (List.getElem_mem h)).2.2).1
      dsimp only
      rw [ht, ix_at h, ficloneStream _ (by omega) (by omega), Option.bind_some, if_pos (by rw [hlen]; simp; omega), hw]
    · exact (if_neg (by rw [hd]; decide))
theorem fsl33Copy {k N : Nat} (w : TW) (hr : rowsLe N sWorld w) (hN : N ≤ 1048576) (hk : N + 5 ≤ k) : Fsl33Copy k w = some w := by
  obtain ⟨k, rfl⟩ := pred (d := 0) (show 1 ≤ k by omega)
  obtain ⟨r1, r2, r3, r4, r5, r6, r7, r8, r9, r10, r11, r12, r13, r14⟩ := hr
  have h3 : w.2.2.1.length ≤ N := (rowsLe_row (e := 3) (sh := .i .i64) r3).1
  have h4 : w.2.2.2.1.length ≤ N := (rowsLe_row r4).1
  have h5 : w.2.2.2.2.1.length ≤ N := (rowsLe_row r5).1
  have h7 : w.2.2.2.2.2.2.1.length ≤ N := (rowsLe_row r7).1
  have h8 : w.2.2.2.2.2.2.2.1.length ≤ N := (rowsLe_row r8).1
  have h10 : w.2.2.2.2.2.2.2.2.2.1.length ≤ N := (rowsLe_row r10).1
  have h13 : w.2.2.2.2.2.2.2.2.2.2.2.2.1.length ≤ N := (rowsLe_row r13).1
  have h14 : w.2.2.2.2.2.2.2.2.2.2.2.2.2.length ≤ N := (rowsLe_row r14).1
  obtain ⟨h6', q6⟩ := rowsLe_row r6
  obtain ⟨h9', q9⟩ := rowsLe_row r9
  have h6 : w.2.2.2.2.2.1.length ≤ N := h6'
  have h9 : w.2.2.2.2.2.2.2.2.1.length ≤ N := h9'
  refine (esl33Copy k w).trans ?_
  rw [fsl33Sky w.1 r1 hN (by omega), Option.bind_some, fsl17Copy w.2.1 r2 hN (by omega), Option.bind_some, if_pos (by omega), if_pos (by omega), if_pos (by omega)]
  refine take_loop (L := Lsl33Copy_0 k _ _) (a := w.2.2.2.2.2.1) (fun n i h h0 ht hd hw hlen => ?_) (fun n hd => ?_) (by omega) (by omega)
  · refine (if_pos hd).trans ((if_pos h0).trans ?_)
    have hx : (w.2.2.2.2.2.1[i]).length ≤ N := (rowsLe_row (e := 0) (sh := sI6) (q6 _ (List.getElem_mem h))).1
    dsimp only
    rw [ht, ix_at h, fsl24Copy _ (by omega) (by omega), Option.bind_some, if_pos (by rw [hlen]; simp; omega), hw]
  · refine (if_neg (by rw [hd]; decide)).trans ?_
    dsimp only
    rw [if_pos (by omega), if_pos (by omega)]
    refine take_loop (L := Lsl33Copy_1 k _ _) (a := w.2.2.2.2.2.2.2.2.1) (fun n i h h0 ht hd hw hlen => ?_) (fun n hd => ?_) (by omega) (by omega)
    · refine (if_pos hd).trans ((if_pos h0).trans ?_)
      have hx : (w.2.2.2.2.2.2.2.2.1[i]).2.2.length ≤ N := (rowsLe_row (e := 0) (sh := .i .i64) (q9 _ (List.getElem_mem h)).2.2).1
      dsimp only
      rw [ht, ix_at h, fsl25Copy _ (by omega) (by omega), Option.bind_some, if_pos (by rw [hlen]; simp; omega), hw]
    · refine (if_neg (by rw [hd]; decide)).trans ?_
      dsimp only
      rw [if_pos (by omega), if_pos (by omega), if_pos (by omega)]
end Go.Proofs.YtekefiglklmgnaaGreat.World
namespace Go.Proofs.YtekefiglklmgnaaGreat.World
open Go Go.V Go.Proofs
set_option linter.unusedVariables false
set_option linter.unusedSimpArgs false
set_option maxRecDepth 100000
set_option maxHeartbeats 4000000
theorem bs {α β : Type} {o : Option α} {v : α} {f : α → Option β} (h : o = some v) : o.bind f = f v := by rw [h]; rfl
/-- A world's size. -/
theorem szW (w : TW) : szT sWorld w = szT sSky w.1 + (szT sProgram w.2.1 + (szT sLaw w.2.2.1 + (w.2.2.2.1.length + (w.2.2.2.2.1.length + (szT (.l 0 sQueue) w.2.2.2.2.2.1 + (w.2.2.2.2.2.2.1.length + (w.2.2.2.2.2.2.2.1.length + (szT (.l 0 sStream) w.2.2.2.2.2.2.2.2.1 + (w.2.2.2.2.2.2.2.2.2.1.length + (0 + (0 + (w.2.2.2.2.2.2.2.2.2.2.2.2.1.length + w.2.2.2.2.2.2.2.2.2.2.2.2.2.length)))))))))))) := by
  have h : szT sWorld w = szT sSky w.1 + (szT sProgram w.2.1 + (szT sLaw w.2.2.1 + (szT (.l 0 (.i .i64)) w.2.2.2.1 + (szT (.l 0 sI6) w.2.2.2.2.1 + (szT (.l 0 sQueue) w.2.2.2.2.2.1 + (szT (.l 0 sI4) w.2.2.2.2.2.2.1 + (szT (.l 0 (.i .i64)) w.2.2.2.2.2.2.2.1 + (szT (.l 0 sStream) w.2.2.2.2.2.2.2.2.1 + (szT (.l 0 sI4) w.2.2.2.2.2.2.2.2.2.1 + (0 + (0 + (szT (.l 0 sI6) w.2.2.2.2.2.2.2.2.2.2.2.2.1 + szT (.l 0 sI4) w.2.2.2.2.2.2.2.2.2.2.2.2.2)))))))))))) := rfl
  have f1 (xs : List Int) : szT (.l 0 (.i .i64)) xs = xs.length := szT_row (e := 0) (sh := .i .i64) rfl xs
  have f4 (xs : List (Int × Int × Int × Int)) : szT (.l 0 sI4) xs = xs.length := szT_row (e := 0) (sh := sI4) rfl xs
  have f6 (xs : List (Int × Int × Int × Int × Int × Int)) : szT (.l 0 sI6) xs = xs.length := szT_row (e := 0) (sh := sI6) rfl xs
  rw [h, f1, f1, f4, f4, f4, f6, f6]
theorem num64 {n : Int} (h : Go.V.inR .i64 n) : -9223372036854775808 ≤ n ∧ n ≤ 9223372036854775807 := by
  have e1 : IntKind.i64.min = -9223372036854775808 := by decide
  have e2 : IntKind.i64.max = 9223372036854775807 := by decide
  rw [← e1, ← e2]
  exact h
end Go.Proofs.YtekefiglklmgnaaGreat.World
namespace Go.Proofs.YtekefiglklmgnaaGreat.World
open Go Go.V Go.Proofs
set_option linter.unusedVariables false
set_option linter.unusedSimpArgs false
set_option maxRecDepth 100000
set_option maxHeartbeats 4000000
theorem fsl1In {k : Nat} (n a b : Int) (hk : 1 ≤ k) : Fsl1In k n a b = some (inR n a b) := by
  obtain ⟨k, rfl⟩ := pred (d := 0) hk
  rw [esl1In]
  unfold inR
  show (if ((decide (a ≤ n)) == true) = true then _ else _) = _
  cases decide (a ≤ n) <;> rfl
end Go.Proofs.YtekefiglklmgnaaGreat.World
namespace Go.Proofs.YtekefiglklmgnaaGreat.World
open Go Go.V Go.Proofs
set_option linter.unusedVariables false
set_option linter.unusedSimpArgs false
set_option maxRecDepth 100000
set_option maxHeartbeats 4000000
/-! ### StepOffer -/
theorem findFrom_at {α : Type} (p : α → Bool) : ∀ (l : List α) (i : Nat), 0 ≤ findFrom p i l → ∃ (j : Nat) (x : α), findFrom p i l = ((i + j : Nat) : Int) ∧ l[j]? = some x ∧ p x = true
  | [], i, h => by simp [findFrom] at h
  | x :: r, i, h => by
    unfold findFrom at h ⊢
    by_cases hp : p x = true
    · rw [if_pos hp]
      exact ⟨0, x, by simp, by simp, hp⟩
    · rw [if_neg hp] at h ⊢
      obtain ⟨j, y, h1, h2, h3⟩ := findFrom_at p r (i + 1) h
      exact ⟨j + 1, y, by rw [h1]; congr 1; omega, by simpa using h2, h3⟩
def flowIdx (l : List (Int × Int × Int × Int)) (id : Int) : Int := findFrom (fun x => x.1 == id) 0 l
theorem fsl33Flow {k : Nat} (w : TW) (id : Int) (hl : w.2.2.2.2.2.2.1.length ≤ 1048576) (hk : w.2.2.2.2.2.2.1.length + 2 ≤ k) : Fsl33Flow k w id = some (flowIdx w.2.2.2.2.2.2.1 id) := by
  obtain ⟨k, rfl⟩ := pred (d := 0) (show 1 ≤ k by omega)
  refine (esl33Flow k w id).trans (row_i (L := Lsl33Flow_0 k _ _ _) (a := w.2.2.2.2.2.2.1) (fun i l => some (findFrom (fun x => x.1 == id) i l)) (fun _ _ => rfl) (by omega) rfl (fun n i x r h0 ht hw hi hx ih => ?_) (by omega))
  show (if (x.1 == id) = true then some (i : Int) else _) = _
  rw [hw, ih]
  show _ = some (if (x.1 == id) = true then (i : Int) else findFrom (fun x => x.1 == id) (i + 1) r)
  by_cases h : (x.1 == id) = true
  · rw [if_pos h, if_pos h]
  · rw [if_neg h, if_neg h]
theorem fiflowAt {k : Nat} (w : TW) (id : Int) (hl : w.2.2.2.2.2.2.1.length ≤ 1048576) (hk : w.2.2.2.2.2.2.1.length + 4 ≤ k) : FiflowAt k w id = some (flowIdx w.2.2.2.2.2.2.1 id) := by
  obtain ⟨k, rfl⟩ := pred (d := 1) (show 2 ≤ k by omega)
  refine (eiflowAt k w id).trans ((bs ?_).trans rfl)
  obtain ⟨k, rfl⟩ := pred (d := 0) (show 1 ≤ k by omega)
  refine (egIndexFunc_Flowv_iflowAt_1 k _ id).trans (row_i (L := LgIndexFunc_Flowv_iflowAt_1_0 k _ _ _) (a := w.2.2.2.2.2.2.1) (fun i l => some (findFrom (fun x => x.1 == id) i l)) (fun _ _ => rfl) (by omega) rfl (fun n i x r h0 ht hw hi hx ih => ?_) (by omega))
  obtain ⟨k, rfl⟩ := pred (d := 0) (show 1 ≤ k by omega)
  refine (bs (eiflowAt_1v k x id)).trans ?_
  show (if (x.1 == id) = true then some (i : Int) else _) = _
  rw [hw, ih]
  show _ = some (if (x.1 == id) = true then (i : Int) else findFrom (fun x => x.1 == id) (i + 1) r)
  by_cases h : (x.1 == id) = true
  · rw [if_pos h, if_pos h]
  · rw [if_neg h, if_neg h]
def sumI (l : List Int) : Int := l.foldl (fun s x => IntKind.i64.wrap (s + x)) 0
theorem fisumOf {k : Nat} (l : List Int) (hl : l.length ≤ 1048576) (hk : l.length + 2 ≤ k) : FisumOf k l = some (sumI l) := by
  obtain ⟨k, rfl⟩ := pred (d := 0) (show 1 ≤ k by omega)
  refine (eisumOf k l).trans (row_s0 (L := LisumOf_0 k _ _) (a := l) (fun (s : Int) i => (s, i)) (fun s _ l => some (l.foldl (fun s x => IntKind.i64.wrap (s + x)) s)) (fun _ _ _ => rfl) (by omega) (fun _ => rfl) (fun n i s x r h0 ht hw hi hx ih => ?_) (by omega) 0)
  dsimp only
  rw [hw, ih]
  rfl
def isPacket (x : Int × Int × Int × Int × Int × Int) (n : Int) : Bool := inR x.1 0 9999 && (inR x.2.1 0 9999 && (inR x.2.2.1 0 9999 && (isIdx x.2.2.2.1 n && (isIdx x.2.2.2.2.1 n && (x.2.2.2.1 != x.2.2.2.2.1 && inR x.2.2.2.2.2 0 1)))))
theorem fiIsPacket {k : Nat} (x : Int × Int × Int × Int × Int × Int) (n : Int) (hk : 2 ≤ k) : FiIsPacket k x n = some (isPacket x n) := by
  obtain ⟨k, rfl⟩ := pred (d := 1) hk
  rw [eiIsPacket, fiInRange _ _ _ (by omega), fiInRange _ _ _ (by omega), fiInRange _ _ _ (by omega), fiInRange _ _ _ (by omega), fiisIndex _ _ (by omega), fiisIndex _ _ (by omega)]
  simp only [Option.bind_some]
  unfold isPacket
  cases inR x.1 0 9999 <;> try rfl
  cases inR x.2.1 0 9999 <;> try rfl
  cases inR x.2.2.1 0 9999 <;> try rfl
  cases isIdx x.2.2.2.1 n <;> try rfl
  cases isIdx x.2.2.2.2.1 n <;> try rfl
  cases (x.2.2.2.1 != x.2.2.2.2.1) <;> rfl
theorem fsIsPacket {k : Nat} (x : Int × Int × Int × Int × Int × Int) (n : Int) (hk : 2 ≤ k) : FsIsPacket k x n = some (isPacket x n) := by
  obtain ⟨k, rfl⟩ := pred (d := 1) hk
  rw [esIsPacket, fsl1In _ _ _ (by omega), fsl1In _ _ _ (by omega), fsl1In _ _ _ (by omega), fsl1In _ _ _ (by omega)]
  simp only [Option.bind_some]
  unfold isPacket isIdx
  cases inR x.1 0 9999 <;> try rfl
  cases inR x.2.1 0 9999 <;> try rfl
  cases inR x.2.2.1 0 9999 <;> try rfl
  cases decide (x.2.2.2.1 ≥ 0) <;> try rfl
  cases decide (x.2.2.2.1 < n) <;> try rfl
  cases decide (x.2.2.2.2.1 ≥ 0) <;> try rfl
  cases decide (x.2.2.2.2.1 < n) <;> try rfl
  cases (x.2.2.2.1 != x.2.2.2.2.1) <;> rfl
abbrev TPk : Type := Int × Int × Int × Int × Int × Int
def findPacket (l : List TPk) (id : Int) : Int := findFrom (fun x => x.1 == id) 0 l
theorem fsFindPacket {k : Nat} (l : List TPk) (id : Int) (hl : l.length ≤ 1048576) (hk : l.length + 2 ≤ k) : FsFindPacket k l id = some (findPacket l id) := by
  obtain ⟨k, rfl⟩ := pred (d := 0) (show 1 ≤ k by omega)
  refine (esFindPacket k l id).trans (row_i (L := LsFindPacket_0 k _ _ _) (a := l) (fun i l => some (findFrom (fun x => x.1 == id) i l)) (fun _ _ => rfl) (by omega) rfl (fun n i x r h0 ht hw hi hx ih => ?_) (by omega))
  show (if (x.1 == id) = true then some (i : Int) else _) = _
  rw [hw, ih]
  show _ = some (if (x.1 == id) = true then (i : Int) else findFrom (fun x => x.1 == id) (i + 1) r)
  by_cases h : (x.1 == id) = true
  · rw [if_pos h, if_pos h]
  · rw [if_neg h, if_neg h]
theorem fiFindPacket {k : Nat} (l : List TPk) (id : Int) (hl : l.length ≤ 1048576) (hk : l.length + 4 ≤ k) : FiFindPacket k l id = some (findPacket l id) := by
  obtain ⟨k, rfl⟩ := pred (d := 1) (show 2 ≤ k by omega)
  refine (eiFindPacket k l id).trans ((bs ?_).trans rfl)
  obtain ⟨k, rfl⟩ := pred (d := 0) (show 1 ≤ k by omega)
  refine (egIndexFunc_Packetv_iFindPacket_1 k _ id).trans (row_i (L := LgIndexFunc_Packetv_iFindPacket_1_0 k _ _ _) (a := l) (fun i l => some (findFrom (fun x => x.1 == id) i l)) (fun _ _ => rfl) (by omega) rfl (fun n i x r h0 ht hw hi hx ih => ?_) (by omega))
  obtain ⟨k, rfl⟩ := pred (d := 0) (show 1 ≤ k by omega)
  refine (bs (eiFindPacket_1v k x id)).trans ?_
  show (if (x.1 == id) = true then some (i : Int) else _) = _
  rw [hw, ih]
  show _ = some (if (x.1 == id) = true then (i : Int) else findFrom (fun x => x.1 == id) (i + 1) r)
  by_cases h : (x.1 == id) = true
  · rw [if_pos h, if_pos h]
  · rw [if_neg h, if_neg h]
def push (q : List TPk) (x : TPk) : List TPk × Bool := if (q.length : Int) ≥ 12 then (q, false) else if findPacket q x.1 ≥ 0 then (q, false) else (q ++ [x], true)
theorem push_len (q : List TPk) (x : TPk) : (push q x).1.length ≤ q.length + 1 := by
  unfold push
  split
  · simp
  · split <;> simp
theorem fsPushPacket {k : Nat} (q : List TPk) (x : TPk) (hl : q.length ≤ 1048576) (hk : q.length + 5 ≤ k) : FsPushPacket k q x = some (push q x) := by
  obtain ⟨k, rfl⟩ := pred (d := 0) (show 1 ≤ k by omega)
  refine (esPushPacket k q x).trans ((bs (fsl24Copy q hl (by omega))).trans ?_)
  unfold push
  by_cases h : (q.length : Int) ≥ 12
  · rw [if_pos h, decide_eq_true h, if_neg (by decide)]
  · rw [if_neg h, decide_eq_false h, if_pos (by decide)]
    refine (bs (fsFindPacket q x.1 hl (by omega))).trans ?_
    by_cases h2 : findPacket q x.1 ≥ 0
    · rw [if_pos h2, if_pos (by simpa using h2)]
    · rw [if_neg h2, if_neg (by simpa using h2), if_pos (by simp; omega)]
theorem fiPushPacket {k : Nat} (q : List TPk) (x : TPk) (hl : q.length ≤ 1048576) (hk : q.length + 5 ≤ k) : FiPushPacket k q x = some (push q x) := by
  obtain ⟨k, rfl⟩ := pred (d := 0) (show 1 ≤ k by omega)
  refine (eiPushPacket k q x).trans ((bs (ficloneQueue q hl (by omega))).trans ?_)
  unfold push
  by_cases h : (q.length : Int) ≥ 12
  · rw [if_pos h, decide_eq_true h, if_neg (by decide)]
  · rw [if_neg h, decide_eq_false h, if_pos (by decide)]
    refine (bs (fiFindPacket q x.1 hl (by omega))).trans ?_
    by_cases h2 : findPacket q x.1 ≥ 0
    · rw [if_pos h2, if_pos (by simpa using h2)]
    · rw [if_neg h2, if_neg (by simpa using h2), if_pos (by simp; omega)]
theorem sumL_set {α : Type} {f : α → Nat} : ∀ {l : List α} {i : Nat} (h : i < l.length) (y : α), sumL f (l.set i y) + f l[i] = sumL f l + f y
  | x :: l, 0, h, y => by simp only [List.set_cons_zero, sumL, List.getElem_cons_zero]; omega
  | x :: l, i + 1, h, y => by
    have := sumL_set (f := f) (l := l) (i := i) (by simpa using h) y
    simp only [List.set_cons_succ, sumL, List.getElem_cons_succ]
    omega
def withQC (w : TW) (q : List (List TPk)) (c : List Int) : TW := (w.1, w.2.1, w.2.2.1, w.2.2.2.1, w.2.2.2.2.1, q, w.2.2.2.2.2.2.1, c, w.2.2.2.2.2.2.2.2.1, w.2.2.2.2.2.2.2.2.2.1, w.2.2.2.2.2.2.2.2.2.2.1, w.2.2.2.2.2.2.2.2.2.2.2.1, w.2.2.2.2.2.2.2.2.2.2.2.2.1, w.2.2.2.2.2.2.2.2.2.2.2.2.2)
theorem lsOffer {R : Type} {k : Nat} (X : VsStepOffer_0 → Option R) (c : CsStepOffer_0) (hl : c.2.1.2.2.2.2.2.2.2.1.length ≤ 1048576) (hk : c.2.1.2.2.2.2.2.2.2.1.length < k) : LsStepOffer_0 k X c k (0, 0) = X (sumI c.2.1.2.2.2.2.2.2.2.1, (c.2.1.2.2.2.2.2.2.2.1.length : Int)) := by
  refine (row_s0 (L := LsStepOffer_0 k X c) (a := c.2.1.2.2.2.2.2.2.2.1) (fun (s : Int) i => (s, i)) (X := fun s i => X (s, i)) (fun s i l => X (l.foldl (fun s x => IntKind.i64.wrap (s + x)) s, ((i + l.length : Nat) : Int))) (fun _ _ _ => rfl) (by omega) (fun s => by simp) (fun n i s x r h0 ht hw hi hx ih => ?_) hk 0).trans (by simp [sumI])
  dsimp only
  rw [hw, ih]
  simp only [List.foldl_cons, List.length_cons]
  congr 3
  omega
theorem stepStepOffer {N : Nat} (k : Nat) (w : TW) (id : Int) (hr : rowsLe N sWorld w) (hN : N ≤ 1048576) (hk : N + 20 ≤ k) :
    ∃ r b, FsStepOffer k w id = some (r, b) ∧ FiStepOffer k w id = some (r, b) ∧ szT sWorld r ≤ szT sWorld w + 1 := by
  obtain ⟨k, rfl⟩ := pred (d := 0) (show 1 ≤ k by omega)
  have l7 : w.2.2.2.2.2.2.1.length ≤ N := (rowsLe_row hr.2.2.2.2.2.2.1).1
  have l8 : w.2.2.2.2.2.2.2.1.length ≤ N := (rowsLe_row hr.2.2.2.2.2.2.2.1).1
  obtain ⟨l6', q6⟩ := rowsLe_row hr.2.2.2.2.2.1
  have l6 : w.2.2.2.2.2.1.length ≤ N := l6'
  have es := (esStepOffer k w id).trans ((bs (fsl33Copy w hr hN (by omega))).trans (bs (fsl33Flow w id (by omega) (by omega))))
  have ei := (eiStepOffer k w id).trans ((bs (ficloneWorld w hr hN (by omega))).trans (bs (fiflowAt w id (by omega) (by omega))))
  by_cases h1 : flowIdx w.2.2.2.2.2.2.1 id < 0
  · have c : ¬ ((decide (flowIdx w.2.2.2.2.2.2.1 id < 0)) == false) = true := by rw [decide_eq_true h1]; decide
    exact ⟨w, false, es.trans (if_neg c), ei.trans (if_neg c), by omega⟩
  have c1 : ((decide (flowIdx w.2.2.2.2.2.2.1 id < 0)) == false) = true := by rw [decide_eq_false h1]; rfl
  have es := es.trans (if_pos c1)
  have ei := ei.trans (if_pos c1)
  obtain ⟨j, f, hj, hf, hfid⟩ := findFrom_at (fun x => x.1 == id) w.2.2.2.2.2.2.1 0 (show 0 ≤ findFrom _ 0 _ by have : ¬ findFrom (fun x : Int × Int × Int × Int => x.1 == id) 0 w.2.2.2.2.2.2.1 < 0 := h1; omega)
  have hj : flowIdx w.2.2.2.2.2.2.1 id = (j : Int) := by unfold flowIdx; rw [hj]; congr 1; omega
  have hfid : f.1 = id := by simpa using hfid
  rw [hj] at es ei
  by_cases h2 : (j : Int) ≥ (w.2.2.2.2.2.2.2.1.length : Int)
  · have c : ¬ ((decide ((j : Int) ≥ (w.2.2.2.2.2.2.2.1.length : Int))) == false) = true := by rw [decide_eq_true h2]; decide
    exact ⟨w, false, es.trans (if_pos (by simpa using h2)), ei.trans (if_neg c), by omega⟩
  have c2 : ((decide ((j : Int) ≥ (w.2.2.2.2.2.2.2.1.length : Int))) == false) = true := by rw [decide_eq_false h2]; rfl
  have h0 : (0 : Int) ≤ (j : Int) := by omega
  have hjl : j < w.2.2.2.2.2.2.2.1.length := by omega
  have es := es.trans ((if_neg (by simpa using h2)).trans ((if_pos h0).trans (ix_some (n := j) hf _)))
  have ei := ei.trans ((if_pos c2).trans ((if_pos h0).trans ((ix_some (n := j) hf _).trans (bs (fiisIndex _ _ (by omega))))))
  have es := es.trans (lsOffer _ _ (by show w.2.2.2.2.2.2.2.1.length ≤ _; omega) (by show w.2.2.2.2.2.2.2.1.length < _; omega))
  have hc : w.2.2.2.2.2.2.2.1[j]? = some w.2.2.2.2.2.2.2.1[j] := List.getElem?_eq_getElem hjl
  have es := es.trans ((if_pos h0).trans ((ix_some (n := j) hc _).trans (bs (fsIsPacket _ _ (by omega)))))
  have hids : id = f.1 := hfid.symm
  subst hids
  generalize hX : ((sumI w.2.2.2.2.2.2.2.1, f.1, w.2.2.2.2.2.2.2.1[j], f.2.1, f.2.2.1, f.2.2.2) : TPk) = x at es
  have hsrc : x.2.2.2.1 = f.2.1 := by rw [← hX]
  have hres : ∀ (q : List TPk) (c : Int) (hs : f.2.1.toNat < w.2.2.2.2.2.1.length), q.length ≤ (w.2.2.2.2.2.1[f.2.1.toNat]).length + 1 → szT sWorld (withQC w (w.2.2.2.2.2.1.set f.2.1.toNat q) (w.2.2.2.2.2.2.2.1.set j c)) ≤ szT sWorld w + 1 := by
    intro q c hs hq
    have hset : sumL (szT sQueue) (w.2.2.2.2.2.1.set f.2.1.toNat q) + szT sQueue w.2.2.2.2.2.1[f.2.1.toNat] = sumL (szT sQueue) w.2.2.2.2.2.1 + szT sQueue q := sumL_set (f := szT sQueue) hs q
    have e1 : szT sQueue q = q.length := szT_row (e := 0) (sh := sI6) rfl q
    have e2 : szT sQueue w.2.2.2.2.2.1[f.2.1.toNat] = (w.2.2.2.2.2.1[f.2.1.toNat]).length := szT_row (e := 0) (sh := sI6) rfl _
    have g1 : szT (.l 0 sQueue) (w.2.2.2.2.2.1.set f.2.1.toNat q) = (w.2.2.2.2.2.1.set f.2.1.toNat q).length + sumL (szT sQueue) (w.2.2.2.2.2.1.set f.2.1.toNat q) := szT_rowS 0 sQueue _
    have g2 : szT (.l 0 sQueue) w.2.2.2.2.2.1 = w.2.2.2.2.2.1.length + sumL (szT sQueue) w.2.2.2.2.2.1 := szT_rowS 0 sQueue _
    rw [List.length_set] at g1
    rw [szW, szW w]
    simp only [withQC, List.length_set]
    omega
  by_cases hS : isIdx f.2.1 (w.2.2.2.2.2.1.length : Int) = true
  · obtain ⟨s0, s1⟩ := isIdx_pos hS
    have hq : w.2.2.2.2.2.1[f.2.1.toNat]? = some w.2.2.2.2.2.1[f.2.1.toNat] := List.getElem?_eq_getElem s1
    have hql : (w.2.2.2.2.2.1[f.2.1.toNat]).length ≤ N := (rowsLe_row (e := 0) (sh := sI6) (q6 _ (List.getElem_mem s1))).1
    have hslt : ¬ decide (f.2.1 ≥ (w.2.2.2.2.2.1.length : Int)) = true := by simp; omega
    have hlt : f.2.1 < (w.2.2.2.2.2.1.length : Int) := by omega
    rw [hS] at ei
    have ei := ei.trans ((if_neg (by decide)).trans ((if_pos h0).trans ((ix_some (n := j) hf _).trans ((bs (fisumOf _ (by omega) (by omega))).trans ((if_pos h0).trans ((ix_some (n := j) hc _).trans ((if_pos s0).trans ((ix_some hq _).trans (bs (fiPushPacket _ _ (by omega) (by omega)))))))))))
    rw [hX] at ei
    cases hP : (push w.2.2.2.2.2.1[f.2.1.toNat] x).2 with
    | false =>
      have ei := ei.trans (if_neg (by rw [hP]; decide))
      cases hI : isPacket x w.2.1.1 with
      | false =>
        rw [hI] at es
        exact ⟨w, false, es.trans (if_neg (by decide)), ei, by omega⟩
      | true =>
        rw [hI] at es
        have es := es.trans ((if_pos rfl).trans ((if_neg hslt).trans ((if_pos s0).trans ((ix_some hq _).trans (bs (fsPushPacket _ _ (by omega) (by omega)))))))
        exact ⟨w, false, es.trans (if_pos (by rw [hP]; rfl)), ei, by omega⟩
    | true =>
      have ei := ei.trans ((if_pos (by rw [hP]; rfl)).trans (bs (fiIsPacket _ _ (by omega))))
      cases hI : isPacket x w.2.1.1 with
      | false =>
        rw [hI] at es ei
        exact ⟨w, false, es.trans (if_neg (by decide)), ei.trans (if_pos rfl), by omega⟩
      | true =>
        rw [hI] at es ei
        have es := es.trans ((if_pos rfl).trans ((if_neg hslt).trans ((if_pos s0).trans ((ix_some hq _).trans (bs (fsPushPacket _ _ (by omega) (by omega)))))))
        have es := es.trans ((if_neg (by rw [hP]; decide)).trans ((if_pos s0).trans ((if_pos hlt).trans ((ix_some hq _).trans ((if_pos h0).trans ((ix_some (n := j) hc _).trans ((if_pos h0).trans ((if_pos (by omega)).trans (ix_some (n := j) hc _)))))))))
        have ei := ei.trans ((if_neg (by decide)).trans ((if_pos s0).trans ((if_pos hlt).trans ((ix_some hq _).trans ((if_pos h0).trans ((if_pos (by omega)).trans ((ix_some (n := j) hc _).trans ((if_pos h0).trans ((if_pos (by omega)).trans (ix_some (n := j) hc _))))))))))
        refine ⟨withQC w (w.2.2.2.2.2.1.set f.2.1.toNat (push w.2.2.2.2.2.1[f.2.1.toNat] x).1) (w.2.2.2.2.2.2.2.1.set j (IntKind.i64.wrap (w.2.2.2.2.2.2.2.1[j] + 1))), true, es, ei, hres _ _ s1 (push_len _ _)⟩
  · have hSf : isIdx f.2.1 (w.2.2.2.2.2.1.length : Int) = false := by simpa using hS
    rw [hSf] at ei
    have ei := ei.trans (if_pos rfl)
    cases hI : isPacket x w.2.1.1 with
    | false =>
      rw [hI] at es
      exact ⟨w, false, es.trans (if_neg (by decide)), ei, by omega⟩
    | true =>
      rw [hI] at es
      have hge : decide (f.2.1 ≥ (w.2.2.2.2.2.1.length : Int)) = true := by
        unfold isPacket at hI
        simp only [Bool.and_eq_true] at hI
        have h5 := hI.2.2.2.1
        rw [hsrc] at h5
        unfold isIdx at h5 hSf
        simp only [Bool.and_eq_true, decide_eq_true_eq] at h5
        have : decide (f.2.1 ≥ 0) = true := by simpa using h5.1
        rw [this, Bool.true_and, decide_eq_false_iff_not] at hSf
        simp; omega
      exact ⟨w, false, es.trans ((if_pos rfl).trans (if_pos hge)), ei, by omega⟩
end Go.Proofs.YtekefiglklmgnaaGreat.World
namespace Go.Proofs.YtekefiglklmgnaaGreat.World
open Go Go.V Go.Proofs
set_option linter.unusedVariables false
set_option linter.unusedSimpArgs false
set_option maxRecDepth 100000
set_option maxHeartbeats 4000000
theorem lFnExactStepOffer (w : TW) (id : Int) (hr : rowsLe 140737488351232 sLWorld w) : ∃ k, FlFnExactStepOffer k w id = some true := by
  refine ⟨3 * szT sLWorld w + 20000, ?_⟩
  rw [elFnExactStepOffer, zlszWorld _ w 1048576 hr (by omega) (by omega) (by omega), Option.bind_some]
  by_cases hz : szT sLWorld w ≤ 1048576
  · rw [szR_pos (by omega), if_neg (by simp; omega)]
    have e60 : szT sWorld w = szT sLWorld w := rfl
    have hrow := rows_le sWorld w (szT sLWorld w) (Nat.le_of_eq e60)
    obtain ⟨r, b, hs, hi, hsz⟩ := stepStepOffer (3 * szT sLWorld w + 19999) w id hrow (by omega) (by omega)
    have tw := tltoWorld (3 * szT sLWorld w + 19999) w hz (by omega)
    have qw := qleqWorld (3 * szT sLWorld w + 19999) w (by rw [e60]; omega) (by rw [e60]; omega)
    have qr := qleqWorld (3 * szT sLWorld w + 19999) r (by omega) (by omega)
    have mw := mlmarkWorld (3 * szT sLWorld w + 19999) w 1 (by omega) (by rw [e60]; omega) (by rw [e60]; omega) (by rw [e60]; omega)
    have mr := mlmarkWorld (3 * szT sLWorld w + 19999) r 1 (by omega) (by omega) (by omega) (by omega)
    have hh := hlheldWorld (3 * szT sLWorld w + 19999) r 1 (by omega) (by omega) (by omega) (by omega)
    have nW : decide ((mkT sWorld w 1).2 < 0) = false := by have := mkT_le sWorld w 1 rfl; rw [decide_eq_false]; omega
    have nR : decide ((mkT sWorld r 1).2 < 0) = false := by have := mkT_le sWorld r 1 rfl; rw [decide_eq_false]; omega
    refine (bs tw).trans ?_
    refine (bs hs).trans ?_
    refine (bs tw).trans ?_
    refine (bs hi).trans ?_
    refine (bs qr).trans ?_
    refine (if_pos rfl).trans ?_
    refine (if_neg (by simp)).trans ?_
    refine (bs tw).trans ?_
    refine (bs qw).trans ?_
    refine (if_neg (by decide)).trans ?_
    refine (bs mw).trans ?_
    refine (if_pos (show ((decide ((mkT sWorld w 1).2 < 0)) == false) = true by rw [nW]; rfl)).trans ?_
    refine (bs qr).trans ?_
    refine (if_pos rfl).trans ?_
    refine (if_neg (by simp)).trans ?_
    refine (bs mr).trans ?_
    refine (bs hh).trans ?_
    refine (if_neg (by rw [nR]; decide)).trans ?_
    refine (if_neg (by simp)).trans ?_
    refine (bs tw).trans ?_
    refine (bs hi).trans ?_
    refine (bs qr).trans ?_
    refine (if_pos rfl).trans ?_
    refine (if_neg (by simp)).trans ?_
    refine (bs hh).trans ?_
    refine (if_neg (by rw [nR]; decide)).trans ?_
    refine (if_neg (by simp)).trans ?_
    rfl
  · rw [szR_neg (by omega), if_pos (by decide)]
end Go.Proofs.YtekefiglklmgnaaGreat.World
namespace Go.Proofs.YtekefiglklmgnaaGreat.World
open Go Go.V Go.Proofs
open Go.ChangeShapes Go.WideShapes Go.ChangeAt Go.RowKit
set_option linter.unusedVariables false
set_option maxRecDepth 100000
theorem tyOk : ∀ t i, E.ty t = some i → TyOk E.P t i := by
  intro t i h
  replace h : ty t = some i := h
  unfold ty at h
  split at h <;> first | (cases h; done) | (cases h; exact ⟨by kernel_rfl, by kernel_rfl⟩)
theorem fn0Ok : ∀ f F, fn0 f = some F → E.P.funcs[f]? = some F ∧ F.name ≠ "runtime.NumGoroutine" ∧ ∀ c, F.body = some c → codeOk c = true := by
  intro f F h
  unfold fn0 at h
  split at h <;> first | (cases h; done) | (cases h; exact ⟨by kernel_rfl, of_decide_eq_true (by kernel_rfl), fun c hc => by cases hc; kernel_rfl⟩)
theorem fn1Ok : ∀ f F, fn1 f = some F → E.P.funcs[f]? = some F ∧ F.name ≠ "runtime.NumGoroutine" ∧ ∀ c, F.body = some c → codeOk c = true := by
  intro f F h
  unfold fn1 at h
  split at h <;> first | (cases h; done) | (cases h; exact ⟨by kernel_rfl, of_decide_eq_true (by kernel_rfl), fun c hc => by cases hc; kernel_rfl⟩)
theorem fn2Ok : ∀ f F, fn2 f = some F → E.P.funcs[f]? = some F ∧ F.name ≠ "runtime.NumGoroutine" ∧ ∀ c, F.body = some c → codeOk c = true := by
  intro f F h
  unfold fn2 at h
  split at h <;> first | (cases h; done) | (cases h; exact ⟨by kernel_rfl, of_decide_eq_true (by kernel_rfl), fun c hc => by cases hc; kernel_rfl⟩)
theorem fnOk : ∀ f F, E.fn f = some F → E.P.funcs[f]? = some F ∧ F.name ≠ "runtime.NumGoroutine" ∧ ∀ c, F.body = some c → codeOk c = true := by
  intro f F h
  replace h : fn f = some F := h
  unfold fn at h
  split at h
  · rename_i F' hF
    rw [← Option.some.inj h]
    exact fn0Ok f F' hF
  split at h
  · rename_i F' hF
    rw [← Option.some.inj h]
    exact fn1Ok f F' hF
  exact fn2Ok f F h
theorem envOk : EnvOk E := ⟨tyOk, fun f F h => (fnOk f F h).1, fun f F h => (fnOk f F h).2.1, by kernel_rfl⟩
theorem sound (k : Nat) : CallOk E (den E k) := den_sound envOk (fun f F c h => (fnOk f F h).2.2 c) (fun f g h => by cases h) k
end Go.Proofs.YtekefiglklmgnaaGreat.World
namespace Go.Proofs.YtekefiglklmgnaaGreat.World
open Go Go.V Go.Proofs
open Go.ChangeShapes Go.WideShapes Go.ChangeAt Go.RowKit
set_option linter.unusedVariables false
set_option maxRecDepth 100000
theorem walk4 {k : Nat} {y0 : TW} {y1 : Int} (h : FlFnExactStepOffer k y0 y1 = some true) {W : World} {v0 v1 : Value} (h0 : VA W (fun _ => True) (fun _ => undef) (argAV sLWorld y0) v0) (l0 : (argAV sLWorld y0).lt 0) (h1 : VA W (fun _ => True) (fun _ => undef) (argAV (.i .i64) y1) v1) (l1 : (argAV (.i .i64) y1).lt 0) :
    Calls Tryz.prog 4 #[v0, v1] W fun e W' => e = .returned (.bool true) ∧ Go.RowKit.Below W.heap.size W W' := by
  have hs := (sound k) 4 [argAV sLWorld y0, argAV (.i .i64) y1] true h
  refine (hs.2 (fun _ => True) W [v0, v1] [] (fun p hp => absurd (show p ∈ ([] : List (Nat × Array Value)) from hp) (by simp)) (by
    show ArgsT W (fun _ => True) [] _ _ []
    exact ⟨⟨h0, h1, trivial⟩, by intro x hx; simp at hx; rcases hx with rfl | rfl; exact l0; exact l1, rfl⟩) List.nodup_nil (by simp)).mono ?_
  rintro e W' ⟨v, rfl, hb, hr⟩
  exact ⟨by rw [resOk_bool hr], Chg.below hb⟩
theorem own : ownKnob Tryz.prog.godebug = none := by kernel_rfl
theorem lifted (os : Os) (started : os.Started) (H : Type) (enc : TypeId × Value → H) :
    ReturnsInHanded {} Tryz.checked os 4 .any (YtekefiglklmgnaaGreat.Rows.fnExactStepOfferSpec.pre6 enc Tryz.prog Tryz.f4 YtekefiglklmgnaaGreat.Rows.fnExactStepOfferRow.domain false) (YtekefiglklmgnaaGreat.Rows.fnExactStepOfferSpec.post enc Tryz.prog Tryz.f4 false true false false) := by
  refine returnsInHanded_of_change_sized (C := Tryz.checked) own started (by kernel_rfl) Tryz.func4
    (ChangeSpec.witness6 (enc := enc) (C := Tryz.checked) false ⟨#[], #[.agg #[(.int .i64 0), (.slice none 0 0), (.slice none 0 0), (.int .i64 0), (.int .i64 0), (.int .i64 0), (.int .i64 0), (.int .i64 0), (.slice none 0 0), (.int .i64 0), (.int .i64 0), (.int .i64 0), (.int .i64 0), (.slice none 0 0), (.slice none 0 0), (.slice none 0 0), (.slice none 0 0), (.slice none 0 0), (.slice none 0 0), (.slice none 0 0), (.slice none 0 0), (.slice none 0 0), (.int .i64 0), (.int .i64 0), (.slice none 0 0), (.slice none 0 0)], .int .i64 0], []⟩ 8 (by kernel_rfl) (by kernel_rfl) (by kernel_rfl) (by kernel_rfl)) ?_
  intro W base args ds gs before hval0 hW hcnd hsz0 _
  have hsz : (DataW.weightsEach Tryz.prog (Tryz.f4.params.toList ++ YtekefiglklmgnaaGreat.Rows.fnExactStepOfferSpec.plain.varTypes Tryz.prog) (ds ++ gs)).all (· ≤ reachBytes) = true := hsz0
  have hval : ∀ (j : Nat) t v, Tryz.f4.params[j]? = some t → args[j]? = some v → Value.okWide Tryz.prog W .any base t v := hval0
  have hW' := hW
  obtain ⟨p, q, hA0, hV, rfl, hfz, hnd⟩ := hW
  have hA : DataW.TrodAll enc Tryz.prog W 0 (fun _ => true) true Tryz.f4.params.toList args.toList ds p := hA0
  have hAA := hA
  rw [Tryz.params4] at hA hval hsz
  obtain ⟨v0, vs0, d0, ds0, p0, q0, hargs, rfl, rfl, h0, r0⟩ := trodAll_cons hA
  obtain ⟨v1, vs1, d1, ds1, p1, q1, rfl, rfl, rfl, h1, r1⟩ := trodAll_cons r0
  obtain ⟨rfl, rfl, rfl⟩ := trodAll_nil r1
  obtain rfl : args = #[v0, v1] := by cases args; simp_all
  obtain ⟨rfl, rfl⟩ := trodVars_none hV
  have hwt0 : ∀ n ∈ d0.weights Tryz.prog 41, n ≤ reachBytes := by
    intro n hn
    have := List.all_eq_true.1 hsz n (by simp [DataW.weightsEach, hn])
    simpa using this
  have hwt1 : ∀ n ∈ d1.weights Tryz.prog 3, n ≤ reachBytes := by
    intro n hn
    have := List.all_eq_true.1 hsz n (by simp [DataW.weightsEach, hn])
    simpa using this
  obtain ⟨y0, a0, b0, w0⟩ := arg_VA (sh := sLWorld) (by kernel_rfl) (hval 0 41 v0 rfl rfl) h0 hwt0
  obtain ⟨y1, a1, b1, w1⟩ := arg_VA (sh := (.i .i64)) (by kernel_rfl) (hval 1 3 v1 rfl rfl) h1 hwt1
  obtain ⟨k, hk⟩ := lFnExactStepOffer y0 y1 (rows_wf (P := Tryz.prog) sLWorld y0 (by kernel_rfl) w0)
  have hlt : ∀ x ∈ p0 ++ (p1 ++ []), x.block < W.heap.size := fun x hx => hW'.lt x (by simpa using hx)
  refine (walk4 hk a0 b0 a1 b1).mono fun e W' ⟨he, bel⟩ => ?_
  subst he
  exact ⟨_, rfl, _, _, _, [], _, [], hW', trodAll_mk1 (shut_bool Tryz.underlying4 _), below_trodAll (by kernel_rfl) bel _ _ _ _ (by kernel_rfl) hAA hlt, rfl, bel.frame _, fun h => by cases h⟩
theorem facts_of {P : Program} {f : FuncId} {fn : Func} {s : ChangeSpec} {c : OpenClaim} (k1 : (c.wf (OpenSpec.ofChange s)) = true) (k2 : (laidOutB P) = true) (k3 : (mapsRowed P) = true) (k4 : (fn.params.all (P.readableRec ·)) = true) (k5 : (namedTie P c.named s.vars) = true) (k6 : ((c.stops == [])) = true) (k7 : ((P.stops == [])) = true) (k8 : ((c.knobs == [])) = true) (k9 : ((P.stopKnobs == [])) = true) (k10 : ((c.inPlace == P.inPlace f)) = true) (k11 : ((c.unfollowed == P.unfollowed f)) = true) (k12 : ((c.recurses == P.recurses f)) = true) (k13 : ((c.named == P.varsNamed f)) = true) (k14 : ((c.maps == (fn.params.toList ++ s.plain.varTypes P).any (P.mapsRec ·))) = true) (k15 : ((c.ifaces == (fn.params.toList ++ s.plain.varTypes P).any (P.ifacesRec ·))) = true) (k16 : ((c.mapsOut == P.mapsAmong fn.resultTypes.toList)) = true) (k17 : ((c.loops == (fn.params.toList ++ s.plain.varTypes P).any (P.loopsFrom ·))) = true) (k18 : ((c.wideKeys == (fn.params.toList ++ s.plain.varTypes P ++ fn.resultTypes.toList).any (P.wideKeysFrom ·))) = true) (k19 : (s.vars.all (P.varReadable ·)) = true) (k20 : (fn.resultTypes.all (fun t => P.readableRec t && decide (t < P.types.size))) = true) (k21 : ((c.ifacesOut == fn.resultTypes.toList.any (P.ifacesRec ·))) = true) (k22 : ((c.loopsOut == fn.resultTypes.toList.any (P.loopsFrom ·))) = true) (k23 : ((c.plainKeys == P.plainKeys)) = true) (k24 : (c.shortTexts.isNone) = true) (k25 : (P.stopsHeard) = true) (k26 : (P.mayEnter) = true) (k27 : ((c.lifted == P.liftsFinal)) = true) (k28 : ((P.make == some c.make)) = true) (k29 : ((c.kinds == (if c.domain.isEmpty then [] else fn.params.toList.map fun t => match P.underlying t with | some (.int k) => some k | _ => none))) = true) (k30 : ((c.pinned == c.pinnedBy)) = true) (k31 : ((c.veiled == (fn.params.toList ++ s.plain.varTypes P ++ fn.resultTypes.toList).any (P.veiledRec ·))) = true) (k32 : (c.veiledFits P fn.params.toList (fn.params.toList ++ s.plain.varTypes P ++ fn.resultTypes.toList)) = true) : joinedFacts P f fn s c = true := by
  unfold joinedFacts
  simp only [k1, k2, k3, k4, k5, k6, k7, k8, k9, k10, k11, k12, k13, k14, k15, k16, k17, k18, k19, k20, k21, k22, k23, k24, k25, k26, k27, k28, k30, k31, k32, Bool.and_true, Bool.true_and]
  exact k29
theorem k1 : (YtekefiglklmgnaaGreat.Rows.fnExactStepOfferRow.wf (OpenSpec.ofChange YtekefiglklmgnaaGreat.Rows.fnExactStepOfferSpec)) = true := by kernel_rfl
theorem k2 : (laidOutB Tryz.checked.prog) = true := by kernel_rfl
theorem k3 : (mapsRowed Tryz.checked.prog) = true := by kernel_rfl
theorem k4 : (Tryz.f4.params.all (Tryz.checked.prog.readableRec ·)) = true := by kernel_rfl
theorem k5 : (namedTie Tryz.checked.prog YtekefiglklmgnaaGreat.Rows.fnExactStepOfferRow.named YtekefiglklmgnaaGreat.Rows.fnExactStepOfferSpec.vars) = true := by kernel_rfl
theorem k6 : ((YtekefiglklmgnaaGreat.Rows.fnExactStepOfferRow.stops == [])) = true := by kernel_rfl
theorem k7 : ((Tryz.checked.prog.stops == [])) = true := by kernel_rfl
theorem k8 : ((YtekefiglklmgnaaGreat.Rows.fnExactStepOfferRow.knobs == [])) = true := by kernel_rfl
theorem k9 : ((Tryz.checked.prog.stopKnobs == [])) = true := by kernel_rfl
theorem k10 : ((YtekefiglklmgnaaGreat.Rows.fnExactStepOfferRow.inPlace == Tryz.checked.prog.inPlace 4)) = true := by kernel_rfl
theorem k11 : ((YtekefiglklmgnaaGreat.Rows.fnExactStepOfferRow.unfollowed == Tryz.checked.prog.unfollowed 4)) = true := by kernel_rfl
theorem k12 : ((YtekefiglklmgnaaGreat.Rows.fnExactStepOfferRow.recurses == Tryz.checked.prog.recurses 4)) = true := by kernel_rfl
theorem k13 : ((YtekefiglklmgnaaGreat.Rows.fnExactStepOfferRow.named == Tryz.checked.prog.varsNamed 4)) = true := by kernel_rfl
theorem k14 : ((YtekefiglklmgnaaGreat.Rows.fnExactStepOfferRow.maps == (Tryz.f4.params.toList ++ YtekefiglklmgnaaGreat.Rows.fnExactStepOfferSpec.plain.varTypes Tryz.checked.prog).any (Tryz.checked.prog.mapsRec ·))) = true := by kernel_rfl
theorem k15 : ((YtekefiglklmgnaaGreat.Rows.fnExactStepOfferRow.ifaces == (Tryz.f4.params.toList ++ YtekefiglklmgnaaGreat.Rows.fnExactStepOfferSpec.plain.varTypes Tryz.checked.prog).any (Tryz.checked.prog.ifacesRec ·))) = true := by kernel_rfl
theorem k16 : ((YtekefiglklmgnaaGreat.Rows.fnExactStepOfferRow.mapsOut == Tryz.checked.prog.mapsAmong Tryz.f4.resultTypes.toList)) = true := by kernel_rfl
theorem k17 : ((YtekefiglklmgnaaGreat.Rows.fnExactStepOfferRow.loops == (Tryz.f4.params.toList ++ YtekefiglklmgnaaGreat.Rows.fnExactStepOfferSpec.plain.varTypes Tryz.checked.prog).any (Tryz.checked.prog.loopsFrom ·))) = true := by kernel_rfl
theorem k18 : ((YtekefiglklmgnaaGreat.Rows.fnExactStepOfferRow.wideKeys == (Tryz.f4.params.toList ++ YtekefiglklmgnaaGreat.Rows.fnExactStepOfferSpec.plain.varTypes Tryz.checked.prog ++ Tryz.f4.resultTypes.toList).any (Tryz.checked.prog.wideKeysFrom ·))) = true := by kernel_rfl
theorem k19 : (YtekefiglklmgnaaGreat.Rows.fnExactStepOfferSpec.vars.all (Tryz.checked.prog.varReadable ·)) = true := by kernel_rfl
theorem k20 : (Tryz.f4.resultTypes.all (fun t => Tryz.checked.prog.readableRec t && decide (t < Tryz.checked.prog.types.size))) = true := by kernel_rfl
theorem k21 : ((YtekefiglklmgnaaGreat.Rows.fnExactStepOfferRow.ifacesOut == Tryz.f4.resultTypes.toList.any (Tryz.checked.prog.ifacesRec ·))) = true := by kernel_rfl
theorem k22 : ((YtekefiglklmgnaaGreat.Rows.fnExactStepOfferRow.loopsOut == Tryz.f4.resultTypes.toList.any (Tryz.checked.prog.loopsFrom ·))) = true := by kernel_rfl
theorem k23 : ((YtekefiglklmgnaaGreat.Rows.fnExactStepOfferRow.plainKeys == Tryz.checked.prog.plainKeys)) = true := by kernel_rfl
theorem k24 : (YtekefiglklmgnaaGreat.Rows.fnExactStepOfferRow.shortTexts.isNone) = true := by kernel_rfl
theorem k25 : (Tryz.checked.prog.stopsHeard) = true := by kernel_rfl
theorem k26 : (Tryz.checked.prog.mayEnter) = true := by kernel_rfl
theorem k27 : ((YtekefiglklmgnaaGreat.Rows.fnExactStepOfferRow.lifted == Tryz.checked.prog.liftsFinal)) = true := by kernel_rfl
theorem k28 : ((Tryz.checked.prog.make == some YtekefiglklmgnaaGreat.Rows.fnExactStepOfferRow.make)) = true := by kernel_rfl
theorem k29 : ((YtekefiglklmgnaaGreat.Rows.fnExactStepOfferRow.kinds == (if YtekefiglklmgnaaGreat.Rows.fnExactStepOfferRow.domain.isEmpty then [] else Tryz.f4.params.toList.map fun t => match Tryz.checked.prog.underlying t with | some (.int k) => some k | _ => none))) = true := by kernel_rfl
theorem k30 : ((YtekefiglklmgnaaGreat.Rows.fnExactStepOfferRow.pinned == YtekefiglklmgnaaGreat.Rows.fnExactStepOfferRow.pinnedBy)) = true := by kernel_rfl
theorem k31 : ((YtekefiglklmgnaaGreat.Rows.fnExactStepOfferRow.veiled == (Tryz.f4.params.toList ++ YtekefiglklmgnaaGreat.Rows.fnExactStepOfferSpec.plain.varTypes Tryz.checked.prog ++ Tryz.f4.resultTypes.toList).any (Tryz.checked.prog.veiledRec ·))) = true := by kernel_rfl
theorem k32 : (YtekefiglklmgnaaGreat.Rows.fnExactStepOfferRow.veiledFits Tryz.checked.prog Tryz.f4.params.toList (Tryz.f4.params.toList ++ YtekefiglklmgnaaGreat.Rows.fnExactStepOfferSpec.plain.varTypes Tryz.checked.prog ++ Tryz.f4.resultTypes.toList)) = true := by kernel_rfl
theorem k0 : YtekefiglklmgnaaGreat.Tryz.pinned.checked.prog.funcNamed YtekefiglklmgnaaGreat.Rows.fnExactStepOfferRow.func = some 4 := by kernel_rfl
theorem wrapper : Tryz.f4.isWrapper Tryz.checked.prog YtekefiglklmgnaaGreat.Rows.fnExactStepOfferRow.wrapper YtekefiglklmgnaaGreat.Rows.fnExactStepOfferRow.mainSum := by
  unfold Func.isWrapper
  first | (rw [if_pos (by decide +kernel)]; kernel_rfl) | (rw [if_neg (by decide +kernel)]; exact ⟨rfl, rfl⟩)
theorem facts : joinedFacts YtekefiglklmgnaaGreat.Tryz.pinned.checked.prog 4 Tryz.f4 YtekefiglklmgnaaGreat.Rows.fnExactStepOfferSpec YtekefiglklmgnaaGreat.Rows.fnExactStepOfferRow = true := facts_of k1 k2 k3 k4 k5 k6 k7 k8 k9 k10 k11 k12 k13 k14 k15 k16 k17 k18 k19 k20 k21 k22 k23 k24 k25 k26 k27 k28 k29 k30 k31 k32
theorem over : YtekefiglklmgnaaGreat.Rows.fnExactStepOfferRow.holds YtekefiglklmgnaaGreat.Tryz.pinned (OpenSpec.ofChange YtekefiglklmgnaaGreat.Rows.fnExactStepOfferSpec) :=
  OpenClaim.holds_of_wide 4 Tryz.f4 rfl rfl rfl rfl rfl rfl rfl ⟨rfl, rfl, rfl, rfl, rfl⟩ rfl rfl rfl rfl rfl k0 Tryz.func4 facts
    (of_decide_eq_true (by kernel_rfl)) wrapper
    (fun os started H enc _ => lifted os started H enc)
end Go.Proofs.YtekefiglklmgnaaGreat.World
namespace Go.Proofs.YtekefiglklmgnaaGreat
/-- The row, under a short name. -/
theorem fnExactStepOffer_holds : Rows.FnExactStepOfferSaid := World.over
end Go.Proofs.YtekefiglklmgnaaGreat
