/- 'laws.FnExactDeliver' returns true for every input. No condition. -/
import Derived.Test.YthnogjmaiffagaaGreatWp
import Derived.Test.YthnogjmaiffagaaGreatShelf
import Derived.Test.YthnogjmaiffagaaGreatRows
import Derived.Test.YthnogjmaiffagaaGreatChecked
import Derived.Shelf.RegionOpenPlain
import Derived.WalkKit
import Derived.Deep.LoopGhost
import Derived.Deep.RegionLaw
import Derived.Lib.Walk
import Derived.Sort.WalkB12
import Derived.Lib.SliceRun
import Derived.KernelRfl
namespace Go.Proofs.YthnogjmaiffagaaGreat.World
open Go Go.V Go.Proofs
set_option linter.unusedVariables false
set_option linter.unusedSimpArgs false
set_option maxRecDepth 100000
abbrev TW := wg
theorem pred {k d : Nat} (h : d + 1 ≤ k) : ∃ q, k = q + 1 := ⟨k - 1, by omega⟩
/-! ### numbers, rows -/
def isIdx (a b : Int) : Bool := decide (a ≥ 0) && decide (a < b)
def inR (n a b : Int) : Bool := decide (a ≤ n) && decide (n ≤ b)
theorem fiisIndex {k : Nat} (a b : Int) (hk : 1 ≤ k) : y63 k a b = some (isIdx a b) := by
 obtain ⟨k, rfl⟩ := pred (d := 0) hk
 rw [eiisIndex]
 unfold isIdx
 cases decide (a ≥ 0) <;> rfl
theorem fiInRange {k : Nat} (n a b : Int) (hk : 1 ≤ k) : yx1 k n a b = some (inR n a b) := by
 obtain ⟨k, rfl⟩ := pred (d := 0) hk
 rw [eiInRange]
 unfold inR
 cases decide (a ≤ n) <;> rfl
theorem inR_last {len : Nat} (n : Int) (h : len ≤ 140737488351232) : inR n 0 (IntKind.i64.wrap ((len : Int) - 1)) = isIdx n (len : Int) := by
 rw [v6 (by omega) (by omega)]
 unfold inR isIdx
 have e : decide (n ≤ (len : Int) - 1) = decide (n < (len : Int)) := by
   by_cases h : n < (len : Int)
   · rw [decide_eq_true h, decide_eq_true (by omega)]
   · rw [decide_eq_false h, decide_eq_false (by omega)]
 rw [e]
theorem j63 {n : Int} {len : Nat} (h : isIdx n (len : Int) = true) : 0 ≤ n ∧ n.toNat < len := by
 unfold isIdx at h
 simp only [Bool.and_eq_true, decide_eq_true_eq] at h
 omega
/-! ### copies -/
theorem yp1 {k : Nat} (x : List (Int)) (hl : x.length ≤ 1048576) (hk : 1 ≤ k) : vi k x = some x := by
 obtain ⟨k, rfl⟩ := pred (d := 0) hk
 rw [egClone_int, if_pos (by omega), wq1]
theorem fgClone_Sat {k : Nat} (x : List (Int × Int × Int × Int)) (hl : x.length ≤ 1048576) (hk : 1 ≤ k) : x04 k x = some x := by
 obtain ⟨k, rfl⟩ := pred (d := 0) hk
 rw [egClone_Sat, if_pos (by omega), wq1]
theorem fgClone_Site {k : Nat} (x : List (Int × Int × Int)) (hl : x.length ≤ 1048576) (hk : 1 ≤ k) : x93 k x = some x := by
 obtain ⟨k, rfl⟩ := pred (d := 0) hk
 rw [egClone_Site, if_pos (by omega), wq1]
theorem fgClone_Zone {k : Nat} (x : List (Int × Int × Int)) (hl : x.length ≤ 1048576) (hk : 1 ≤ k) : wf3 k x = some x := by
 obtain ⟨k, rfl⟩ := pred (d := 0) hk
 rw [egClone_Zone, if_pos (by omega), wq1]
theorem fgClone_Battery {k : Nat} (x : List (Int × Int × Int × Int × Int × Int)) (hl : x.length ≤ 1048576) (hk : 1 ≤ k) : x71 k x = some x := by
 obtain ⟨k, rfl⟩ := pred (d := 0) hk
 rw [egClone_Battery, if_pos (by omega), wq1]
theorem fgClone_Fault {k : Nat} (x : List (Int × Int × Int × Int)) (hl : x.length ≤ 1048576) (hk : 1 ≤ k) : vn1 k x = some x := by
 obtain ⟨k, rfl⟩ := pred (d := 0) hk
 rw [egClone_Fault, if_pos (by omega), wq1]
theorem fgClone_Flow {k : Nat} (x : List (Int × Int × Int × Int)) (hl : x.length ≤ 1048576) (hk : 1 ≤ k) : yv1 k x = some x := by
 obtain ⟨k, rfl⟩ := pred (d := 0) hk
 rw [egClone_Flow, if_pos (by omega), wq1]
theorem fgClone_Link {k : Nat} (x : List (Int × Int)) (hl : x.length ≤ 1048576) (hk : 1 ≤ k) : vc3 k x = some x := by
 obtain ⟨k, rfl⟩ := pred (d := 0) hk
 rw [egClone_Link, if_pos (by omega), wq1]
theorem yw3 {k : Nat} (x : List (Int × Int × Int × Int × Int × Int)) (hl : x.length ≤ 1048576) (hk : 1 ≤ k) : z61 k x = some x := by
 obtain ⟨k, rfl⟩ := pred (d := 0) hk
 rw [egClone_Packet, if_pos (by omega), wq1]
theorem fgClone_Sent {k : Nat} (x : List (Int × Int × Int × Int)) (hl : x.length ≤ 1048576) (hk : 1 ≤ k) : jw1 k x = some x := by
 obtain ⟨k, rfl⟩ := pred (d := 0) hk
 rw [egClone_Sent, if_pos (by omega), wq1]
theorem xg3 {k : Nat} (x : List (Int × Int × Int × Int × Int × Int)) (hl : x.length ≤ 1048576) (hk : 2 ≤ k) : vx1 k x = some x := by
 obtain ⟨k, rfl⟩ := pred (d := 1) hk
 rw [eicloneQueue, yw3 x hl (by omega), Option.bind_some]
theorem ficloneLinks {k : Nat} (x : List (Int × Int)) (hl : x.length ≤ 1048576) (hk : 2 ≤ k) : yg2 k x = some x := by
 obtain ⟨k, rfl⟩ := pred (d := 1) hk
 rw [eicloneLinks, fgClone_Link x hl (by omega), Option.bind_some]
theorem zm1 {k : Nat} (x : Int × Int × List Int) (hl : x.2.2.length ≤ 1048576) (hk : 2 ≤ k) : ji k x = some x := by
 obtain ⟨k, rfl⟩ := pred (d := 1) hk
 rw [eicloneStream, yp1 _ hl (by omega), Option.bind_some]
theorem ficloneTable {k : Nat} (x : Int × (List Int) × List Int) (h1 : x.2.1.length ≤ 1048576) (h2 : x.2.2.length ≤ 1048576) (hk : 2 ≤ k) : v43 k x = some x := by
 obtain ⟨k, rfl⟩ := pred (d := 1) hk
 rw [eicloneTable, yp1 _ h1 (by omega), Option.bind_some, yp1 _ h2 (by omega), Option.bind_some]
theorem fsl15Copy {k : Nat} (x : Int × (List Int) × List Int) (h1 : x.2.1.length ≤ 1048576) (h2 : x.2.2.length ≤ 1048576) (hk : 1 ≤ k) : Fsl15Copy k x = some x := by
 obtain ⟨k, rfl⟩ := pred (d := 0) hk
 rw [esl15Copy, if_pos (by omega), if_pos (by omega)]
theorem fsl24Copy {k : Nat} (x : List (Int × Int × Int × Int × Int × Int)) (hl : x.length ≤ 1048576) (hk : 1 ≤ k) : w93 k x = some x := by
 obtain ⟨k, rfl⟩ := pred (d := 0) hk
 rw [esl24Copy, if_pos (by omega)]
theorem y62 {k : Nat} (x : Int × Int × List Int) (hl : x.2.2.length ≤ 1048576) (hk : 1 ≤ k) : zg k x = some x := by
 obtain ⟨k, rfl⟩ := pred (d := 0) hk
 rw [esl25Copy, if_pos (by omega)]
theorem ficloneSky {k N : Nat} (s : TSky) (hr : j8 N sSky s) (hN : N ≤ 1048576) (hk : 2 ≤ k) : wj2 k s = some s := by
 obtain ⟨k, rfl⟩ := pred (d := 1) hk
 have h1 : s.2.1.length ≤ N := (z6 hr.2.1).1
 have h2 : s.2.2.1.length ≤ N := (z6 hr.2.2.1).1
 have h3 : s.2.2.2.2.2.2.2.2.1.length ≤ N := (z6 hr.2.2.2.2.2.2.2.2.1).1
 rw [eicloneSky, fgClone_Sat _ (by omega) (by omega), Option.bind_some, fgClone_Site _ (by omega) (by omega), Option.bind_some, fgClone_Zone _ (by omega) (by omega), Option.bind_some]
theorem fsl33Sky {k N : Nat} (s : TSky) (hr : j8 N sSky s) (hN : N ≤ 1048576) (hk : 1 ≤ k) : v54 k s = some s := by
 obtain ⟨k, rfl⟩ := pred (d := 0) hk
 have h1 : s.2.1.length ≤ N := (z6 hr.2.1).1
 have h2 : s.2.2.1.length ≤ N := (z6 hr.2.2.1).1
 have h3 : s.2.2.2.2.2.2.2.2.1.length ≤ N := (z6 hr.2.2.2.2.2.2.2.2.1).1
 rw [esl33Sky, if_pos (by omega), if_pos (by omega), if_pos (by omega)]
theorem ficloneProgram {k N : Nat} (p : xd) (hr : j8 N j3 p) (hN : N ≤ 1048576) (hk : N + 4 ≤ k) : x61 k p = some p := by
 obtain ⟨k, rfl⟩ := pred (d := 0) (show 1 ≤ k by omega)
 obtain ⟨h1', h2⟩ := z6 hr.2.2.2
 have h1 : p.2.2.2.length ≤ N := h1'
 refine (eicloneProgram k p).trans (ww1 (L := xf1 k _ _) (a := p.2.2.2) (fun n i h h0 ht hd hw hlen => ?_) (fun n hd => ?_) (by omega) (by omega))
 · refine (if_pos hd).trans ((if_pos h0).trans ?_)
   have hx := h2 _ (List.getElem_mem h)
   have g1 : (p.2.2.2[i]).2.1.length ≤ N := (z6 hx.2.1).1
   obtain ⟨g2', g3⟩ := z6 hx.2.2
   have g2 : (p.2.2.2[i]).2.2.length ≤ N := g2'
   dsimp only
   rw [ht, ix_at h, ficloneLinks _ (by omega) (by omega), Option.bind_some]
   refine ww1 (L := ve1 k _ _) (a := (p.2.2.2[i]).2.2) (fun m j hj j0 jt jd jw jlen => ?_) (fun m jd => ?_) (by omega) (by omega)
   · refine (if_pos jd).trans ((if_pos j0).trans ?_)
     have hy := g3 _ (List.getElem_mem hj)
     have e1 : ((p.2.2.2[i]).2.2[j]).2.1.length ≤ N := (z6 hy.2.1).1
     have e2 : ((p.2.2.2[i]).2.2[j]).2.2.length ≤ N := (z6 hy.2.2).1
     dsimp only
     rw [jt, ix_at hj, ficloneTable _ (by omega) (by omega) (by omega), Option.bind_some, if_pos (by rw [jlen]; simp; omega), jw]
   · refine (if_neg (by rw [jd]; decide)).trans ?_
     dsimp only
     rw [if_pos (by rw [hlen]; simp; omega), hw]
 · exact (if_neg (by rw [hd]; decide))
theorem fsl17Copy {k N : Nat} (p : xd) (hr : j8 N j3 p) (hN : N ≤ 1048576) (hk : N + 4 ≤ k) : zj2 k p = some p := by
 obtain ⟨k, rfl⟩ := pred (d := 0) (show 1 ≤ k by omega)
 obtain ⟨h1', h2⟩ := z6 hr.2.2.2
 have h1 : p.2.2.2.length ≤ N := h1'
 refine (esl17Copy k p).trans (ww1 (L := yt2 k _ _) (a := p.2.2.2) (fun n i h h0 ht hd hw hlen => ?_) (fun n hd => ?_) (by omega) (by omega))
 · refine (if_pos hd).trans ((if_pos h0).trans ?_)
   have hx := h2 _ (List.getElem_mem h)
   have g1 : (p.2.2.2[i]).2.1.length ≤ N := (z6 hx.2.1).1
   obtain ⟨g2', g3⟩ := z6 hx.2.2
   have g2 : (p.2.2.2[i]).2.2.length ≤ N := g2'
   dsimp only
   rw [ht, ix_at h, if_pos h0, ix_at h, if_pos (by omega)]
   refine ww1 (L := xp1 k _ _) (a := (p.2.2.2[i]).2.2) (fun m j hj j0 jt jd jw jlen => ?_) (fun m jd => ?_) (by omega) (by omega)
   · refine (show xp1 k _ _ (m + 1) _ = (if (0 : Int) ≤ (i : Int) then ix p.2.2.2 (i : Int).toNat _ else none) from rfl).trans ?_
     rw [if_pos h0, ht, ix_at h]
     have hy := g3 _ (List.getElem_mem hj)
     have e1 : ((p.2.2.2[i]).2.2[j]).2.1.length ≤ N := (z6 hy.2.1).1
     have e2 : ((p.2.2.2[i]).2.2[j]).2.2.length ≤ N := (z6 hy.2.2).1
     dsimp only
     rw [if_pos jd, if_pos h0, ix_at h, if_pos j0, jt, ix_at hj, fsl15Copy _ (by omega) (by omega) (by omega), Option.bind_some, if_pos (by rw [jlen]; simp; omega), jw]
   · refine (show xp1 k _ _ (m + 1) _ = (if (0 : Int) ≤ (i : Int) then ix p.2.2.2 (i : Int).toNat _ else none) from rfl).trans ?_
     rw [if_pos h0, ht, ix_at h]
     dsimp only
     rw [if_neg (by rw [jd]; decide), if_pos (by rw [hlen]; simp; omega), hw]
 · exact (if_neg (by rw [hd]; decide))
theorem ficloneWorld {k N : Nat} (w : TW) (hr : j8 N xb w) (hN : N ≤ 1048576) (hk : N + 5 ≤ k) : yh k w = some w := by
 obtain ⟨k, rfl⟩ := pred (d := 0) (show 1 ≤ k by omega)
 obtain ⟨r1, r2, r3, r4, r5, r6, r7, r8, r9, r10, r11, r12, r13, r14⟩ := hr
 have h3 : w.2.2.1.length ≤ N := (z6 (e := 3) (sh := .i .i64) r3).1
 have h4 : w.2.2.2.1.length ≤ N := (z6 r4).1
 have h5 : w.2.2.2.2.1.length ≤ N := (z6 r5).1
 have h7 : w.2.2.2.2.2.2.1.length ≤ N := (z6 r7).1
 have h8 : w.2.2.2.2.2.2.2.1.length ≤ N := (z6 r8).1
 have h10 : w.2.2.2.2.2.2.2.2.2.1.length ≤ N := (z6 r10).1
 have h13 : w.2.2.2.2.2.2.2.2.2.2.2.2.1.length ≤ N := (z6 r13).1
 have h14 : w.2.2.2.2.2.2.2.2.2.2.2.2.2.length ≤ N := (z6 r14).1
 obtain ⟨h6', q6⟩ := z6 r6
 obtain ⟨h9', q9⟩ := z6 r9
 have h6 : w.2.2.2.2.2.1.length ≤ N := h6'
 have h9 : w.2.2.2.2.2.2.2.2.1.length ≤ N := h9'
 refine (eicloneWorld k w).trans ?_
 rw [ficloneSky w.1 r1 hN (by omega), Option.bind_some, ficloneProgram w.2.1 r2 hN (by omega), Option.bind_some, yp1 _ (by omega) (by omega), Option.bind_some, yp1 _ (by omega) (by omega), Option.bind_some, fgClone_Battery _ (by omega) (by omega), Option.bind_some,
   fgClone_Flow _ (by omega) (by omega), Option.bind_some, yp1 _ (by omega) (by omega), Option.bind_some, fgClone_Fault _ (by omega) (by omega), Option.bind_some, yw3 _ (by omega) (by omega), Option.bind_some, fgClone_Sent _ (by omega) (by omega), Option.bind_some]
 refine ww1 (L := xe1 k _ _) (a := w.2.2.2.2.2.1) (fun n i h h0 ht hd hw hlen => ?_) (fun n hd => ?_) (by omega) (by omega)
 · refine (if_pos hd).trans ((if_pos h0).trans ?_)
   have hx : (w.2.2.2.2.2.1[i]).length ≤ N := (z6 (e := 0) (sh := sI6) (q6 _ (List.getElem_mem h))).1
   dsimp only
   rw [ht, ix_at h, xg3 _ (by omega) (by omega), Option.bind_some, if_pos (by rw [hlen]; simp; omega), hw]
 · refine (if_neg (by rw [hd]; decide)).trans ?_
   refine ww1 (L := jq1 k _ _) (a := w.2.2.2.2.2.2.2.2.1) (fun n i h h0 ht hd hw hlen => ?_) (fun n hd => ?_) (by omega) (by omega)
   · refine (if_pos hd).trans ((if_pos h0).trans ?_)
     have hx : (w.2.2.2.2.2.2.2.2.1[i]).2.2.length ≤ N := (z6 (e := 0) (sh := .i .i64) (q9 _ (List.getElem_mem h)).2.2).1
     dsimp only
     rw [ht, ix_at h, zm1 _ (by omega) (by omega), Option.bind_some, if_pos (by rw [hlen]; simp; omega), hw]
   · exact (if_neg (by rw [hd]; decide))
theorem fsl33Copy {k N : Nat} (w : TW) (hr : j8 N xb w) (hN : N ≤ 1048576) (hk : N + 5 ≤ k) : y53 k w = some w := by
 obtain ⟨k, rfl⟩ := pred (d := 0) (show 1 ≤ k by omega)
 obtain ⟨r1, r2, r3, r4, r5, r6, r7, r8, r9, r10, r11, r12, r13, r14⟩ := hr
 have h3 : w.2.2.1.length ≤ N := (z6 (e := 3) (sh := .i .i64) r3).1
 have h4 : w.2.2.2.1.length ≤ N := (z6 r4).1
 have h5 : w.2.2.2.2.1.length ≤ N := (z6 r5).1
 have h7 : w.2.2.2.2.2.2.1.length ≤ N := (z6 r7).1
 have h8 : w.2.2.2.2.2.2.2.1.length ≤ N := (z6 r8).1
 have h10 : w.2.2.2.2.2.2.2.2.2.1.length ≤ N := (z6 r10).1
 have h13 : w.2.2.2.2.2.2.2.2.2.2.2.2.1.length ≤ N := (z6 r13).1
 have h14 : w.2.2.2.2.2.2.2.2.2.2.2.2.2.length ≤ N := (z6 r14).1
 obtain ⟨h6', q6⟩ := z6 r6
 obtain ⟨h9', q9⟩ := z6 r9
 have h6 : w.2.2.2.2.2.1.length ≤ N := h6'
 have h9 : w.2.2.2.2.2.2.2.2.1.length ≤ N := h9'
 refine (esl33Copy k w).trans ?_
 rw [fsl33Sky w.1 r1 hN (by omega), Option.bind_some, fsl17Copy w.2.1 r2 hN (by omega), Option.bind_some, if_pos (by omega), if_pos (by omega), if_pos (by omega)]
 refine ww1 (L := w72 k _ _) (a := w.2.2.2.2.2.1) (fun n i h h0 ht hd hw hlen => ?_) (fun n hd => ?_) (by omega) (by omega)
 · refine (if_pos hd).trans ((if_pos h0).trans ?_)
   have hx : (w.2.2.2.2.2.1[i]).length ≤ N := (z6 (e := 0) (sh := sI6) (q6 _ (List.getElem_mem h))).1
   dsimp only
   rw [ht, ix_at h, fsl24Copy _ (by omega) (by omega), Option.bind_some, if_pos (by rw [hlen]; simp; omega), hw]
 · refine (if_neg (by rw [hd]; decide)).trans ?_
   dsimp only
   rw [if_pos (by omega), if_pos (by omega)]
   refine ww1 (L := zu2 k _ _) (a := w.2.2.2.2.2.2.2.2.1) (fun n i h h0 ht hd hw hlen => ?_) (fun n hd => ?_) (by omega) (by omega)
   · refine (if_pos hd).trans ((if_pos h0).trans ?_)
     have hx : (w.2.2.2.2.2.2.2.2.1[i]).2.2.length ≤ N := (z6 (e := 0) (sh := .i .i64) (q9 _ (List.getElem_mem h)).2.2).1
     dsimp only
     rw [ht, ix_at h, y62 _ (by omega) (by omega), Option.bind_some, if_pos (by rw [hlen]; simp; omega), hw]
   · refine (if_neg (by rw [hd]; decide)).trans ?_
     dsimp only
     rw [if_pos (by omega), if_pos (by omega), if_pos (by omega)]
end Go.Proofs.YthnogjmaiffagaaGreat.World
namespace Go.Proofs.YthnogjmaiffagaaGreat.World
open Go Go.V Go.Proofs
set_option linter.unusedVariables false
set_option linter.unusedSimpArgs false
set_option maxRecDepth 100000
set_option maxHeartbeats 4000000
theorem bs {α β : Type} {o : Option α} {v : α} {f : α → Option β} (h : o = some v) : o.bind f = f v := by rw [h]; rfl
/-- A world's size. -/
theorem szW (w : TW) : szT xb w = szT sSky w.1 + (szT j3 w.2.1 + (szT sLaw w.2.2.1 + (w.2.2.2.1.length + (w.2.2.2.2.1.length + (szT (.l 0 j5) w.2.2.2.2.2.1 + (w.2.2.2.2.2.2.1.length + (w.2.2.2.2.2.2.2.1.length + (szT (.l 0 z1) w.2.2.2.2.2.2.2.2.1 + (w.2.2.2.2.2.2.2.2.2.1.length + (0 + (0 + (w.2.2.2.2.2.2.2.2.2.2.2.2.1.length + w.2.2.2.2.2.2.2.2.2.2.2.2.2.length)))))))))))) := by
 have h : szT xb w = szT sSky w.1 + (szT j3 w.2.1 + (szT sLaw w.2.2.1 + (szT (.l 0 (.i .i64)) w.2.2.2.1 + (szT (.l 0 sI6) w.2.2.2.2.1 + (szT (.l 0 j5) w.2.2.2.2.2.1 + (szT (.l 0 sI4) w.2.2.2.2.2.2.1 + (szT (.l 0 (.i .i64)) w.2.2.2.2.2.2.2.1 + (szT (.l 0 z1) w.2.2.2.2.2.2.2.2.1 + (szT (.l 0 sI4) w.2.2.2.2.2.2.2.2.2.1 + (0 + (0 + (szT (.l 0 sI6) w.2.2.2.2.2.2.2.2.2.2.2.2.1 + szT (.l 0 sI4) w.2.2.2.2.2.2.2.2.2.2.2.2.2)))))))))))) := rfl
 have f1 (xs : List Int) : szT (.l 0 (.i .i64)) xs = xs.length := yd1 (e := 0) (sh := .i .i64) rfl xs
 have f4 (xs : List (Int × Int × Int × Int)) : szT (.l 0 sI4) xs = xs.length := yd1 (e := 0) (sh := sI4) rfl xs
 have f6 (xs : List (Int × Int × Int × Int × Int × Int)) : szT (.l 0 sI6) xs = xs.length := yd1 (e := 0) (sh := sI6) rfl xs
 rw [h, f1, f1, f4, f4, f4, f6, f6]
end Go.Proofs.YthnogjmaiffagaaGreat.World
namespace Go.Proofs.YthnogjmaiffagaaGreat.World
open Go Go.V Go.Proofs
set_option linter.unusedVariables false
set_option linter.unusedSimpArgs false
set_option maxRecDepth 100000
set_option maxHeartbeats 4000000
theorem fsl1In {k : Nat} (n a b : Int) (hk : 1 ≤ k) : jo3 k n a b = some (inR n a b) := by
 obtain ⟨k, rfl⟩ := pred (d := 0) hk
 rw [esl1In]
 unfold inR
 show (if ((decide (a ≤ n)) == true) = true then _ else _) = _
 cases decide (a ≤ n) <;> rfl
end Go.Proofs.YthnogjmaiffagaaGreat.World
namespace Go.Proofs.YthnogjmaiffagaaGreat.World
open Go Go.V Go.Proofs
set_option linter.unusedVariables false
set_option linter.unusedSimpArgs false
set_option maxRecDepth 100000
set_option maxHeartbeats 4000000
/-! ### Deliver -/
theorem findFrom_at {α : Type} (p : α → Bool) : ∀ (l : List α) (i : Nat), 0 ≤ xi p i l → ∃ (j : Nat) (x : α), xi p i l = ((i + j : Nat) : Int) ∧ l[j]? = some x ∧ p x = true
 | [], i, h => by simp [xi] at h
 | x :: r, i, h => by
   unfold xi at h ⊢
   by_cases hp : p x = true
   · rw [if_pos hp]
     exact ⟨0, x, by simp, by simp, hp⟩
   · rw [if_neg hp] at h ⊢
     obtain ⟨j, y, h1, h2, h3⟩ := findFrom_at p r (i + 1) h
     exact ⟨j + 1, y, by rw [h1]; congr 1; omega, by simpa using h2, h3⟩
def flowIdx (l : List (Int × Int × Int × Int)) (id : Int) : Int := xi (fun x => x.1 == id) 0 l
theorem fsl33Flow {k : Nat} (w : TW) (id : Int) (hl : w.2.2.2.2.2.2.1.length ≤ 1048576) (hk : w.2.2.2.2.2.2.1.length + 2 ≤ k) : Fsl33Flow k w id = some (flowIdx w.2.2.2.2.2.2.1 id) := by
 obtain ⟨k, rfl⟩ := pred (d := 0) (show 1 ≤ k by omega)
 refine (esl33Flow k w id).trans (row_i (L := jq2 k _ _ _) (a := w.2.2.2.2.2.2.1) (fun i l => some (xi (fun x => x.1 == id) i l)) (fun _ _ => rfl) (by omega) rfl (fun n i x r h0 ht hw hi hx ih => ?_) (by omega))
 show (if (x.1 == id) = true then some (i : Int) else _) = _
 rw [hw, ih]
 show _ = some (if (x.1 == id) = true then (i : Int) else xi (fun x => x.1 == id) (i + 1) r)
 by_cases h : (x.1 == id) = true
 · rw [if_pos h, if_pos h]
 · rw [if_neg h, if_neg h]
theorem fiflowAt {k : Nat} (w : TW) (id : Int) (hl : w.2.2.2.2.2.2.1.length ≤ 1048576) (hk : w.2.2.2.2.2.2.1.length + 4 ≤ k) : FiflowAt k w id = some (flowIdx w.2.2.2.2.2.2.1 id) := by
 obtain ⟨k, rfl⟩ := pred (d := 1) (show 2 ≤ k by omega)
 refine (eiflowAt k w id).trans ((bs ?_).trans rfl)
 obtain ⟨k, rfl⟩ := pred (d := 0) (show 1 ≤ k by omega)
 refine (w82 k _ id).trans (row_i (L := jh k _ _ _) (a := w.2.2.2.2.2.2.1) (fun i l => some (xi (fun x => x.1 == id) i l)) (fun _ _ => rfl) (by omega) rfl (fun n i x r h0 ht hw hi hx ih => ?_) (by omega))
 obtain ⟨k, rfl⟩ := pred (d := 0) (show 1 ≤ k by omega)
 refine (bs (eiflowAt_1v k x id)).trans ?_
 show (if (x.1 == id) = true then some (i : Int) else _) = _
 rw [hw, ih]
 show _ = some (if (x.1 == id) = true then (i : Int) else xi (fun x => x.1 == id) (i + 1) r)
 by_cases h : (x.1 == id) = true
 · rw [if_pos h, if_pos h]
 · rw [if_neg h, if_neg h]
abbrev TPk : Type := Int × Int × Int × Int × Int × Int
def zp1 (l : List TPk) (id : Int) : Int := xi (fun x => x.1 == id) 0 l
theorem fsFindPacket {k : Nat} (l : List TPk) (id : Int) (hl : l.length ≤ 1048576) (hk : l.length + 2 ≤ k) : xv1 k l id = some (zp1 l id) := by
 obtain ⟨k, rfl⟩ := pred (d := 0) (show 1 ≤ k by omega)
 refine (esFindPacket k l id).trans (row_i (L := wt1 k _ _ _) (a := l) (fun i l => some (xi (fun x => x.1 == id) i l)) (fun _ _ => rfl) (by omega) rfl (fun n i x r h0 ht hw hi hx ih => ?_) (by omega))
 show (if (x.1 == id) = true then some (i : Int) else _) = _
 rw [hw, ih]
 show _ = some (if (x.1 == id) = true then (i : Int) else xi (fun x => x.1 == id) (i + 1) r)
 by_cases h : (x.1 == id) = true
 · rw [if_pos h, if_pos h]
 · rw [if_neg h, if_neg h]
theorem fiFindPacket {k : Nat} (l : List TPk) (id : Int) (hl : l.length ≤ 1048576) (hk : l.length + 4 ≤ k) : zd2 k l id = some (zp1 l id) := by
 obtain ⟨k, rfl⟩ := pred (d := 1) (show 2 ≤ k by omega)
 refine (eiFindPacket k l id).trans ((bs ?_).trans rfl)
 obtain ⟨k, rfl⟩ := pred (d := 0) (show 1 ≤ k by omega)
 refine (xn1 k _ id).trans (row_i (L := yf k _ _ _) (a := l) (fun i l => some (xi (fun x => x.1 == id) i l)) (fun _ _ => rfl) (by omega) rfl (fun n i x r h0 ht hw hi hx ih => ?_) (by omega))
 obtain ⟨k, rfl⟩ := pred (d := 0) (show 1 ≤ k by omega)
 refine (bs (eiFindPacket_1v k x id)).trans ?_
 show (if (x.1 == id) = true then some (i : Int) else _) = _
 rw [hw, ih]
 show _ = some (if (x.1 == id) = true then (i : Int) else xi (fun x => x.1 == id) (i + 1) r)
 by_cases h : (x.1 == id) = true
 · rw [if_pos h, if_pos h]
 · rw [if_neg h, if_neg h]
def push (q : List TPk) (x : TPk) : List TPk × Bool := if (q.length : Int) ≥ 12 then (q, false) else if zp1 q x.1 ≥ 0 then (q, false) else (q ++ [x], true)
theorem push_len (q : List TPk) (x : TPk) : (push q x).1.length ≤ q.length + 1 := by
 unfold push
 split
 · simp
 · split <;> simp
theorem fsPushPacket {k : Nat} (q : List TPk) (x : TPk) (hl : q.length ≤ 1048576) (hk : q.length + 5 ≤ k) : w83 k q x = some (push q x) := by
 obtain ⟨k, rfl⟩ := pred (d := 0) (show 1 ≤ k by omega)
 refine (esPushPacket k q x).trans ((bs (fsl24Copy q hl (by omega))).trans ?_)
 unfold push
 by_cases h : (q.length : Int) ≥ 12
 · rw [if_pos h, decide_eq_true h, if_neg (by decide)]
 · rw [if_neg h, decide_eq_false h, if_pos (by decide)]
   refine (bs (fsFindPacket q x.1 hl (by omega))).trans ?_
   by_cases h2 : zp1 q x.1 ≥ 0
   · rw [if_pos h2, if_pos (by simpa using h2)]
   · rw [if_neg h2, if_neg (by simpa using h2), if_pos (by simp; omega)]
theorem fiPushPacket {k : Nat} (q : List TPk) (x : TPk) (hl : q.length ≤ 1048576) (hk : q.length + 5 ≤ k) : yg3 k q x = some (push q x) := by
 obtain ⟨k, rfl⟩ := pred (d := 0) (show 1 ≤ k by omega)
 refine (eiPushPacket k q x).trans ((bs (xg3 q hl (by omega))).trans ?_)
 unfold push
 by_cases h : (q.length : Int) ≥ 12
 · rw [if_pos h, decide_eq_true h, if_neg (by decide)]
 · rw [if_neg h, decide_eq_false h, if_pos (by decide)]
   refine (bs (fiFindPacket q x.1 hl (by omega))).trans ?_
   by_cases h2 : zp1 q x.1 ≥ 0
   · rw [if_pos h2, if_pos (by simpa using h2)]
   · rw [if_neg h2, if_neg (by simpa using h2), if_pos (by simp; omega)]
theorem sumL_set {α : Type} {f : α → Nat} : ∀ {l : List α} {i : Nat} (h : i < l.length) (y : α), sumL f (l.set i y) + f l[i] = sumL f l + f y
 | x :: l, 0, h, y => by simp only [List.set_cons_zero, sumL, List.getElem_cons_zero]; omega
 | x :: l, i + 1, h, y => by
   have := sumL_set (f := f) (l := l) (i := i) (by simpa using h) y
   simp only [List.set_cons_succ, sumL, List.getElem_cons_succ]
   omega
theorem fsl15Has {k : Nat} (l : List Int) (x : Int) (hl : l.length ≤ 1048576) (hk : l.length + 2 ≤ k) : xj3 k l x = some (l.any fun y => y == x) := by
 obtain ⟨k, rfl⟩ := pred (d := 0) (show 1 ≤ k by omega)
 refine (esl15Has k l x).trans (row_i (L := vk3 k _ _ _) (a := l) (fun _ l => some (l.any fun y => y == x)) (fun _ _ => rfl) (by omega) rfl (fun n i y r h0 ht hw hi hx ih => ?_) (by omega))
 show (if (y == x) = true then some true else _) = _
 rw [hw, ih, List.any_cons]
 cases (y == x) <;> rfl
theorem fgContains_int {k : Nat} (l : List Int) (x : Int) (hl : l.length ≤ 1048576) (hk : l.length + 3 ≤ k) : wr1 k l x = some (l.any fun y => y == x) := by
 obtain ⟨k, rfl⟩ := pred (d := 1) (show 2 ≤ k by omega)
 refine (egContains_int k l x).trans ((bs (v := xi (fun y => y == x) 0 l) ?_).trans (by rw [findFrom_any]))
 obtain ⟨k, rfl⟩ := pred (d := 0) (show 1 ≤ k by omega)
 refine (egIndex_int k l x).trans (row_i (L := vz1 k _ _ _) (a := l) (fun i l => some (xi (fun y => y == x) i l)) (fun _ _ => rfl) (by omega) rfl (fun n i y r h0 ht hw hi hx ih => ?_) (by omega))
 show (if (x == y) = true then some (i : Int) else _) = some (if (y == x) = true then (i : Int) else xi (fun y => y == x) (i + 1) r)
 rw [hw, ih, show (x == y) = (y == x) by rw [Bool.eq_iff_iff, beq_iff_eq, beq_iff_eq]; exact eq_comm]
 by_cases h : (y == x) = true
 · rw [if_pos h, if_pos h]
 · rw [if_neg h, if_neg h]

theorem wrap_pred {i : Nat} (h0 : 0 < i) (h : i ≤ 1048576) : IntKind.i64.wrap ((i : Int) - 1) = ((i - 1 : Nat) : Int) := by
 rw [v6 (by omega) (by omega)]; omega
/-! ### streams -/
abbrev TSt : Type := Int × Int × List Int
def chk (w : List Int) (f : Int) : Nat → List Int → Bool
 | _, [] => true
 | i, x :: r => if x ≤ f then false else if x > 9999 then false else if 0 < i ∧ (w[i - 1]?).getD 0 ≥ x then false else chk w f (i + 1) r
theorem chk_cons (w : List Int) (f : Int) (i : Nat) (x : Int) (r : List Int) : chk w f i (x :: r) = if x ≤ f then false else if x > 9999 then false else if 0 < i ∧ (w[i - 1]?).getD 0 ≥ x then false else chk w f (i + 1) r := rfl
theorem chk_sorted (w : List Int) (f : Int) : ∀ (r : List Int) (i : Nat), chk w f i r = true → w.drop i = r → (∀ y, 0 < i → w[i - 1]? = some y → ∀ z ∈ r, y < z) ∧ r.Pairwise (· < ·)
 | [], i, _, _ => ⟨fun _ _ _ _ hz => absurd hz (List.not_mem_nil), List.Pairwise.nil⟩
 | x :: r, i, h, hd => by
   rw [chk_cons] at h
   by_cases h1 : x ≤ f
   · rw [if_pos h1] at h; cases h
   rw [if_neg h1] at h
   by_cases h2 : x > 9999
   · rw [if_pos h2] at h; cases h
   rw [if_neg h2] at h
   by_cases h3 : 0 < i ∧ (w[i - 1]?).getD 0 ≥ x
   · rw [if_pos h3] at h; cases h
   rw [if_neg h3] at h
   have hx : w[i]? = some x := by
     have : (w.drop i)[0]? = some x := by rw [hd]; rfl
     simpa using this
   have hr : w.drop (i + 1) = r := by rw [← List.drop_drop, hd]; rfl
   obtain ⟨a, b⟩ := chk_sorted w f r (i + 1) h hr
   have a' := a x (by omega) (by simpa using hx)
   refine ⟨fun y hi hy z hz => ?_, List.pairwise_cons.2 ⟨a', b⟩⟩
   have hyx : y < x := by
     have : ¬ (w[i - 1]?).getD 0 ≥ x := fun h => h3 ⟨hi, h⟩
     rw [hy] at this
     simp at this
     exact this
   rcases List.mem_cons.1 hz with rfl | hz
   · exact hyx
   · exact Int.lt_trans hyx (a' z hz)
def isSt (a : TSt) : Bool := inR a.1 0 10000 && (inR a.2.1 0 10000 && (decide ((a.2.2.length : Int) ≤ 20) && chk a.2.2 a.2.1 0 a.2.2))
theorem isSt_sorted {a : TSt} (h : isSt a = true) : a.2.2.length ≤ 20 ∧ a.2.2.Pairwise (· < ·) := by
 unfold isSt at h
 simp only [Bool.and_eq_true, decide_eq_true_eq] at h
 exact ⟨by omega, (chk_sorted a.2.2 a.2.1 a.2.2 0 h.2.2.2 rfl).2⟩
theorem fsIsStream {k : Nat} (a : TSt) (hl : a.2.2.length ≤ 1048576) (hk : a.2.2.length + 3 ≤ k) : j51 k a = some (isSt a) := by
 obtain ⟨k, rfl⟩ := pred (d := 1) (show 2 ≤ k by omega)
 refine (esIsStream k a).trans ?_
 rw [fsl1In _ _ _ (by omega), fsl1In _ _ _ (by omega)]
 refine (row_i (L := jf2 k _ _ _ _ _) (a := a.2.2) (fun i l => some (inR a.1 0 10000 && (inR a.2.1 0 10000 && (decide ((a.2.2.length : Int) ≤ 20) && chk a.2.2 a.2.1 i l)))) (fun _ _ => rfl) (by omega) ?_ (fun n i x r h0 ht hw hi hx ih => ?_) (by omega)).trans rfl
 · show (if (inR a.1 0 10000 == true) = true then (if (inR a.2.1 0 10000 == true) = true then some (decide ((a.2.2.length : Int) ≤ 20)) else some false) else some false) = some (inR a.1 0 10000 && (inR a.2.1 0 10000 && (decide ((a.2.2.length : Int) ≤ 20) && true)))
   cases inR a.1 0 10000 <;> cases inR a.2.1 0 10000 <;> simp
 have hx' : a.2.2[(i : Int).toNat]? = some x := by rw [ht]; exact hx
 rw [chk_cons]
 show (if ((decide (x ≤ a.2.1)) == false) = true then _ else _) = _
 by_cases h1 : x ≤ a.2.1
 · rw [if_neg (by rw [decide_eq_true h1]; decide), if_pos h1]; simp
 rw [if_pos (by rw [decide_eq_false h1]; rfl), if_neg h1]
 refine (if_pos h0).trans ((va hx' _).trans ?_)
 by_cases h2 : x > 9999
 · refine (if_neg (by rw [decide_eq_true h2]; decide)).trans ?_
   rw [if_pos h2]; simp
 refine (if_pos (by rw [decide_eq_false h2]; rfl)).trans ?_
 rw [if_neg h2]
 by_cases hi0 : 0 < i
 · have hd : (decide ((i : Int) > 0) == true) = true := by rw [decide_eq_true (by omega)]; rfl
   refine (if_pos hd).trans ?_
   rw [wrap_pred hi0 (by omega)]
   have hp : i - 1 < a.2.2.length := by omega
   have hy : a.2.2[((i - 1 : Nat) : Int).toNat]? = some a.2.2[i - 1] := by rw [show ((i - 1 : Nat) : Int).toNat = i - 1 by omega]; exact List.getElem?_eq_getElem hp
   refine (if_pos (by omega)).trans ((va hy _).trans ((if_pos h0).trans ((va hx' _).trans ?_)))
   have hg : (a.2.2[i - 1]?).getD 0 = a.2.2[i - 1] := by rw [List.getElem?_eq_getElem hp]; rfl
   rw [hg]
   by_cases h3 : a.2.2[i - 1] ≥ x
   · refine (if_pos (decide_eq_true h3)).trans ?_
     rw [if_pos ⟨hi0, h3⟩]; simp
   · refine (if_neg (by rw [decide_eq_false h3]; decide)).trans ?_
     rw [if_neg (fun h => h3 h.2), hw]
     exact ih
 · have hd : ¬ (decide ((i : Int) > 0) == true) = true := by rw [decide_eq_false (by omega)]; decide
   refine (if_neg hd).trans ?_
   rw [if_neg (fun h => hi0 h.1), hw]
   exact ih
theorem fiIsStream {k : Nat} (a : TSt) (hl : a.2.2.length ≤ 1048576) (hk : a.2.2.length + 3 ≤ k) : jo1 k a = some (isSt a) := by
 obtain ⟨k, rfl⟩ := pred (d := 1) (show 2 ≤ k by omega)
 refine (eiIsStream k a).trans ((bs (fiInRange _ _ _ (by omega))).trans ?_)
 unfold isSt
 cases hA : inR a.1 0 10000 with
 | false => rfl
 | true =>
 refine (if_pos rfl).trans ((bs (fiInRange _ _ _ (by omega))).trans ?_)
 cases hB : inR a.2.1 0 10000 with
 | false => rfl
 | true =>
 refine (if_pos rfl).trans ?_
 by_cases hL : (a.2.2.length : Int) > 20
 · refine (if_pos (decide_eq_true hL)).trans ?_
   rw [decide_eq_false (show ¬ (a.2.2.length : Int) ≤ 20 by omega)]; rfl
 refine (if_neg (by rw [decide_eq_false hL]; decide)).trans ?_
 rw [decide_eq_true (show (a.2.2.length : Int) ≤ 20 by omega)]
 refine (row_i (L := je2 k _ _ _ _ _) (a := a.2.2) (fun i l => some (chk a.2.2 a.2.1 i l)) (fun _ _ => rfl) (by omega) rfl (fun n i x r h0 ht hw hi hx ih => ?_) (by omega)).trans rfl
 rw [chk_cons]
 show (if ((decide (x ≤ a.2.1)) == false) = true then _ else _) = _
 by_cases h1 : x ≤ a.2.1
 · rw [if_neg (by rw [decide_eq_true h1]; decide), if_pos h1]
 rw [if_pos (by rw [decide_eq_false h1]; rfl), if_neg h1]
 by_cases h2 : x > 9999
 · refine (if_neg (by rw [decide_eq_true h2]; decide)).trans ?_
   rw [if_pos h2]
 refine (if_pos (by rw [decide_eq_false h2]; rfl)).trans ?_
 rw [if_neg h2]
 by_cases hi0 : 0 < i
 · have hd : (decide ((i : Int) > 0) == true) = true := by rw [decide_eq_true (by omega)]; rfl
   refine (if_pos hd).trans ?_
   rw [wrap_pred hi0 (by omega)]
   have hp : i - 1 < a.2.2.length := by omega
   have hy : a.2.2[((i - 1 : Nat) : Int).toNat]? = some a.2.2[i - 1] := by rw [show ((i - 1 : Nat) : Int).toNat = i - 1 by omega]; exact List.getElem?_eq_getElem hp
   refine (if_pos (by omega)).trans ((va hy _).trans ?_)
   have hg : (a.2.2[i - 1]?).getD 0 = a.2.2[i - 1] := by rw [List.getElem?_eq_getElem hp]; rfl
   rw [hg]
   by_cases h3 : a.2.2[i - 1] ≥ x
   · refine (if_pos (decide_eq_true h3)).trans ?_
     rw [if_pos ⟨hi0, h3⟩]
   · refine (if_neg (by rw [decide_eq_false (show ¬ x ≤ a.2.2[i - 1] from h3)]; decide)).trans ?_
     rw [if_neg (fun h => h3 h.2), hw]
     exact ih
 · have hd : ¬ (decide ((i : Int) > 0) == true) = true := by rw [decide_eq_false (by omega)]; decide
   refine (if_neg hd).trans ?_
   rw [if_neg (fun h => hi0 h.1), hw]
   exact ih
/-! ### where a number belongs -/
def cnt (a : Int) : List Int → Nat
 | [] => 0
 | x :: r => if x < a then cnt a r + 1 else 0
theorem cnt_le (a : Int) : ∀ (l : List Int), cnt a l ≤ l.length
 | [] => Nat.le_refl 0
 | x :: r => by
   have := cnt_le a r
   unfold cnt
   split
   · simpa using this
   · omega
theorem cnt_at (a : Int) : ∀ (l : List Int) (t : Nat) (x : Int), l.Pairwise (· < ·) → l[t]? = some x → (x < a ↔ t < cnt a l)
 | [], t, x, _, h => by simp at h
 | y :: r, 0, x, _, h => by
   have : y = x := by simpa using h
   subst this
   unfold cnt
   by_cases h : y < a
   · rw [if_pos h]; exact ⟨fun _ => by omega, fun _ => h⟩
   · rw [if_neg h]; exact ⟨fun h' => absurd h' h, fun h => absurd h (by omega)⟩
 | y :: r, t + 1, x, hs, h => by
   obtain ⟨h1, h2⟩ := List.pairwise_cons.1 hs
   have hr : r[t]? = some x := by simpa using h
   have ih := cnt_at a r t x h2 hr
   have hyx : y < x := h1 x (List.mem_of_getElem? hr)
   unfold cnt
   by_cases h : y < a
   · rw [if_pos h, ih]; omega
   · rw [if_neg h]; exact ⟨fun h' => absurd (Int.lt_trans hyx h') h, fun h => absurd h (by omega)⟩
theorem fgLess_int {k : Nat} (x y : Int) (hk : 2 ≤ k) : FgLess_int k x y = some (decide (x < y)) := by
 obtain ⟨k, rfl⟩ := pred (d := 1) hk
 obtain ⟨k, rfl⟩ := pred (d := 0) (show 1 ≤ k by omega)
 refine (egLess_int (k + 1) x y).trans ((bs (egisNaN_int_225 k x)).trans ?_)
 exact if_neg (by simp)
theorem mid_eq {i j : Nat} (h1 : i ≤ 1048576) (h2 : j ≤ 1048576) : IntKind.i64.wrap (((IntKind.u64.wrap (IntKind.i64.wrap ((i : Int) + (j : Int))))).fdiv (2 ^ (min (1 : Int).toNat IntKind.u64.bits))) = (((i + j) / 2 : Nat) : Int) := by
 have e1 : IntKind.i64.wrap ((i : Int) + (j : Int)) = ((i + j : Nat) : Int) := by rw [v6 (by omega) (by omega)]; omega
 have e2 : IntKind.u64.wrap ((i + j : Nat) : Int) = ((i + j : Nat) : Int) := by
   rw [show IntKind.u64.wrap ((i + j : Nat) : Int) = ((i + j : Nat) : Int) % 18446744073709551616 from rfl]; omega
 have e3 : (2 : Int) ^ (min (1 : Int).toNat IntKind.u64.bits) = 2 := by decide
 rw [e1, e2, e3]
 have e4 : Int.fdiv ((i + j : Nat) : Int) 2 = (((i + j) / 2 : Nat) : Int) := by
   rw [Int.fdiv_eq_ediv_of_nonneg _ (by omega)]; omega
 rw [e4, v6 (by omega) (by omega)]
theorem lgBS {R : Type} {k : Nat} (X : xe → Option R) (l : List Int) (a : Int) (c : vj) (hc : c.1 = l) (hc2 : c.2.1 = a) (hs : l.Pairwise (· < ·)) (hl : l.length ≤ 1048576) (hk : 2 ≤ k) : ∀ (m n i j : Nat), j - i < n → n ≤ m → i ≤ j → j ≤ l.length → i ≤ cnt a l → cnt a l ≤ j → yx k X c m ((i : Int), (j : Int)) = X ((cnt a l : Int), (cnt a l : Int))
 | 0, n, i, j, h, hm, _, _, _, _ => by omega
 | m + 1, n, i, j, h, hm, hij, hj, hi, hj2 => by
   show (if (decide ((i : Int) < (j : Int))) = true then _ else X ((i : Int), (j : Int))) = _
   by_cases hlt : i < j
   · refine (if_pos (decide_eq_true (by omega))).trans ?_
     dsimp only
     rw [mid_eq (by omega) (by omega)]
     have hml : (i + j) / 2 < l.length := by omega
     have hx : c.1[(((i + j) / 2 : Nat) : Int).toNat]? = some l[(i + j) / 2] := by
       rw [hc, show (((i + j) / 2 : Nat) : Int).toNat = (i + j) / 2 by omega]; exact List.getElem?_eq_getElem hml
     have hat := cnt_at a l ((i + j) / 2) _ hs (List.getElem?_eq_getElem hml)
     refine (if_pos (by omega)).trans ((va hx _).trans ((bs (fgLess_int _ _ hk)).trans ?_))
     rw [hc2]
     by_cases hd : l[(i + j) / 2] < a
     · refine (if_pos (decide_eq_true hd)).trans ?_
       rw [show IntKind.i64.wrap ((((i + j) / 2 : Nat) : Int) + 1) = (((i + j) / 2 + 1 : Nat) : Int) by rw [v6 (by omega) (by omega)]; omega]
       have := hat.1 hd
       exact lgBS X l a c hc hc2 hs hl hk m (n - 1) _ _ (by omega) (by omega) (by omega) hj (by omega) hj2
     · refine (if_neg (by rw [decide_eq_false hd]; decide)).trans ?_
       have : ¬ (i + j) / 2 < cnt a l := fun h => hd (hat.2 h)
       exact lgBS X l a c hc hc2 hs hl hk m (n - 1) _ _ (by omega) (by omega) (by omega) (by omega) hi (by omega)
   · refine (if_neg (by rw [decide_eq_false (by omega)]; decide)).trans ?_
     rw [show i = cnt a l by omega, show j = cnt a l by omega]
theorem j24 {k : Nat} (l : List Int) (a : Int) (hs : l.Pairwise (· < ·)) (hl : l.length ≤ 1048576) (hk : l.length + 3 ≤ k) : ∃ b, ww k l a = some ((cnt a l : Int), b) := by
 obtain ⟨k, rfl⟩ := pred (d := 1) (show 2 ≤ k by omega)
 have e := (v34 k l a).trans (lgBS _ l a _ rfl rfl hs hl (by omega) k (l.length + 1) 0 l.length (by omega) (by omega) (by omega) (Nat.le_refl _) (by omega) (cnt_le a l))
 dsimp only at e
 by_cases h : (cnt a l : Int) < (l.length : Int)
 · have hx : l[(cnt a l : Int).toNat]? = some (l[cnt a l]'(by omega)) := by rw [Int.toNat_natCast]; exact List.getElem?_eq_getElem (by omega)
   have e := e.trans ((if_pos (by rw [decide_eq_true h]; rfl)).trans ((if_pos (by omega)).trans (va hx _)))
   by_cases h2 : ((l[cnt a l]'(by omega)) == a) = true
   · exact ⟨true, e.trans (if_neg (by rw [h2]; decide))⟩
   · have h2' : ((l[cnt a l]'(by omega)) == a) = false := by simpa using h2
     obtain ⟨k, rfl⟩ := pred (d := 0) (show 1 ≤ k by omega)
     exact ⟨false, e.trans ((if_pos (by rw [h2']; rfl)).trans ((if_pos (by omega)).trans ((va hx _).trans ((bs (egisNaN_int k _)).trans (if_neg (by simp))))))⟩
 · exact ⟨false, e.trans (if_neg (by rw [decide_eq_false h]; decide))⟩
/-! ### what is given out -/
def give : Int → List Int → List Int → Int × List Int × List Int
 | n, o, [] => (n, o, [])
 | n, o, x :: r => if (x == n) = true then give (IntKind.i64.wrap (n + 1)) (o ++ [n]) r else (n, o, x :: r)
theorem give_len : ∀ (p : List Int) (n : Int) (o : List Int), (give n o p).2.2.length ≤ p.length
 | [], _, _ => Nat.le_refl _
 | x :: r, n, o => by
   unfold give
   split
   · have := give_len r (IntKind.i64.wrap (n + 1)) (o ++ [n])
     simp only [List.length_cons]; omega
   · exact Nat.le_refl _
theorem lsGive {R : Type} {k : Nat} (X0 : zh → Int → Option R) (X1 : zh → Option R) (c : j21) (hX : ∀ v x, X0 v x = X1 v) : ∀ (p : List Int) (m : Nat) (n : Int) (o : List Int), o.length + p.length ≤ 1048577 → p.length < m → j11 k X0 X1 c m (n, o, p) = X1 (give n o p)
 | _, 0, _, _, _, h => by omega
 | [], m + 1, n, o, _, _ => by
   unfold j11 wo2
   exact if_neg (by simp)
 | x :: r, m + 1, n, o, ho, hm => by
   have hlen : (x :: r).length = r.length + 1 := rfl
   have hd : ((decide (((x :: r).length : Int) > 0)) == true) = true := by rw [decide_eq_true (by omega)]; rfl
   show (if ((decide (((x :: r).length : Int) > 0)) == true) = true then _ else _) = _
   refine (if_pos hd).trans ((if_pos (by show 0 < ((x :: r).length : Int); omega)).trans ((va (x := x) rfl _).trans ?_))
   unfold give
   by_cases h : (x == n) = true
   · refine (if_pos h).trans ?_
     have e : ((x :: r).take (((x :: r).length : Int).toNat)).drop ((1 : Int).toNat) = r := by simp
     refine (if_pos (by show (o.length + [n].length) * 8 ≤ 140737488355328; simp; omega)).trans ((if_pos (by show 1 ≤ ((x :: r).length : Int); omega)).trans ((if_pos (Int.le_refl _)).trans ((if_pos (by show (0 + (((x :: r).take (((x :: r).length : Int).toNat)).drop ((1 : Int).toNat)).length) * 8 ≤ 140737488355328; rw [e]; omega)).trans ?_)))
     show j11 k X0 X1 c m (IntKind.i64.wrap (n + 1), o ++ [n], ((x :: r).take (((x :: r).length : Int).toNat)).drop ((1 : Int).toNat)) = _
     rw [e, if_pos h]
     exact lsGive X0 X1 c hX r m _ _ (by simp; omega) (by omega)
   · refine (if_neg h).trans ?_
     rw [if_neg h]
     exact hX _ _
theorem liGive {R : Type} {k : Nat} (X0 : vg → Int → Option R) (X1 : vg → Option R) (c : y31) (hX : ∀ v x, X0 v x = X1 v) : ∀ (p : List Int) (m : Nat) (n : Int) (o : List Int), o.length + p.length ≤ 1048577 → p.length < m → xa1 k X0 X1 c m (n, o, p) = X1 (give n o p)
 | _, 0, _, _, _, h => by omega
 | [], m + 1, n, o, _, _ => by
   unfold xa1 jn2
   exact if_neg (by simp)
 | x :: r, m + 1, n, o, ho, hm => by
   have hlen : (x :: r).length = r.length + 1 := rfl
   have hd : ((decide (((x :: r).length : Int) > 0)) == true) = true := by rw [decide_eq_true (by omega)]; rfl
   show (if ((decide (((x :: r).length : Int) > 0)) == true) = true then _ else _) = _
   refine (if_pos hd).trans ((if_pos (by show 0 < ((x :: r).length : Int); omega)).trans ((va (x := x) rfl _).trans ?_))
   unfold give
   by_cases h : (x == n) = true
   · refine (if_pos h).trans ?_
     have e : ((x :: r).take (((x :: r).length : Int).toNat)).drop ((1 : Int).toNat) = r := by simp
     refine (if_pos (by show (o.length + [n].length) * 8 ≤ 140737488355328; simp; omega)).trans ((if_pos (by show 1 ≤ ((x :: r).length : Int); omega)).trans ((if_pos (Int.le_refl _)).trans ?_))
     show xa1 k X0 X1 c m (IntKind.i64.wrap (n + 1), o ++ [n], ((x :: r).take (((x :: r).length : Int).toNat)).drop ((1 : Int).toNat)) = _
     rw [e, if_pos h]
     exact liGive X0 X1 c hX r m _ _ (by simp; omega) (by omega)
   · refine (if_neg h).trans ?_
     rw [if_neg h]
     exact hX _ _

/-! ### a packet that is taken in -/
def accL (a : TSt) (n : Int) : List Int := a.2.2.take (cnt n a.2.2) ++ n :: a.2.2.drop (cnt n a.2.2)
def acc (a : TSt) (n : Int) : TSt × List Int × Bool :=
 if isSt a = true then if inR n 0 9999 = true then if n < a.2.1 then (a, [], true) else if (a.2.2.any fun y => y == n) = true then (a, [], true) else
   if isSt (a.1, (give a.2.1 [] (accL a n)).1, (give a.2.1 [] (accL a n)).2.2) = true then ((a.1, (give a.2.1 [] (accL a n)).1, (give a.2.1 [] (accL a n)).2.2), (give a.2.1 [] (accL a n)).2.1, true) else (a, [], false)
 else (a, [], false) else (a, [], false)
theorem accL_len (a : TSt) (n : Int) : (accL a n).length = a.2.2.length + 1 := by
 have := cnt_le n a.2.2
 unfold accL
 simp; omega
theorem acc_len (a : TSt) (n : Int) : (acc a n).1.2.2.length ≤ a.2.2.length + 1 := by
 have h := give_len (accL a n) a.2.1 []
 have h2 := accL_len a n
 unfold acc
 split <;> try (simp only; omega)
 split <;> try (simp only; omega)
 split <;> try (simp only; omega)
 split <;> try (simp only; omega)
 split
 · simp only; omega
 · simp only; omega
theorem cnt_loop {R : Type} {k : Nat} (X0 : jg → Int → Option R) (X1 : jg → Option R) (c : z31) (hX : ∀ v x, X0 v x = X1 v) (hl : c.2.1.2.2.length ≤ 1048576) (hk : c.2.1.2.2.length < k) : w21 k X0 X1 c k 0 = X1 (cnt c.1 c.2.1.2.2 : Int) := by
 refine (row_i (L := w21 k X0 X1 c) (X := X1) (a := c.2.1.2.2) (body := fun n i x => if (decide (x < c.1)) = true then w21 k X0 X1 c n (IntKind.i64.wrap (i + 1)) else X0 i x) (fun i l => X1 ((i + cnt c.1 l : Nat) : Int)) (fun n i => ?_) (by omega) rfl (fun n i x r h0 ht hw hi hx ih => ?_) hk).trans (by simp)
 · show (if ((decide (i < (c.2.1.2.2.length : Int))) == true) = true then _ else _) = _
   rw [beq_true]
 · show (if (decide (x < c.1)) = true then _ else _) = _
   unfold cnt
   by_cases h : x < c.1
   · rw [if_pos (decide_eq_true h), if_pos h, hw, ih]
     congr 2; omega
   · rw [if_neg (by rw [decide_eq_false h]; decide), if_neg h]
     exact hX _ _
theorem fsAcceptSeq {k : Nat} (a : TSt) (n : Int) (hl : a.2.2.length ≤ 1048576) (hk : a.2.2.length + 30 ≤ k) : x62 k a n = some (acc a n) := by
 obtain ⟨k, rfl⟩ := pred (d := 1) (show 2 ≤ k by omega)
 have es := (esAcceptSeq k a n).trans (bs (fsIsStream a hl (by omega)))
 unfold acc
 by_cases h1 : isSt a = true
 rotate_left
 · have h1' : isSt a = false := by simpa using h1
   rw [if_neg h1]
   exact es.trans ((if_neg (by rw [h1']; decide)).trans (bs (y62 a hl (by omega))))
 obtain ⟨hl20, hsort⟩ := isSt_sorted h1
 have es := es.trans ((if_pos (by rw [h1]; rfl)).trans (bs (fsl1In _ _ _ (by omega))))
 rw [if_pos h1]
 by_cases h2 : inR n 0 9999 = true
 rotate_left
 · have h2' : inR n 0 9999 = false := by simpa using h2
   rw [if_neg h2]
   exact es.trans ((if_pos (by rw [h2']; rfl)).trans (bs (y62 a hl (by omega))))
 have es := es.trans (if_neg (by rw [h2]; decide))
 rw [if_pos h2]
 by_cases h3 : n < a.2.1
 · rw [if_pos h3]
   exact es.trans ((if_neg (by rw [decide_eq_true h3]; decide)).trans (bs (y62 a hl (by omega))))
 have es := es.trans ((if_pos (by rw [decide_eq_false h3]; rfl)).trans (bs (fsl15Has a.2.2 n hl (by omega))))
 rw [if_neg h3]
 by_cases h4 : (a.2.2.any fun y => y == n) = true
 · rw [if_pos h4]
   exact es.trans ((if_pos h4).trans (bs (y62 a hl (by omega))))
 rw [if_neg h4]
 have es := es.trans (if_neg h4)
 have es := es.trans (cnt_loop _ _ _ (by intros; rfl) hl (by show a.2.2.length < k; omega))
 have es := es.trans (bs (y62 a hl (by omega)))
 have hc := cnt_le n a.2.2
 have e1 : ((a.2.2.take (cnt n a.2.2 : Int).toNat).drop (0 : Int).toNat) = a.2.2.take (cnt n a.2.2) := by simp
 have e2 : ((a.2.2.take (a.2.2.length : Int).toNat).drop (cnt n a.2.2 : Int).toNat) = a.2.2.drop (cnt n a.2.2) := by simp
 have e3 : (a.2.2.take (cnt n a.2.2) ++ [n]) ++ a.2.2.drop (cnt n a.2.2) = accL a n := by unfold accL; simp
 have t1 : (a.2.2.take (cnt n a.2.2)).length ≤ a.2.2.length := by simp; omega
 have t2 : (a.2.2.drop (cnt n a.2.2)).length ≤ a.2.2.length := by simp
 dsimp only at es
 rw [e1, e2] at es
 have es := es.trans ((if_pos (by omega)).trans ((if_pos (by omega)).trans ((if_pos (by omega)).trans ((if_pos (by simp; omega)).trans ((if_pos (by omega)).trans ((if_pos (by omega)).trans ((if_pos (Int.le_refl _)).trans (if_pos (by simp; omega)))))))))
 rw [e3] at es
 have hal := accL_len a n
 have es := es.trans (lsGive _ _ _ (by intros; rfl) (accL a n) k a.2.1 [] (by simp; omega) (by omega))
 have hg := give_len (accL a n) a.2.1 []
 have es := es.trans (bs (fsIsStream _ (by show (give a.2.1 [] (accL a n)).2.2.length ≤ _; omega) (by show (give a.2.1 [] (accL a n)).2.2.length + 3 ≤ _; omega)))
 by_cases h5 : isSt (a.1, (give a.2.1 [] (accL a n)).1, (give a.2.1 [] (accL a n)).2.2) = true
 · rw [if_pos h5]
   exact es.trans (if_neg (by rw [h5]; decide))
 · have h5' : isSt (a.1, (give a.2.1 [] (accL a n)).1, (give a.2.1 [] (accL a n)).2.2) = false := by simpa using h5
   rw [if_neg h5]
   exact es.trans ((if_pos (by rw [h5']; rfl)).trans (bs (y62 a hl (by omega))))
theorem fiAcceptSeq {k : Nat} (a : TSt) (n : Int) (hl : a.2.2.length ≤ 1048576) (hk : a.2.2.length + 30 ≤ k) : xo2 k a n = some (acc a n) := by
 obtain ⟨k, rfl⟩ := pred (d := 1) (show 2 ≤ k by omega)
 have es := (eiAcceptSeq k a n).trans (bs (fiIsStream a hl (by omega)))
 unfold acc
 by_cases h1 : isSt a = true
 rotate_left
 · have h1' : isSt a = false := by simpa using h1
   rw [if_neg h1]
   exact es.trans ((if_neg (by rw [h1']; decide)).trans (bs (zm1 a hl (by omega))))
 obtain ⟨hl20, hsort⟩ := isSt_sorted h1
 have es := es.trans ((if_pos (by rw [h1]; rfl)).trans (bs (fiInRange _ _ _ (by omega))))
 rw [if_pos h1]
 by_cases h2 : inR n 0 9999 = true
 rotate_left
 · have h2' : inR n 0 9999 = false := by simpa using h2
   rw [if_neg h2]
   exact es.trans ((if_pos (by rw [h2']; rfl)).trans (bs (zm1 a hl (by omega))))
 have es := es.trans ((if_neg (by rw [h2]; decide)).trans (bs (zm1 a hl (by omega))))
 rw [if_pos h2]
 by_cases h3 : n < a.2.1
 · rw [if_pos h3]
   exact es.trans (if_neg (by rw [decide_eq_true h3]; decide))
 have es := es.trans ((if_pos (by rw [decide_eq_false h3]; rfl)).trans (bs (fgContains_int a.2.2 n hl (by omega))))
 rw [if_neg h3]
 by_cases h4 : (a.2.2.any fun y => y == n) = true
 · rw [if_pos h4]
   exact es.trans (if_pos h4)
 rw [if_neg h4]
 obtain ⟨b, hb⟩ := j24 (k := k) a.2.2 n hsort hl (by omega)
 have es := es.trans ((if_neg h4).trans (bs hb))
 have hc := cnt_le n a.2.2
 have hal := accL_len a n
 have hins : zb2 k a.2.2 (cnt n a.2.2 : Int) [n] = some (accL a n) := by
   obtain ⟨k, rfl⟩ := pred (d := 0) (show 1 ≤ k by omega)
   refine (egInsert_int k a.2.2 _ [n]).trans ?_
   refine (if_pos (by omega)).trans ((if_pos (by omega)).trans ((if_pos (by omega)).trans ?_))
   unfold insB accL
   simp
 have es := es.trans (bs hins)
 have es := es.trans (liGive _ _ _ (by intros; rfl) (accL a n) k a.2.1 [] (by simp; omega) (by omega))
 have hg := give_len (accL a n) a.2.1 []
 have es := es.trans (bs (fiIsStream _ (by show (give a.2.1 [] (accL a n)).2.2.length ≤ _; omega) (by show (give a.2.1 [] (accL a n)).2.2.length + 3 ≤ _; omega)))
 by_cases h5 : isSt (a.1, (give a.2.1 [] (accL a n)).1, (give a.2.1 [] (accL a n)).2.2) = true
 · rw [if_pos h5]
   exact es.trans (if_neg (by rw [h5]; decide))
 · have h5' : isSt (a.1, (give a.2.1 [] (accL a n)).1, (give a.2.1 [] (accL a n)).2.2) = false := by simpa using h5
   rw [if_neg h5]
   exact es.trans ((if_pos (by rw [h5']; rfl)).trans (bs (zm1 a hl (by omega))))
/-! ### a packet that is taken out -/
def takeP (q : List TPk) (i : Int) : List TPk × TPk × Bool := if isIdx i (q.length : Int) = true then (q.take i.toNat ++ q.drop (i.toNat + 1), (q[i.toNat]?).getD (0, 0, 0, 0, 0, 0), true) else (q, (0, 0, 0, 0, 0, 0), false)
theorem takeP_len (q : List TPk) (i : Int) : (takeP q i).1.length ≤ q.length := by
 unfold takeP
 split
 · rename_i h
   obtain ⟨_, h⟩ := j63 h
   simp; omega
 · exact Nat.le_refl _
theorem fsTakePacket {k : Nat} (q : List TPk) (i : Int) (hl : q.length ≤ 1048576) (hk : 3 ≤ k) : zb3 k q i = some (takeP q i) := by
 obtain ⟨k, rfl⟩ := pred (d := 0) (show 1 ≤ k by omega)
 have es := (esTakePacket k q i).trans (bs (fsl1In _ _ _ (by omega)))
 rw [inR_last _ (by omega)] at es
 unfold takeP
 by_cases h : isIdx i (q.length : Int) = true
 rotate_left
 · have h' : isIdx i (q.length : Int) = false := by simpa using h
   rw [if_neg h]
   exact es.trans ((if_pos (by rw [h']; rfl)).trans (bs (fsl24Copy q hl (by omega))))
 obtain ⟨h0, hi⟩ := j63 h
 have hw : IntKind.i64.wrap (i + 1) = i + 1 := v6 (by omega) (by omega)
 rw [hw] at es
 have hx : q[i.toNat]? = some q[i.toNat] := List.getElem?_eq_getElem hi
 have e1 : ((q.take i.toNat).drop (0 : Int).toNat) = q.take i.toNat := by simp
 have e2 : ((q.take (q.length : Int).toNat).drop (i + 1).toNat) = q.drop (i.toNat + 1) := by
   rw [show (i + 1).toNat = i.toNat + 1 by omega]; simp
 rw [e1, e2] at es
 have t1 : (q.take i.toNat).length ≤ q.length := by simp; omega
 have t2 : (q.drop (i.toNat + 1)).length ≤ q.length := by simp
 rw [if_pos h, hx]
 exact es.trans ((if_neg (by rw [h]; decide)).trans ((if_pos h0).trans ((if_pos (by omega)).trans ((if_pos (by omega)).trans ((if_pos (by omega)).trans ((if_pos (Int.le_refl _)).trans ((if_pos h0).trans ((va hx _).trans ((if_pos (by omega)).trans (if_pos (by omega)))))))))))
theorem fiTakePacket {k : Nat} (q : List TPk) (i : Int) (hl : q.length ≤ 1048576) (hk : 4 ≤ k) : jf3 k q i = some (takeP q i) := by
 obtain ⟨k, rfl⟩ := pred (d := 1) (show 2 ≤ k by omega)
 obtain ⟨k, rfl⟩ := pred (d := 0) (show 1 ≤ k by omega)
 have es := (eiTakePacket (k + 1) q i).trans ((bs (xg3 q hl (by omega))).trans (bs (fiisIndex _ _ (by omega))))
 unfold takeP
 by_cases h : isIdx i (q.length : Int) = true
 rotate_left
 · have h' : isIdx i (q.length : Int) = false := by simpa using h
   rw [if_neg h]
   exact es.trans (if_pos (by rw [h']; rfl))
 obtain ⟨h0, hi⟩ := j63 h
 have hw : IntKind.i64.wrap (i + 1) = i + 1 := v6 (by omega) (by omega)
 rw [hw] at es
 have hx : q[i.toNat]? = some q[i.toNat] := List.getElem?_eq_getElem hi
 have hd : j72 (k + 1) q i (i + 1) = some (q.take i.toNat ++ q.drop (i.toNat + 1)) := by
   refine (egDelete_Packet k q i (i + 1)).trans ?_
   rw [if_pos h0, if_pos (by omega), if_pos (by omega), show (i + 1).toNat = i.toNat + 1 by omega]
 rw [if_pos h, hx]
 exact es.trans ((if_neg (by rw [h]; decide)).trans ((bs hd).trans ((if_pos h0).trans (va hx _))))
end Go.Proofs.YthnogjmaiffagaaGreat.World
namespace Go.Proofs.YthnogjmaiffagaaGreat.World
open Go Go.V Go.Proofs
set_option linter.unusedVariables false
set_option linter.unusedSimpArgs false
set_option maxRecDepth 100000
set_option maxHeartbeats 4000000
def withD (w : TW) (q : List (List TPk)) (s : List TSt) (p : List TPk) (n : List (Int × Int × Int × Int)) : TW := (w.1, w.2.1, w.2.2.1, w.2.2.2.1, w.2.2.2.2.1, q, w.2.2.2.2.2.2.1, w.2.2.2.2.2.2.2.1, s, w.2.2.2.2.2.2.2.2.2.1, w.2.2.2.2.2.2.2.2.2.2.1, w.2.2.2.2.2.2.2.2.2.2.2.1, p, n)
theorem stepDeliver {N : Nat} (k : Nat) (w : TW) (x : Int × Int × Int × Int) (hr : j8 N xb w) (hN : N ≤ 1048576) (hk : N + 50 ≤ k) :
   ∃ r b, FsDeliver k w x = some (r, b) ∧ jc4 k w x = some (r, b) ∧ szT xb r ≤ szT xb w + 3 := by
 obtain ⟨k, rfl⟩ := pred (d := 0) (show 1 ≤ k by omega)
 have l7 : w.2.2.2.2.2.2.1.length ≤ N := (z6 hr.2.2.2.2.2.2.1).1
 obtain ⟨l6', q6⟩ := z6 hr.2.2.2.2.2.1
 have l6 : w.2.2.2.2.2.1.length ≤ N := l6'
 obtain ⟨l9', q9⟩ := z6 hr.2.2.2.2.2.2.2.2.1
 have l9 : w.2.2.2.2.2.2.2.2.1.length ≤ N := l9'
 have l13 : w.2.2.2.2.2.2.2.2.2.2.2.2.1.length ≤ N := (z6 hr.2.2.2.2.2.2.2.2.2.2.2.2.1).1
 have l14 : w.2.2.2.2.2.2.2.2.2.2.2.2.2.length ≤ N := (z6 hr.2.2.2.2.2.2.2.2.2.2.2.2.2).1
 have CW : yh k w = some w := ficloneWorld w hr hN (by omega)
 have es := (esDeliver k w x).trans ((bs (fsl33Copy w hr hN (by omega))).trans (bs (fsl1In _ _ _ (by omega))))
 have ei := (eiDeliver k w x).trans (bs (fiisIndex _ _ (by omega)))
 rw [inR_last _ (by omega)] at es
 cases hA : isIdx x.2.1 (w.2.2.2.2.2.1.length : Int) with
 | false =>
   rw [hA] at es ei
   exact ⟨w, false, es.trans (if_neg (by decide)), ei.trans ((if_neg (by decide)).trans (bs CW)), by omega⟩
 | true =>
 obtain ⟨a0, a1⟩ := j63 hA
 rw [hA] at es ei
 have es := es.trans ((if_pos rfl).trans (bs (fsl1In _ _ _ (by omega))))
 have ei := ei.trans ((if_pos rfl).trans (bs (fiisIndex _ _ (by omega))))
 rw [inR_last _ (by omega)] at es
 cases hB : isIdx x.2.2.1 (w.2.2.2.2.2.1.length : Int) with
 | false =>
   rw [hB] at es ei
   exact ⟨w, false, es.trans (if_neg (by decide)), ei.trans ((if_neg (by decide)).trans (bs CW)), by omega⟩
 | true =>
 obtain ⟨b0, b1⟩ := j63 hB
 rw [hB] at es ei
 have es := es.trans (if_pos rfl)
 have ei := ei.trans (if_pos rfl)
 by_cases hC : (x.2.1 == x.2.2.1) = true
 · exact ⟨w, false, es.trans (if_pos hC), ei.trans ((if_pos hC).trans (bs CW)), by omega⟩
 have hC' : x.2.1 ≠ x.2.2.1 := by simpa using hC
 have hAB : x.2.1.toNat ≠ x.2.2.1.toNat := by omega
 have hq : w.2.2.2.2.2.1[x.2.1.toNat]? = some w.2.2.2.2.2.1[x.2.1.toNat] := List.getElem?_eq_getElem a1
 have hql : (w.2.2.2.2.2.1[x.2.1.toNat]).length ≤ N := (z6 (e := 0) (sh := sI6) (q6 _ (List.getElem_mem a1))).1
 have hq2 : w.2.2.2.2.2.1[x.2.2.1.toNat]? = some w.2.2.2.2.2.1[x.2.2.1.toNat] := List.getElem?_eq_getElem b1
 have hql2 : (w.2.2.2.2.2.1[x.2.2.1.toNat]).length ≤ N := (z6 (e := 0) (sh := sI6) (q6 _ (List.getElem_mem b1))).1
 have es := es.trans ((if_neg hC).trans ((if_pos a0).trans ((va hq _).trans ((if_pos a0).trans ((va hq _).trans ((bs (fsFindPacket _ _ (by omega) (by omega))).trans ((bs (fsTakePacket _ _ (by omega) (by omega))).trans (bs (fsl33Flow _ _ (by omega) (by omega))))))))))
 have ei := ei.trans ((if_neg hC).trans ((bs CW).trans ((if_pos a0).trans ((va hq _).trans ((if_pos a0).trans ((va hq _).trans ((bs (fiFindPacket _ _ (by omega) (by omega))).trans ((bs (fiTakePacket _ _ (by omega) (by omega))).trans (bs (fiflowAt _ _ (by omega) (by omega)))))))))))
 have htl := takeP_len w.2.2.2.2.2.1[x.2.1.toNat] (zp1 w.2.2.2.2.2.1[x.2.1.toNat] x.2.2.2)
 generalize takeP w.2.2.2.2.2.1[x.2.1.toNat] (zp1 w.2.2.2.2.2.1[x.2.1.toNat] x.2.2.2) = t at es ei htl
 obtain ⟨t1, tp, tb⟩ := t
 dsimp only at htl
 cases tb with
 | false => exact ⟨w, false, es.trans (if_neg (by simp)), ei.trans ((if_neg (by simp)).trans (bs CW)), by omega⟩
 | true =>
 have es := es.trans (if_pos rfl)
 have ei := ei.trans (if_pos rfl)
 by_cases h1 : flowIdx w.2.2.2.2.2.2.1 tp.2.1 < 0
 · have c : ¬ ((decide (flowIdx w.2.2.2.2.2.2.1 tp.2.1 < 0)) == false) = true := by rw [decide_eq_true h1]; decide
   exact ⟨w, false, es.trans (if_neg c), ei.trans ((if_neg c).trans (bs CW)), by omega⟩
 have c1 : ((decide (flowIdx w.2.2.2.2.2.2.1 tp.2.1 < 0)) == false) = true := by rw [decide_eq_false h1]; rfl
 have es := es.trans (if_pos c1)
 have ei := ei.trans (if_pos c1)
 try dsimp only at es
 try dsimp only at ei
 generalize flowIdx w.2.2.2.2.2.2.1 tp.2.1 = j at es ei h1
 have j0 : 0 ≤ j := by omega
 by_cases h2 : j ≥ (w.2.2.2.2.2.2.2.2.1.length : Int)
 · exact ⟨w, false, es.trans (if_pos (decide_eq_true h2)), ei.trans ((if_pos (decide_eq_true h2)).trans (bs CW)), by omega⟩
 have hjl : j.toNat < w.2.2.2.2.2.2.2.2.1.length := by omega
 have c2 : ¬ decide (j ≥ (w.2.2.2.2.2.2.2.2.1.length : Int)) = true := by rw [decide_eq_false h2]; decide
 have es := es.trans (if_neg c2)
 have ei := ei.trans ((if_neg c2).trans ((if_pos a0).trans ((if_pos (by omega)).trans (va hq _))))
 have hset : ∀ (l : List (List TPk)) (i : Nat) (hi : i < l.length) (q : List TPk), szT (.l 0 j5) (l.set i q) + l[i].length = szT (.l 0 j5) l + q.length := by
   intro l i hi q
   have hs : sumL (szT j5) (l.set i q) + szT j5 l[i] = sumL (szT j5) l + szT j5 q := sumL_set (f := szT j5) hi q
   have e1 : szT j5 q = q.length := yd1 (e := 0) (sh := sI6) rfl q
   have e2 : szT j5 l[i] = l[i].length := yd1 (e := 0) (sh := sI6) rfl _
   have g1 : szT (.l 0 j5) (l.set i q) = (l.set i q).length + sumL (szT j5) (l.set i q) := szT_rowS 0 j5 _
   have g2 : szT (.l 0 j5) l = l.length + sumL (szT j5) l := szT_rowS 0 j5 _
   rw [List.length_set] at g1
   omega
 by_cases hD : (tp.2.2.2.2.1 == x.2.2.1) = true
 · have hD' : (x.2.2.1 == tp.2.2.2.2.1) = true := by rw [beq_iff_eq] at hD ⊢; exact hD.symm
   have hs : w.2.2.2.2.2.2.2.2.1[j.toNat]? = some w.2.2.2.2.2.2.2.2.1[j.toNat] := List.getElem?_eq_getElem hjl
   have hsl : (w.2.2.2.2.2.2.2.2.1[j.toNat]).2.2.length ≤ N := (z6 (e := 3) (sh := .i .i64) ((q9 _ (List.getElem_mem hjl)).2.2)).1
   have es := es.trans ((if_pos hD).trans ((if_pos j0).trans ((va hs _).trans (bs (fsAcceptSeq _ _ (by omega) (by omega))))))
   have ei := ei.trans ((if_pos hD').trans ((if_pos (by simp; omega)).trans ((if_pos j0).trans ((va hs _).trans ((bs (fiAcceptSeq _ _ (by omega) (by omega))).trans ((if_pos j0).trans ((if_pos (by omega)).trans (va hs _))))))))
   have hacc := acc_len w.2.2.2.2.2.2.2.2.1[j.toNat] tp.2.2.1
   try dsimp only at es
   try dsimp only at ei
   generalize acc w.2.2.2.2.2.2.2.2.1[j.toNat] tp.2.2.1 = g at es ei hacc
   obtain ⟨g1, go, gb⟩ := g
   dsimp only at hacc
   cases gb with
   | false => exact ⟨w, false, es.trans (if_pos rfl), ei.trans ((if_pos rfl).trans (bs CW)), by omega⟩
   | true =>
     have es := es.trans ((if_neg (by simp)).trans ((if_pos j0).trans ((if_pos (by omega)).trans ((va hs _).trans ((if_pos (by simp; omega)).trans ((if_pos a0).trans ((if_pos (by omega)).trans ((va hq _).trans (if_pos (by simp; omega))))))))))
     have ei := ei.trans ((if_neg (by simp)).trans (if_pos (by simp; omega)))
     refine ⟨withD w (w.2.2.2.2.2.1.set x.2.1.toNat t1) (w.2.2.2.2.2.2.2.2.1.set j.toNat g1) (w.2.2.2.2.2.2.2.2.2.2.2.2.1 ++ [tp]) (w.2.2.2.2.2.2.2.2.2.2.2.2.2 ++ [x]), true, es, ei, ?_⟩
     have hset1 := hset w.2.2.2.2.2.1 x.2.1.toNat a1 t1
     have hs2 : sumL (szT z1) (w.2.2.2.2.2.2.2.2.1.set j.toNat g1) + szT z1 w.2.2.2.2.2.2.2.2.1[j.toNat] = sumL (szT z1) w.2.2.2.2.2.2.2.2.1 + szT z1 g1 := sumL_set (f := szT z1) hjl g1
     have eS (s : TSt) : szT z1 s = 0 + (0 + s.2.2.length) := by
       have e : szT (.l 3 (.i .i64)) s.2.2 = s.2.2.length := yd1 (e := 3) (sh := .i .i64) rfl s.2.2
       show 0 + (0 + szT (.l 3 (.i .i64)) s.2.2) = _
       rw [e]
     have g1' : szT (.l 0 z1) (w.2.2.2.2.2.2.2.2.1.set j.toNat g1) = (w.2.2.2.2.2.2.2.2.1.set j.toNat g1).length + sumL (szT z1) (w.2.2.2.2.2.2.2.2.1.set j.toNat g1) := szT_rowS 0 z1 _
     have g2' : szT (.l 0 z1) w.2.2.2.2.2.2.2.2.1 = w.2.2.2.2.2.2.2.2.1.length + sumL (szT z1) w.2.2.2.2.2.2.2.2.1 := szT_rowS 0 z1 _
     rw [List.length_set] at g1'
     have e1 := eS g1
     have e2 := eS w.2.2.2.2.2.2.2.2.1[j.toNat]
     rw [szW, szW w]
     simp only [withD, List.length_append, List.length_cons, List.length_nil]
     omega
 · have hD' : ¬ (x.2.2.1 == tp.2.2.2.2.1) = true := by rw [beq_iff_eq] at hD ⊢; exact fun h => hD h.symm
   have es := es.trans ((if_neg hD).trans ((if_pos b0).trans ((va hq2 _).trans (bs (fsPushPacket _ _ (by omega) (by omega))))))
   have hy : (w.2.2.2.2.2.1.set x.2.1.toNat t1)[x.2.2.1.toNat]? = some w.2.2.2.2.2.1[x.2.2.1.toNat] := by rw [List.getElem?_set_ne hAB]; exact hq2
   have ei := ei.trans ((if_neg hD').trans ((if_pos b0).trans ((va hq2 _).trans ((bs (fiPushPacket _ _ (by omega) (by omega))).trans ((if_pos b0).trans ((if_pos (by show x.2.2.1 < ((w.2.2.2.2.2.1.set x.2.1.toNat t1).length : Int); rw [List.length_set]; omega)).trans (va hy _)))))))
   have hpl := push_len w.2.2.2.2.2.1[x.2.2.1.toNat] tp
   try dsimp only at es
   try dsimp only at ei
   generalize push w.2.2.2.2.2.1[x.2.2.1.toNat] tp = g at es ei hpl
   obtain ⟨g1, gb⟩ := g
   dsimp only at hpl
   cases gb with
   | false => exact ⟨w, false, es.trans (if_pos rfl), ei.trans ((if_pos rfl).trans (bs CW)), by omega⟩
   | true =>
     have hy2 : (w.2.2.2.2.2.1.set x.2.2.1.toNat g1)[x.2.1.toNat]? = some w.2.2.2.2.2.1[x.2.1.toNat] := by rw [List.getElem?_set_ne (fun h => hAB h.symm)]; exact hq
     have es := es.trans ((if_neg (by simp)).trans ((if_pos b0).trans ((if_pos (by omega)).trans ((va hq2 _).trans ((if_pos a0).trans ((if_pos (by show x.2.1 < ((w.2.2.2.2.2.1.set x.2.2.1.toNat g1).length : Int); rw [List.length_set]; omega)).trans ((va hy2 _).trans (if_pos (by simp; omega)))))))))
     have ei := ei.trans ((if_neg (by simp)).trans (if_pos (by simp; omega)))
     try dsimp only at es
     try dsimp only at ei
     rw [List.set_comm _ _ (fun h => hAB h.symm)] at es
     refine ⟨withD w ((w.2.2.2.2.2.1.set x.2.1.toNat t1).set x.2.2.1.toNat g1) w.2.2.2.2.2.2.2.2.1 w.2.2.2.2.2.2.2.2.2.2.2.2.1 (w.2.2.2.2.2.2.2.2.2.2.2.2.2 ++ [x]), true, es, ei, ?_⟩
     have hset1 := hset w.2.2.2.2.2.1 x.2.1.toNat a1 t1
     have hset2 := hset (w.2.2.2.2.2.1.set x.2.1.toNat t1) x.2.2.1.toNat (by rw [List.length_set]; exact b1) g1
     rw [List.getElem_set_ne hAB] at hset2
     rw [szW, szW w]
     simp only [withD, List.length_append, List.length_cons, List.length_nil]
     omega
end Go.Proofs.YthnogjmaiffagaaGreat.World
namespace Go.Proofs.YthnogjmaiffagaaGreat.World
open Go Go.V Go.Proofs
set_option linter.unusedVariables false
set_option linter.unusedSimpArgs false
set_option maxRecDepth 100000
set_option maxHeartbeats 4000000
theorem lFnExactDeliver (w : TW) (x : Int × Int × Int × Int) (hr : j8 140737488351232 yk w) : ∃ k, vy1 k w x = some true := by
 refine ⟨3 * szT yk w + 20000, ?_⟩
 rw [elFnExactDeliver, zlszWorld _ w 1048576 hr (by omega) (by omega) (by omega), Option.bind_some]
 by_cases hz : szT yk w ≤ 1048576
 · rw [zt2 (by omega), if_neg (by simp; omega)]
   have e60 : szT xb w = szT yk w := rfl
   have hrow := rows_le xb w (szT yk w) (Nat.le_of_eq e60)
   obtain ⟨r, b, hs, hi, hsz⟩ := stepDeliver (3 * szT yk w + 19999) w x hrow (by omega) (by omega)
   have tw := tltoWorld (3 * szT yk w + 19999) w hz (by omega)
   have t0 := tltoSent (3 * szT yk w + 19999) x (by simp [szT, szTL]) (by simp [szT, szTL])
   have qw := qleqWorld (3 * szT yk w + 19999) w (by rw [e60]; omega) (by rw [e60]; omega)
   have qr := qleqWorld (3 * szT yk w + 19999) r (by omega) (by omega)
   have mw := mlmarkWorld (3 * szT yk w + 19999) w 1 (by omega) (by rw [e60]; omega) (by rw [e60]; omega) (by rw [e60]; omega)
   have mr := mlmarkWorld (3 * szT yk w + 19999) r 1 (by omega) (by omega) (by omega) (by omega)
   have hh := hlheldWorld (3 * szT yk w + 19999) r 1 (by omega) (by omega) (by omega) (by omega)
   have nW : decide ((mkT xb w 1).2 < 0) = false := by have := vf xb w 1 rfl; rw [decide_eq_false]; omega
   have nR : decide ((mkT xb r 1).2 < 0) = false := by have := vf xb r 1 rfl; rw [decide_eq_false]; omega
   refine (bs tw).trans ?_
   refine (bs t0).trans ?_
   refine (bs hs).trans ?_
   refine (bs tw).trans ?_
   refine (bs t0).trans ?_
   refine (bs hi).trans ?_
   refine (bs qr).trans ?_
   refine (if_pos rfl).trans ?_
   refine (if_neg (by simp)).trans ?_
   refine (bs tw).trans ?_
   refine (bs qw).trans ?_
   refine (if_neg (by decide)).trans ?_
   refine (bs mw).trans ?_
   refine (if_pos (show ((decide ((mkT xb w 1).2 < 0)) == false) = true by rw [nW]; rfl)).trans ?_
   refine (bs qr).trans ?_
   refine (if_pos rfl).trans ?_
   refine (if_neg (by simp)).trans ?_
   refine (bs mr).trans ?_
   refine (bs hh).trans ?_
   refine (if_neg (by rw [nR]; decide)).trans ?_
   refine (if_neg (by simp)).trans ?_
   refine (bs tw).trans ?_
   refine (bs t0).trans ?_
   refine (bs hi).trans ?_
   refine (bs qr).trans ?_
   refine (if_pos rfl).trans ?_
   refine (if_neg (by simp)).trans ?_
   refine (bs hh).trans ?_
   refine (if_neg (by rw [nR]; decide)).trans ?_
   refine (if_neg (by simp)).trans ?_
   rfl
 · rw [jg2 (by omega), if_pos (by decide)]
end Go.Proofs.YthnogjmaiffagaaGreat.World
namespace Go.Proofs.YthnogjmaiffagaaGreat.World
open Go Go.V Go.Proofs Go.RowKit Go.Lib Go.Sort
set_option linter.unusedVariables false
theorem run_clear_k {P : Program} (w : World) (t e ty : TypeId) (z : Value) (ht : P.underlying t = some (.slice e)) (hv : ∀ w, (zeroValue e).run P w = .ok z w) (b o n c : Nat) (hn : 0 < n) (zs : List Value) (hzs : (Builtin.zeroCells z.cells n).toList = zs)
   (h1 : ∀ u ∈ zs, u.oneCell' = true) (hc : ∀ j, j < zs.length → (w.cell? ⟨b, o + j, none⟩).isSome = true) (hf : ∀ j, j < zs.length → w.frozen? ⟨b, o + j, none⟩ = false) :
   (Builtin.clear_ #[t] ty #[.slice (some ⟨b, o, none⟩) n c]).run P w = .ok (.tuple #[]) (w.setCells b o zs) := by
 have hst := run_storeCells_cells (P := P) b o zs 0 w (by simpa using hc) (by simpa using hf) h1
 simp only [Nat.add_zero] at hst
 obtain ⟨m, rfl⟩ : ∃ m, n = m + 1 := ⟨n - 1, by omega⟩
 simp [Builtin.clear_, run_underlying ht, hv, hzs, hst]
set_option maxHeartbeats 4000000 in
set_option maxRecDepth 1000000 in
theorem delete_walk (blk off cap i j m : Nat) (cur : Array Value) (w : World) (hg : w.heap[blk]? = some (.cells cur 115 (0, 0))) (hm : m ≤ cap) (hc : cap ≤ 9223372036854775807) (hcs : cur.size = off + cap * 6) (hij : i < j) (hjm : j ≤ m) (h1 : ∀ u ∈ (cur.toList.drop off).take (m * 6), u.oneCell' = true) :
   Calls Tryz.prog 150 #[.slice (some ⟨blk, off, none⟩) m cap, .int .i64 i, .int .i64 j] w fun r w' => r = .returned (.slice (some ⟨blk, off, none⟩) (m - (j - i)) cap) ∧
     w' = (w.drew.setCells blk (off + i * 6) (((cur.toList.drop off).take (m * 6)).drop (j * 6))).setCells blk (off + (i + (m - j)) * 6) (Builtin.zeroCells #[.int .i64 0, .int .i64 0, .int .i64 0, .int .i64 0, .int .i64 0, .int .i64 0] (m - (i + (m - j)))).toList := by
 obtain ⟨news, hnews⟩ : ∃ news, news = ((cur.toList.drop off).take (m * 6)).drop (j * 6) := ⟨_, rfl⟩
 have hll : ((cur.toList.drop off).take (m * 6)).length = m * 6 := by
   rw [List.length_take, List.length_drop, Array.length_toList]; omega
 have hlen : news.length = (m - j) * 6 := by rw [hnews, List.length_drop, hll]; omega
 have hcell : ∀ k, k < cap * 6 → (w.drew.cell? ⟨blk, off + k, none⟩) = cur[off + k]? := fun k hk => cell_of_row w.drew blk _ cur 115 (0, 0) hg
 have hfroz : ∀ k, w.frozen? ⟨blk, k, none⟩ = false := fun k => by simp [World.frozen?, hg]
 obtain ⟨A, hA, hsrc⟩ : ∃ A : Addr, (if cap = j then (some ⟨blk, off, none⟩ : Option Addr) else some ⟨blk, off + j * 6, none⟩) = some A ∧ Hid (∀ t u, news[t]? = some u → w.drew.cell? (A.add t) = some u) := by
   by_cases h : cap = j
   · refine ⟨⟨blk, off, none⟩, by simp [h], fun t u hu => ?_⟩
     have h0 : news.length = 0 := by rw [hlen]; omega
     rw [List.length_eq_zero_iff.1 h0] at hu
     simp at hu
   · refine ⟨⟨blk, off + j * 6, none⟩, by simp [h], fun t u hu => ?_⟩
     have ht : t < (m - j) * 6 := by
       have := (List.getElem?_eq_some_iff.1 hu).1
       rwa [hlen] at this
     rw [hnews, List.getElem?_drop, List.getElem?_take] at hu
     rw [if_pos (by omega), List.getElem?_drop, Array.getElem?_toList] at hu
     rw [Addr.add_lit, show off + j * 6 + t = off + (j * 6 + t) by omega, hcell _ (by omega)]
     exact hu
 have s1 : Hid (news.length = (m - j) * 6) := hlen
 have s2 : Hid (∀ u ∈ news, u.oneCell' = true) := fun u hu => h1 u (by rw [hnews] at hu; exact List.mem_of_mem_drop hu)
 have s3 : Hid (∀ t, t < news.length → (w.drew.cell? ⟨blk, off + i * 6 + t, none⟩).isSome = true ∧ w.drew.frozen? ⟨blk, off + i * 6 + t, none⟩ = false) := by
   intro t ht
   rw [hlen] at ht
   refine ⟨?_, hfroz _⟩
   rw [Nat.add_assoc, hcell _ (by omega), Array.getElem?_eq_getElem (by omega)]
   rfl
 obtain ⟨W1, hW1⟩ : ∃ W1, W1 = w.drew.setCells blk (off + i * 6) news := ⟨_, rfl⟩
 have hz : (Builtin.zeroCells #[.int .i64 0, .int .i64 0, .int .i64 0, .int .i64 0, .int .i64 0, .int .i64 0] (m - (i + (m - j)))).toList.length = (m - (i + (m - j))) * 6 := by
   rw [Array.length_toList, size_zeroCells]; rfl
 have hcl : ∀ ty, (Builtin.clear_ #[58] ty #[.slice (some ⟨blk, off + (i + (m - j)) * 6, none⟩) (m - (i + (m - j))) (cap - (i + (m - j)))]).run Tryz.prog W1 = .ok (.tuple #[]) (W1.setCells blk (off + (i + (m - j)) * 6) (Builtin.zeroCells #[.int .i64 0, .int .i64 0, .int .i64 0, .int .i64 0, .int .i64 0, .int .i64 0] (m - (i + (m - j)))).toList) := fun ty => by
   refine run_clear_k W1 58 115 ty (.agg #[.int .i64 0, .int .i64 0, .int .i64 0, .int .i64 0, .int .i64 0, .int .i64 0]) Tryz.underlying58 Tryz.zeroValue115 blk _ _ _ (by omega) _ rfl (fun u hu => ?_) (fun k hk => ?_) (fun k hk => ?_)
   · rw [Array.mem_toList_iff] at hu
     unfold Builtin.zeroCells at hu
     obtain ⟨k, _, rfl⟩ := Array.mem_map.1 hu
     have : k % 6 = 0 ∨ k % 6 = 1 ∨ k % 6 = 2 ∨ k % 6 = 3 ∨ k % 6 = 4 ∨ k % 6 = 5 := by omega
     rcases this with h | h | h | h | h | h <;> simp [h] <;> rfl
   · rw [hz] at hk
     rw [hW1]
     by_cases hin : off + i * 6 ≤ off + (i + (m - j)) * 6 + k ∧ off + (i + (m - j)) * 6 + k < off + i * 6 + news.length
     · omega
     · rw [World.cell?_setCells_out _ _ _ _ _ (fun _ _ => by rw [hlen]; show _ < _ ∨ _ ≤ off + (i + (m - j)) * 6 + k; omega), Nat.add_assoc, hcell _ (by omega), Array.getElem?_eq_getElem (by omega)]
       rfl
   · rw [hW1, World.frozen?_setCells]
     exact hfroz _
 have hW : Hid (W1 = w.drew.setCells blk (off + i * 6) news) := hW1
 have hic : i ≤ cap := by omega
 have hjc : j ≤ cap := by omega
 rw [← hnews, ← hW1]
 clear hW1 hnews hlen hcell hfroz h1 hll hg hcs
 have mixed : Tryz.prog.follows .mixedOrders = true := by kernel_rfl
 have hi0 : Tryz.prog.info? 115 = some Tryz.t115 := by kernel_rfl
 have hz1 : Tryz.t115.size = 6 := by kernel_rfl
 go_enter Tryz.func150, Tryz.ntmps150
 go_wp2_with fail
 go_region_law_o (refine step_append_room rfl (.tmp 22) (.tmp 25) 58 rfl 115 Tryz.t115 6 Tryz.underlying58 hi0 hz1 blk off i cap (by simp [Act.eval, Act.put]) A (m - j) (cap - j) news (by simp [Act.eval, Act.put]) s1.out hsrc.out s2.out (by omega) s3.out ?_; rw [← hW.out])
 go_wp2
 go_ret
 exact ⟨by rw [show m - (j - i) = i + (m - j) by omega]; rfl, rfl⟩
end Go.Proofs.YthnogjmaiffagaaGreat.World
namespace Go.Proofs.YthnogjmaiffagaaGreat.World
open Go Go.V Go.Proofs
open Go.ChangeShapes Go.WideShapes Go.ChangeAt Go.RowKit
set_option linter.unusedVariables false
set_option maxRecDepth 100000
theorem tyOk : ∀ t i, E.ty t = some i → TyOk E.P t i := by
 intro t i h
 replace h : ty t = some i := h
 unfold ty at h
 split at h <;> first | (cases h; done) | (cases h; exact ⟨by kernel_rfl, by kernel_rfl⟩)
theorem fn0Ok : ∀ f F, fn0 f = some F → E.P.funcs[f]? = some F ∧ F.name ≠ "runtime.NumGoroutine" ∧ ∀ c, F.body = some c → zw1 c = true := by
 intro f F h
 unfold fn0 at h
 split at h <;> first | (cases h; done) | (cases h; exact ⟨by kernel_rfl, of_decide_eq_true (by kernel_rfl), fun c hc => by cases hc; kernel_rfl⟩)
theorem fn1Ok : ∀ f F, fn1 f = some F → E.P.funcs[f]? = some F ∧ F.name ≠ "runtime.NumGoroutine" ∧ ∀ c, F.body = some c → zw1 c = true := by
 intro f F h
 unfold fn1 at h
 split at h <;> first | (cases h; done) | (cases h; exact ⟨by kernel_rfl, of_decide_eq_true (by kernel_rfl), fun c hc => by cases hc; kernel_rfl⟩)
theorem fn2Ok : ∀ f F, fn2 f = some F → E.P.funcs[f]? = some F ∧ F.name ≠ "runtime.NumGoroutine" ∧ ∀ c, F.body = some c → zw1 c = true := by
 intro f F h
 unfold fn2 at h
 split at h <;> first | (cases h; done) | (cases h; exact ⟨by kernel_rfl, of_decide_eq_true (by kernel_rfl), fun c hc => by cases hc; kernel_rfl⟩)
theorem fnOk : ∀ f F, E.fn f = some F → E.P.funcs[f]? = some F ∧ F.name ≠ "runtime.NumGoroutine" ∧ ∀ c, F.body = some c → zw1 c = true := by
 intro f F h
 replace h : fn f = some F := h
 unfold fn at h
 split at h
 · rename_i F' hF
   rw [← Option.some.inj h]
   exact fn0Ok f F' hF
 split at h
 · rename_i F' hF
   rw [← Option.some.inj h]
   exact fn1Ok f F' hF
 exact fn2Ok f F h
theorem ext150Ok : Sound1 E 150 (vg3 (sh := .a [.i .i64, .i .i64, .i .i64, .i .i64, .i .i64, .i .i64])) := SoundX.sound1 (E := E) (f := 150) (extDelete_sound (sh := .a [.i .i64, .i .i64, .i .i64, .i .i64, .i .i64, .i .i64]) (e := 115) (by rfl) #[.int .i64 0, .int .i64 0, .int .i64 0, .int .i64 0, .int .i64 0, .int .i64 0] (by rfl) ⟨Tryz.f150, Tryz.func150, of_decide_eq_true (by kernel_rfl), by kernel_rfl⟩ delete_walk)
theorem ext157Ok : Sound1 E 157 (w53) := SoundX.sound1 (E := E) (f := 157) (extInsert_sound (e := 3) ⟨Tryz.f157, Tryz.func157, of_decide_eq_true (by kernel_rfl), by kernel_rfl⟩ Tryz.slices_Insert_int_shift Tryz.slices_Insert_int_end_room Tryz.slices_Insert_int_end_grow Tryz.slices_Insert_int_grow)
theorem extOk : ∀ f g, E.ext f = some g → Sound1 E f g := by
 intro f g h
 replace h : ext f = some g := h
 unfold ext at h
 split at h
 · rw [← Option.some.inj h]
   exact ext150Ok
 · rw [← Option.some.inj h]
   exact ext157Ok
 · cases h
theorem envOk : EnvOk E := ⟨tyOk, fun f F h => (fnOk f F h).1, fun f F h => (fnOk f F h).2.1, by kernel_rfl⟩
theorem sound (k : Nat) : CallOk E (den E k) := den_sound envOk (fun f F c h => (fnOk f F h).2.2 c) extOk k
end Go.Proofs.YthnogjmaiffagaaGreat.World
namespace Go.Proofs.YthnogjmaiffagaaGreat.World
open Go Go.V Go.Proofs
open Go.ChangeShapes Go.WideShapes Go.ChangeAt Go.RowKit
set_option linter.unusedVariables false
set_option maxRecDepth 100000
theorem walk4 {k : Nat} {y0 : TW} {y1 : Int × Int × Int × Int} (h : vy1 k y0 y1 = some true) {W : World} {v0 v1 : Value} (h0 : VA W (fun _ => True) (fun _ => undef) (argAV yk y0) v0) (l0 : (argAV yk y0).lt 0) (h1 : VA W (fun _ => True) (fun _ => undef) (argAV sI4 y1) v1) (l1 : (argAV sI4 y1).lt 0) :
   Calls Tryz.prog 4 #[v0, v1] W fun e W' => e = .returned (.bool true) ∧ Go.RowKit.Below W.heap.size W W' := by
 have hs := (sound k) 4 [argAV yk y0, argAV sI4 y1] true h
 refine (hs.2 (fun _ => True) W [v0, v1] [] (fun p hp => absurd (show p ∈ ([] : List (Nat × Array Value)) from hp) (by simp)) (by
   show ArgsT W (fun _ => True) [] _ _ []
   exact ⟨⟨h0, h1, trivial⟩, by intro x hx; simp at hx; rcases hx with rfl | rfl; exact l0; exact l1, rfl⟩) List.nodup_nil (by simp)).mono ?_
 rintro e W' ⟨v, rfl, hb, hr⟩
 exact ⟨by rw [resOk_bool hr], Chg.below hb⟩
theorem own : ownKnob Tryz.prog.godebug = none := by kernel_rfl
theorem lifted (os : Os) (started : os.Started) (H : Type) (enc : TypeId × Value → H) :
   ReturnsInHanded {} Tryz.checked os 4 .any (YthnogjmaiffagaaGreat.Rows.fnExactDeliverSpec.pre6 enc Tryz.prog Tryz.f4 YthnogjmaiffagaaGreat.Rows.fnExactDeliverRow.domain false) (YthnogjmaiffagaaGreat.Rows.fnExactDeliverSpec.post enc Tryz.prog Tryz.f4 false true false false) := by
 refine returnsInHanded_of_change_sized (C := Tryz.checked) own started (by kernel_rfl) Tryz.func4
   (ChangeSpec.witness6 (enc := enc) (C := Tryz.checked) false ⟨#[], #[.agg #[(.int .i64 0), (.slice none 0 0), (.slice none 0 0), (.int .i64 0), (.int .i64 0), (.int .i64 0), (.int .i64 0), (.int .i64 0), (.slice none 0 0), (.int .i64 0), (.int .i64 0), (.int .i64 0), (.int .i64 0), (.slice none 0 0), (.slice none 0 0), (.slice none 0 0), (.slice none 0 0), (.slice none 0 0), (.slice none 0 0), (.slice none 0 0), (.slice none 0 0), (.slice none 0 0), (.int .i64 0), (.int .i64 0), (.slice none 0 0), (.slice none 0 0)], .agg #[(.int .i64 0), (.int .i64 0), (.int .i64 0), (.int .i64 0)]], []⟩ 8 (by kernel_rfl) (by kernel_rfl) (by kernel_rfl) (by kernel_rfl)) ?_
 intro W base args ds gs before hval0 hW hcnd hsz0 _
 have hsz : (DataW.weightsEach Tryz.prog (Tryz.f4.params.toList ++ YthnogjmaiffagaaGreat.Rows.fnExactDeliverSpec.plain.varTypes Tryz.prog) (ds ++ gs)).all (· ≤ reachBytes) = true := hsz0
 have hval : ∀ (j : Nat) t v, Tryz.f4.params[j]? = some t → args[j]? = some v → Value.okWide Tryz.prog W .any base t v := hval0
 have hW' := hW
 obtain ⟨p, q, hA0, hV, rfl, hfz, hnd⟩ := hW
 have hA : DataW.TrodAll enc Tryz.prog W 0 (fun _ => true) true Tryz.f4.params.toList args.toList ds p := hA0
 have hAA := hA
 rw [Tryz.params4] at hA hval hsz
 obtain ⟨v0, vs0, d0, ds0, p0, q0, hargs, rfl, rfl, h0, r0⟩ := trodAll_cons hA
 obtain ⟨v1, vs1, d1, ds1, p1, q1, rfl, rfl, rfl, h1, r1⟩ := trodAll_cons r0
 obtain ⟨rfl, rfl, rfl⟩ := trodAll_nil r1
 obtain rfl : args = #[v0, v1] := by cases args; simp_all
 obtain ⟨rfl, rfl⟩ := trodVars_none hV
 have hwt0 : ∀ n ∈ d0.weights Tryz.prog 41, n ≤ reachBytes := by
   intro n hn
   have := List.all_eq_true.1 hsz n (by simp [DataW.weightsEach, hn])
   simpa using this
 have hwt1 : ∀ n ∈ d1.weights Tryz.prog 66, n ≤ reachBytes := by
   intro n hn
   have := List.all_eq_true.1 hsz n (by simp [DataW.weightsEach, hn])
   simpa using this
 obtain ⟨y0, a0, b0, w0⟩ := arg_VA (sh := yk) (by kernel_rfl) (hval 0 41 v0 rfl rfl) h0 hwt0
 obtain ⟨y1, a1, b1, w1⟩ := arg_VA (sh := sI4) (by kernel_rfl) (hval 1 66 v1 rfl rfl) h1 hwt1
 obtain ⟨k, hk⟩ := lFnExactDeliver y0 y1 (rows_wf (P := Tryz.prog) yk y0 (by kernel_rfl) w0)
 have hlt : ∀ x ∈ p0 ++ (p1 ++ []), x.block < W.heap.size := fun x hx => hW'.lt x (by simpa using hx)
 refine (walk4 hk a0 b0 a1 b1).mono fun e W' ⟨he, bel⟩ => ?_
 subst he
 exact ⟨_, rfl, _, _, _, [], _, [], hW', trodAll_mk1 (shut_bool Tryz.underlying4 _), za4 (by kernel_rfl) bel _ _ _ _ (by kernel_rfl) hAA hlt, rfl, bel.frame _, fun h => by cases h⟩
theorem facts_of {P : Program} {f : FuncId} {fn : Func} {s : ChangeSpec} {c : OpenClaim} (k1 : (c.wf (OpenSpec.ofChange s)) = true) (k2 : (laidOutB P) = true) (k3 : (mapsRowed P) = true) (k4 : (fn.params.all (P.readableRec ·)) = true) (k5 : (namedTie P c.named s.vars) = true) (k6 : ((c.stops == [])) = true) (k7 : ((P.stops == [])) = true) (k8 : ((c.knobs == [])) = true) (k9 : ((P.stopKnobs == [])) = true) (k10 : ((c.inPlace == P.inPlace f)) = true) (k11 : ((c.unfollowed == P.unfollowed f)) = true) (k12 : ((c.recurses == P.recurses f)) = true) (k13 : ((c.named == P.varsNamed f)) = true) (k14 : ((c.maps == (fn.params.toList ++ s.plain.varTypes P).any (P.mapsRec ·))) = true) (k15 : ((c.ifaces == (fn.params.toList ++ s.plain.varTypes P).any (P.ifacesRec ·))) = true) (k16 : ((c.mapsOut == P.mapsAmong fn.resultTypes.toList)) = true) (k17 : ((c.loops == (fn.params.toList ++ s.plain.varTypes P).any (P.loopsFrom ·))) = true) (k18 : ((c.wideKeys == (fn.params.toList ++ s.plain.varTypes P ++ fn.resultTypes.toList).any (P.wideKeysFrom ·))) = true) (k19 : (s.vars.all (P.varReadable ·)) = true) (k20 : (fn.resultTypes.all (fun t => P.readableRec t && decide (t < P.types.size))) = true) (k21 : ((c.ifacesOut == fn.resultTypes.toList.any (P.ifacesRec ·))) = true) (k22 : ((c.loopsOut == fn.resultTypes.toList.any (P.loopsFrom ·))) = true) (k23 : ((c.plainKeys == P.plainKeys)) = true) (k24 : (c.shortTexts.isNone) = true) (k25 : (P.stopsHeard) = true) (k26 : (P.mayEnter) = true) (k27 : ((c.lifted == P.liftsFinal)) = true) (k28 : ((P.make == some c.make)) = true) (k29 : ((c.kinds == (if c.domain.isEmpty then [] else fn.params.toList.map fun t => match P.underlying t with | some (.int k) => some k | _ => none))) = true) (k30 : ((c.pinned == c.pinnedBy)) = true) (k31 : ((c.veiled == (fn.params.toList ++ s.plain.varTypes P ++ fn.resultTypes.toList).any (P.veiledRec ·))) = true) (k32 : (c.veiledFits P fn.params.toList (fn.params.toList ++ s.plain.varTypes P ++ fn.resultTypes.toList)) = true) : joinedFacts P f fn s c = true := by
 unfold joinedFacts
 simp only [k1, k2, k3, k4, k5, k6, k7, k8, k9, k10, k11, k12, k13, k14, k15, k16, k17, k18, k19, k20, k21, k22, k23, k24, k25, k26, k27, k28, k30, k31, k32, Bool.and_true, Bool.true_and]
 exact k29
theorem k1 : (YthnogjmaiffagaaGreat.Rows.fnExactDeliverRow.wf (OpenSpec.ofChange YthnogjmaiffagaaGreat.Rows.fnExactDeliverSpec)) = true := by kernel_rfl
theorem k2 : (laidOutB Tryz.checked.prog) = true := by kernel_rfl
theorem k3 : (mapsRowed Tryz.checked.prog) = true := by kernel_rfl
theorem k4 : (Tryz.f4.params.all (Tryz.checked.prog.readableRec ·)) = true := by kernel_rfl
theorem k5 : (namedTie Tryz.checked.prog YthnogjmaiffagaaGreat.Rows.fnExactDeliverRow.named YthnogjmaiffagaaGreat.Rows.fnExactDeliverSpec.vars) = true := by kernel_rfl
theorem k6 : ((YthnogjmaiffagaaGreat.Rows.fnExactDeliverRow.stops == [])) = true := by kernel_rfl
theorem k7 : ((Tryz.checked.prog.stops == [])) = true := by kernel_rfl
theorem k8 : ((YthnogjmaiffagaaGreat.Rows.fnExactDeliverRow.knobs == [])) = true := by kernel_rfl
theorem k9 : ((Tryz.checked.prog.stopKnobs == [])) = true := by kernel_rfl
theorem k10 : ((YthnogjmaiffagaaGreat.Rows.fnExactDeliverRow.inPlace == Tryz.checked.prog.inPlace 4)) = true := by kernel_rfl
theorem k11 : ((YthnogjmaiffagaaGreat.Rows.fnExactDeliverRow.unfollowed == Tryz.checked.prog.unfollowed 4)) = true := by kernel_rfl
theorem k12 : ((YthnogjmaiffagaaGreat.Rows.fnExactDeliverRow.recurses == Tryz.checked.prog.recurses 4)) = true := by kernel_rfl
theorem k13 : ((YthnogjmaiffagaaGreat.Rows.fnExactDeliverRow.named == Tryz.checked.prog.varsNamed 4)) = true := by kernel_rfl
theorem k14 : ((YthnogjmaiffagaaGreat.Rows.fnExactDeliverRow.maps == (Tryz.f4.params.toList ++ YthnogjmaiffagaaGreat.Rows.fnExactDeliverSpec.plain.varTypes Tryz.checked.prog).any (Tryz.checked.prog.mapsRec ·))) = true := by kernel_rfl
theorem k15 : ((YthnogjmaiffagaaGreat.Rows.fnExactDeliverRow.ifaces == (Tryz.f4.params.toList ++ YthnogjmaiffagaaGreat.Rows.fnExactDeliverSpec.plain.varTypes Tryz.checked.prog).any (Tryz.checked.prog.ifacesRec ·))) = true := by kernel_rfl
theorem k16 : ((YthnogjmaiffagaaGreat.Rows.fnExactDeliverRow.mapsOut == Tryz.checked.prog.mapsAmong Tryz.f4.resultTypes.toList)) = true := by kernel_rfl
theorem k17 : ((YthnogjmaiffagaaGreat.Rows.fnExactDeliverRow.loops == (Tryz.f4.params.toList ++ YthnogjmaiffagaaGreat.Rows.fnExactDeliverSpec.plain.varTypes Tryz.checked.prog).any (Tryz.checked.prog.loopsFrom ·))) = true := by kernel_rfl
theorem k18 : ((YthnogjmaiffagaaGreat.Rows.fnExactDeliverRow.wideKeys == (Tryz.f4.params.toList ++ YthnogjmaiffagaaGreat.Rows.fnExactDeliverSpec.plain.varTypes Tryz.checked.prog ++ Tryz.f4.resultTypes.toList).any (Tryz.checked.prog.wideKeysFrom ·))) = true := by kernel_rfl
theorem k19 : (YthnogjmaiffagaaGreat.Rows.fnExactDeliverSpec.vars.all (Tryz.checked.prog.varReadable ·)) = true := by kernel_rfl
theorem k20 : (Tryz.f4.resultTypes.all (fun t => Tryz.checked.prog.readableRec t && decide (t < Tryz.checked.prog.types.size))) = true := by kernel_rfl
theorem k21 : ((YthnogjmaiffagaaGreat.Rows.fnExactDeliverRow.ifacesOut == Tryz.f4.resultTypes.toList.any (Tryz.checked.prog.ifacesRec ·))) = true := by kernel_rfl
theorem k22 : ((YthnogjmaiffagaaGreat.Rows.fnExactDeliverRow.loopsOut == Tryz.f4.resultTypes.toList.any (Tryz.checked.prog.loopsFrom ·))) = true := by kernel_rfl
theorem k23 : ((YthnogjmaiffagaaGreat.Rows.fnExactDeliverRow.plainKeys == Tryz.checked.prog.plainKeys)) = true := by kernel_rfl
theorem k24 : (YthnogjmaiffagaaGreat.Rows.fnExactDeliverRow.shortTexts.isNone) = true := by kernel_rfl
theorem k25 : (Tryz.checked.prog.stopsHeard) = true := by kernel_rfl
theorem k26 : (Tryz.checked.prog.mayEnter) = true := by kernel_rfl
theorem k27 : ((YthnogjmaiffagaaGreat.Rows.fnExactDeliverRow.lifted == Tryz.checked.prog.liftsFinal)) = true := by kernel_rfl
theorem k28 : ((Tryz.checked.prog.make == some YthnogjmaiffagaaGreat.Rows.fnExactDeliverRow.make)) = true := by kernel_rfl
theorem k29 : ((YthnogjmaiffagaaGreat.Rows.fnExactDeliverRow.kinds == (if YthnogjmaiffagaaGreat.Rows.fnExactDeliverRow.domain.isEmpty then [] else Tryz.f4.params.toList.map fun t => match Tryz.checked.prog.underlying t with | some (.int k) => some k | _ => none))) = true := by kernel_rfl
theorem k30 : ((YthnogjmaiffagaaGreat.Rows.fnExactDeliverRow.pinned == YthnogjmaiffagaaGreat.Rows.fnExactDeliverRow.pinnedBy)) = true := by kernel_rfl
theorem k31 : ((YthnogjmaiffagaaGreat.Rows.fnExactDeliverRow.veiled == (Tryz.f4.params.toList ++ YthnogjmaiffagaaGreat.Rows.fnExactDeliverSpec.plain.varTypes Tryz.checked.prog ++ Tryz.f4.resultTypes.toList).any (Tryz.checked.prog.veiledRec ·))) = true := by kernel_rfl
theorem k32 : (YthnogjmaiffagaaGreat.Rows.fnExactDeliverRow.veiledFits Tryz.checked.prog Tryz.f4.params.toList (Tryz.f4.params.toList ++ YthnogjmaiffagaaGreat.Rows.fnExactDeliverSpec.plain.varTypes Tryz.checked.prog ++ Tryz.f4.resultTypes.toList)) = true := by kernel_rfl
theorem k0 : YthnogjmaiffagaaGreat.Tryz.pinned.checked.prog.funcNamed YthnogjmaiffagaaGreat.Rows.fnExactDeliverRow.func = some 4 := by kernel_rfl
theorem wrapper : Tryz.f4.isWrapper Tryz.checked.prog YthnogjmaiffagaaGreat.Rows.fnExactDeliverRow.wrapper YthnogjmaiffagaaGreat.Rows.fnExactDeliverRow.mainSum := by
 unfold Func.isWrapper
 first | (rw [if_pos (by decide +kernel)]; kernel_rfl) | (rw [if_neg (by decide +kernel)]; exact ⟨rfl, rfl⟩)
theorem facts : joinedFacts YthnogjmaiffagaaGreat.Tryz.pinned.checked.prog 4 Tryz.f4 YthnogjmaiffagaaGreat.Rows.fnExactDeliverSpec YthnogjmaiffagaaGreat.Rows.fnExactDeliverRow = true := facts_of k1 k2 k3 k4 k5 k6 k7 k8 k9 k10 k11 k12 k13 k14 k15 k16 k17 k18 k19 k20 k21 k22 k23 k24 k25 k26 k27 k28 k29 k30 k31 k32
theorem over : YthnogjmaiffagaaGreat.Rows.fnExactDeliverRow.holds YthnogjmaiffagaaGreat.Tryz.pinned (OpenSpec.ofChange YthnogjmaiffagaaGreat.Rows.fnExactDeliverSpec) :=
 OpenClaim.holds_of_wide 4 Tryz.f4 rfl rfl rfl rfl rfl rfl rfl ⟨rfl, rfl, rfl, rfl, rfl⟩ rfl rfl rfl rfl rfl k0 Tryz.func4 facts
   (of_decide_eq_true (by kernel_rfl)) wrapper
   (fun os started H enc _ => lifted os started H enc)
end Go.Proofs.YthnogjmaiffagaaGreat.World
namespace Go.Proofs.YthnogjmaiffagaaGreat
/-- The row, under a short name. -/
theorem fnExactDeliver_holds : Rows.FnExactDeliverSaid := World.over
end Go.Proofs.YthnogjmaiffagaaGreat
