/- 'laws.FnExactWaitingIn' returns true for every input. No condition. -/
import Derived.Test.YtmkkoalilmgpcaaWp
import Derived.Test.YtmkkoalilmgpcaaRows
import Derived.Test.YtmkkoalilmgpcaaChecked
import Derived.KernelRfl
namespace Go.Proofs.Ytmkkoalilmgpcaa.World
open Go Go.V Go.Proofs
set_option linter.unusedVariables false
set_option linter.unusedSimpArgs false
set_option maxRecDepth 100000
abbrev TW := (Int × (List (Int × Int × Int × Int)) × (List (Int × Int × Int)) × Int × Int × Int × Int × Int × (List (Int × Int × Int)) × Int) × (Int × Int × Int × List ((Int × Int) × (List (Int × Int)) × List (Int × (List Int) × List Int))) × (List Int) × (List Int) × (List (Int × Int × Int × Int × Int × Int)) × (List (List (Int × Int × Int × Int × Int × Int))) × (List (Int × Int × Int × Int)) × (List Int) × (List (Int × Int × List Int)) × (List (Int × Int × Int × Int)) × Int × Int × (List (Int × Int × Int × Int × Int × Int)) × List (Int × Int × Int × Int)
def waiting (w : TW) : Int := w.2.2.2.2.2.1.foldl (fun s x => IntKind.i64.wrap (s + (x.length : Int))) 0
theorem w12 (k : Nat) (w : TW) (hl : w.2.2.2.2.2.1.length ≤ 1048576) (hk : w.2.2.2.2.2.1.length < k) : F12 (k + 1) w = some (waiting w) :=
  (e12 k w).trans (fold_loop (S := Int) (L := L12_0 k _) (X := fun v => some v.1) (a := w.2.2.2.2.2.1) (fun s i => (s, i, w.1.1, w.1.2.1, w.1.2.2.1, w.1.2.2.2.1, w.1.2.2.2.2.1, w.1.2.2.2.2.2.1, w.1.2.2.2.2.2.2.1, w.1.2.2.2.2.2.2.2.1, w.1.2.2.2.2.2.2.2.2.1, w.1.2.2.2.2.2.2.2.2.2, w.2.1.1, w.2.1.2.1, w.2.1.2.2.1, w.2.1.2.2.2, w.2.2.1, w.2.2.2.1, w.2.2.2.2.1, w.2.2.2.2.2.1, w.2.2.2.2.2.2.1, w.2.2.2.2.2.2.2.1, w.2.2.2.2.2.2.2.2.1, w.2.2.2.2.2.2.2.2.2.1, w.2.2.2.2.2.2.2.2.2.2.1, w.2.2.2.2.2.2.2.2.2.2.2.1, w.2.2.2.2.2.2.2.2.2.2.2.2.1, w.2.2.2.2.2.2.2.2.2.2.2.2.2)) (fun s x => IntKind.i64.wrap (s + (x.length : Int))) (fun _ _ _ => rfl) hl _ k 0 0 (by simp) hk)
theorem w14 (k : Nat) (w : TW) (hl : w.2.2.2.2.2.1.length ≤ 1048576) (hk : w.2.2.2.2.2.1.length < k) : F14 (k + 1) w = some (waiting w) :=
  (e14 k w).trans (fold_loop (S := Int) (L := L14_0 k _) (X := fun v => some v.1) (a := w.2.2.2.2.2.1) (fun s i => (s, w.2.2.2.2.2.1, (w.2.2.2.2.2.1.length : Int), i)) (fun s x => IntKind.i64.wrap (s + (x.length : Int))) (fun _ _ _ => rfl) hl _ k 0 0 (by simp) hk)
theorem law3 (w : TW) (hr : rowsLe 140737488351232 s40 w) : ∃ k, F3 k w = some true := by
  refine ⟨szT s40 w + 20, ?_⟩
  rw [e3, z11 _ w 1048576 hr (by omega) (by omega) (by omega), Option.bind_some]
  by_cases hz : szT s40 w ≤ 1048576
  · rw [szR_pos (by omega), if_neg (by simp; omega)]
    have hq : w.2.2.2.2.2.1.length ≤ szT s40 w := by
      have := rows_le s40 w _ (Nat.le_refl _)
      exact (rowsLe_row this.2.2.2.2.2.1).1
    rw [t13 _ w hz (by omega), Option.bind_some, w12 _ w (by omega) (by omega), Option.bind_some, Option.bind_some, w14 _ w (by omega) (by omega), Option.bind_some]
    have e60 : szT s60 w = szT s40 w := rfl
    rw [if_neg (by simp), Option.bind_some, q15 _ w (by rw [e60]; exact hz) (by rw [e60]; omega), Option.bind_some]
    rfl
  · rw [szR_neg (by omega), if_pos (by decide)]
end Go.Proofs.Ytmkkoalilmgpcaa.World
namespace Go.Proofs.Ytmkkoalilmgpcaa.World
open Go Go.V Go.Proofs
open Go.ChangeShapes Go.WideShapes Go.ChangeAt Go.RowKit
set_option linter.unusedVariables false
set_option maxRecDepth 100000
theorem tyOk : ∀ t i, E.ty t = some i → TyOk E.P t i := by
  intro t i h
  replace h : ty t = some i := h
  unfold ty at h
  split at h <;> first | (cases h; done) | (cases h; exact ⟨by kernel_rfl, by kernel_rfl⟩)
theorem fnOk : ∀ f F, E.fn f = some F → E.P.funcs[f]? = some F ∧ F.name ≠ "runtime.NumGoroutine" ∧ ∀ c, F.body = some c → codeOk c = true := by
  intro f F h
  replace h : fn f = some F := h
  unfold fn at h
  split at h <;> first | (cases h; done) | (cases h; exact ⟨by kernel_rfl, of_decide_eq_true (by kernel_rfl), fun c hc => by cases hc; kernel_rfl⟩)
theorem envOk : EnvOk E := ⟨tyOk, fun f F h => (fnOk f F h).1, fun f F h => (fnOk f F h).2.1, by kernel_rfl⟩
theorem sound (k : Nat) : CallOk E (den E k) := den_sound envOk (fun f F c h => (fnOk f F h).2.2 c) (fun f g h => by cases h) k
end Go.Proofs.Ytmkkoalilmgpcaa.World
namespace Go.Proofs.Ytmkkoalilmgpcaa.World
open Go Go.V Go.Proofs
open Go.ChangeShapes Go.WideShapes Go.ChangeAt Go.RowKit
set_option linter.unusedVariables false
set_option maxRecDepth 100000
theorem walk3 {k : Nat} {y0 : TW} (h : F3 k y0 = some true) {W : World} {v0 : Value} (h0 : VA W (fun _ => True) (fun _ => undef) (argAV s40 y0) v0) (l0 : (argAV s40 y0).lt 0) :
    Calls Try.prog 3 #[v0] W fun e W' => e = .returned (.bool true) ∧ Go.RowKit.Below W.heap.size W W' := by
  have hs := (sound k) 3 [argAV s40 y0] true h
  refine (hs.2 (fun _ => True) W [v0] (by intro x hx; simp at hx; rw [hx]; exact l0) ⟨h0, trivial⟩).mono ?_
  rintro e W' ⟨v, rfl, hb, hr⟩
  exact ⟨by rw [resOk_bool hr], hb⟩
theorem own : ownKnob Try.prog.godebug = none := by kernel_rfl
theorem lifted (os : Os) (started : os.Started) (H : Type) (enc : TypeId × Value → H) :
    ReturnsInHanded {} Try.checked os 3 .any (Ytmkkoalilmgpcaa.Rows.fnExactWaitingInSpec.pre6 enc Try.prog Try.f3 Ytmkkoalilmgpcaa.Rows.fnExactWaitingInRow.domain false) (Ytmkkoalilmgpcaa.Rows.fnExactWaitingInSpec.post enc Try.prog Try.f3 false true false false) := by
  refine returnsInHanded_of_change_sized (C := Try.checked) own started (by kernel_rfl) Try.func3
    (ChangeSpec.witness6 (enc := enc) (C := Try.checked) false ⟨#[], #[.agg #[(.int .i64 0), (.slice none 0 0), (.slice none 0 0), (.int .i64 0), (.int .i64 0), (.int .i64 0), (.int .i64 0), (.int .i64 0), (.slice none 0 0), (.int .i64 0), (.int .i64 0), (.int .i64 0), (.int .i64 0), (.slice none 0 0), (.slice none 0 0), (.slice none 0 0), (.slice none 0 0), (.slice none 0 0), (.slice none 0 0), (.slice none 0 0), (.slice none 0 0), (.slice none 0 0), (.int .i64 0), (.int .i64 0), (.slice none 0 0), (.slice none 0 0)]], []⟩ 8 (by kernel_rfl) (by kernel_rfl) (by kernel_rfl) (by kernel_rfl)) ?_
  intro W base args ds gs before hval0 hW hcnd hsz0 _
  have hsz : (DataW.weightsEach Try.prog (Try.f3.params.toList ++ Ytmkkoalilmgpcaa.Rows.fnExactWaitingInSpec.plain.varTypes Try.prog) (ds ++ gs)).all (· ≤ reachBytes) = true := hsz0
  have hval : ∀ (j : Nat) t v, Try.f3.params[j]? = some t → args[j]? = some v → Value.okWide Try.prog W .any base t v := hval0
  have hW' := hW
  obtain ⟨p, q, hA0, hV, rfl, hfz, hnd⟩ := hW
  have hA : DataW.TrodAll enc Try.prog W 0 (fun _ => true) true Try.f3.params.toList args.toList ds p := hA0
  have hAA := hA
  rw [Try.params3] at hA hval hsz
  obtain ⟨v0, vs0, d0, ds0, p0, q0, hargs, rfl, rfl, h0, r0⟩ := trodAll_cons hA
  obtain ⟨rfl, rfl, rfl⟩ := trodAll_nil r0
  obtain rfl : args = #[v0] := by cases args; simp_all
  obtain ⟨rfl, rfl⟩ := trodVars_none hV
  have hwt : ∀ n ∈ d0.weights Try.prog 41, n ≤ reachBytes := by
    intro n hn
    have := List.all_eq_true.1 hsz n (by simp [DataW.weightsEach, hn])
    simpa using this
  obtain ⟨y0, a0, b0, w0⟩ := arg_VA (sh := s40) (by kernel_rfl) (hval 0 41 v0 rfl rfl) h0 hwt
  obtain ⟨k, hk⟩ := law3 y0 (rows_wf (P := Try.prog) s40 y0 (by kernel_rfl) w0)
  have hlt : ∀ x ∈ p0 ++ [], x.block < W.heap.size := fun x hx => hW'.lt x (by simpa using hx)
  refine (walk3 hk a0 b0).mono fun e W' ⟨he, bel⟩ => ?_
  subst he
  exact ⟨_, rfl, _, _, _, [], _, [], hW', trodAll_mk1 (shut_bool Try.underlying4 _), below_trodAll (by kernel_rfl) bel _ _ _ _ (by kernel_rfl) hAA hlt, rfl, bel.frame _, fun h => by cases h⟩
theorem over : Ytmkkoalilmgpcaa.Rows.fnExactWaitingInRow.holds Ytmkkoalilmgpcaa.Try.pinned (OpenSpec.ofChange Ytmkkoalilmgpcaa.Rows.fnExactWaitingInSpec) :=
  OpenClaim.holds_of_wide 3 Try.f3 rfl rfl rfl rfl rfl rfl rfl ⟨rfl, rfl, rfl, rfl, rfl⟩ rfl rfl rfl rfl rfl (by kernel_rfl) Try.func3 (by kernel_rfl)
    (of_decide_eq_true (by kernel_rfl)) (by unfold Func.isWrapper; first | (rw [if_pos (by decide +kernel)]; kernel_rfl) | (rw [if_neg (by decide +kernel)]; exact ⟨rfl, rfl⟩))
    (fun os started H enc _ => lifted os started H enc)
end Go.Proofs.Ytmkkoalilmgpcaa.World
namespace Go.Proofs.Ytmkkoalilmgpcaa
/-- The row, under a short name. -/
theorem fnExactWaitingIn_holds : Rows.FnExactWaitingInSaid := World.over
end Go.Proofs.Ytmkkoalilmgpcaa
