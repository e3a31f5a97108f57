/- The interpreter's third part: closures, regions, loops, whole functions; and how a statement's input is read as plain data. No condition. -/
import Derived.Test.YtmkkoalilmgpcaaGreatV2
import Derived.WalkKit
import Derived.ProofKit
import Derived.OpenShut
import Derived.ShutString
import Derived.ChangeOld
import Derived.Below
import Derived.SizedLaws
import Derived.Carry
import Derived.Laws.BitsLemmas
namespace Go.V
open Go.RowKit (Below)
set_option linter.unusedVariables false
set_option linter.unusedSimpArgs false

theorem agg_n {f : Sh} (h : f.agg = false) : f.n = 1 := by cases f <;> simp_all [Sh.agg, Sh.n]
theorem rep_hs {w : World} {ok : Nat → Prop} {c : C} {u : Value} (h : rep w ok c u) : c.hs = [] := by
  cases c <;> first | rfl | simp only [rep] at h
theorem rep_lt {w : World} {ok : Nat → Prop} {c : C} {u : Value} (n : Nat) (h : rep w ok c u) : C.lt n c := by
  intro x hx
  rw [rep_hs h] at hx
  simp at hx
theorem still_hs {c : C} (h : c.still = true) : c.hs = [] := by cases c <;> first | rfl | simp [C.still] at h
theorem resAV_sound {w : World} {ok : Nat → Prop} {β : Nat → Value} {vs : List (Bool × List C)} {us : List Value} {v : AV} {u : Value} (h : resAV vs = some v) (hv : All2 (fun p u => VP w ok β p.1 p.2 u) vs us) (hr : RV us u) : VA w ok β v u := by
  have hl := hv.len
  unfold resAV at h
  split at h
  · rename_i b cs
    match us, hl with
    | [u'], _ =>
      have hr' : u = u' := hr
      rw [hr']
      exact pack_VA h hv.1
  · rename_i xs hne
    simp only [Option.some.injEq] at h
    subst h
    match us, hl with
    | [], hl => exact ⟨[], hr, hv⟩
    | [u'], hl =>
      match vs, hl with
      | [p], _ => exact absurd rfl (hne p.1 p.2)
    | u1 :: u2 :: r, hl => exact ⟨_, hr, hv⟩
theorem resAV_lt {vs : List (Bool × List C)} {v : AV} {n : Nat} (h : resAV vs = some v) (hl : ∀ p ∈ vs, ∀ c ∈ p.2, C.lt n c) : v.lt n := by
  unfold resAV at h
  split at h
  · rename_i b cs
    exact pack_lt h (hl (b, cs) (by simp))
  · simp only [Option.some.injEq] at h
    subst h
    exact hl
theorem resBor_sound {w : World} {ok : Nat → Prop} {β : Nat → Value} : (fs : List Sh) → (x : TyL fs) → (us : List Value) → resR w ok fs x us → All2 (fun p u => VP w ok β p.1 p.2 u) (resBor fs x) us
  | [], _, us, h => by simp only [resR] at h; subst h; trivial
  | [f], x, us, h => by
    simp only [resR] at h
    obtain ⟨cs, rfl, h⟩ := h
    have hr := rep_avs f x cs h
    exact ⟨VP_valOf (All2.of_repL hr) (fun hb => by rw [← repL_len hr, repT_len f x cs h]; exact agg_n hb), trivial⟩
  | f :: g :: r, x, us, h => by
    simp only [resR] at h
    obtain ⟨cs, vs, rfl, h, h2⟩ := h
    have hr := rep_avs f x.1 cs h
    exact ⟨VP_valOf (All2.of_repL hr) (fun hb => by rw [← repL_len hr, repT_len f x.1 cs h]; exact agg_n hb), resBor_sound (g :: r) x.2 vs h2⟩
theorem resBor_lt (n : Nat) : (fs : List Sh) → (x : TyL fs) → ∀ p ∈ resBor fs x, ∀ c ∈ p.2, C.lt n c
  | [], _ => by simp [resBor]
  | [f], x => by
    intro p hp
    simp only [resBor, List.mem_singleton] at hp
    subst hp
    exact avs_lt n f x
  | f :: g :: r, x => by
    intro p hp
    simp only [resBor, List.mem_cons] at hp
    rcases hp with rfl | hp
    · exact avs_lt n f x.1
    · exact resBor_lt n (g :: r) x.2 p (by simpa [resBor] using hp)
theorem resO_reads {w : World} {ok : Nat → Prop} : (fs : List Sh) → (x : TyL fs) → (us : List Value) → (L : List Nat) → (∀ b ∈ L, ok b) → resO w fs x us L → resR w ok fs x us
  | [], _, us, L, hL, h => by simp only [resO] at h; exact h.1
  | [f], x, us, L, hL, h => by
    simp only [resO] at h
    obtain ⟨cs, rfl, h⟩ := h
    exact ⟨cs, rfl, ownT_reads f x cs L hL h⟩
  | f :: g :: r, x, us, L, hL, h => by
    simp only [resO] at h
    obtain ⟨cs, vs, L1, L2, rfl, rfl, h, h2⟩ := h
    exact ⟨cs, vs, rfl, ownT_reads f x.1 cs L1 (fun b hb => hL b (List.mem_append_left _ hb)) h, resO_reads (g :: r) x.2 vs L2 (fun b hb => hL b (List.mem_append_right _ hb)) h2⟩
theorem resR_imp {w : World} {ok ok' : Nat → Prop} (hok : ∀ k, ok k → k < w.heap.size → ok' k) : (fs : List Sh) → (x : TyL fs) → (us : List Value) → resR w ok fs x us → resR w ok' fs x us
  | [], _, us, h => h
  | [f], x, us, h => by
    obtain ⟨cs, rfl, h⟩ := h
    exact ⟨cs, rfl, repT_step (fun k hk hlt => ⟨hok k hk hlt, rfl⟩) f x cs h⟩
  | f :: g :: r, x, us, h => by
    obtain ⟨cs, vs, rfl, h, h2⟩ := h
    exact ⟨cs, vs, rfl, repT_step (fun k hk hlt => ⟨hok k hk hlt, rfl⟩) f x.1 cs h, resR_imp hok (g :: r) x.2 vs h2⟩
theorem resR_flat {w : World} {ok ok' : Nat → Prop} : (fs : List Sh) → (x : TyL fs) → (us : List Value) → Sh.flatL fs = true → resR w ok fs x us → resR w ok' fs x us
  | [], _, us, _, h => h
  | [f], x, us, hf, h => by
    obtain ⟨cs, rfl, h⟩ := h
    exact ⟨cs, rfl, repT_flat f x cs (by simpa [Sh.flatL] using hf) h⟩
  | f :: g :: r, x, us, hf, h => by
    rw [Sh.flatL, Bool.and_eq_true] at hf
    obtain ⟨cs, vs, rfl, h, h2⟩ := h
    exact ⟨cs, vs, rfl, repT_flat f x.1 cs hf.1 h, resR_flat (g :: r) x.2 vs hf.2 h2⟩

section
variable {E : Env} {G : Nat → Prop} {w0 : World} {st : St} {a : Act} {w : World} {β : Nat → Value} {Lf : Nat → List Nat} {R : Type} {r : R} {o : Oper} {call : CallD E} {K : St → Option R} {X : Act → World → Prop} {Q : Exit → Act → World → Prop}
/-- Results that are the call's own: new objects. -/
theorem resOwn_sound : (fs : List Sh) → (x : TyL fs) → (us : List Value) → (L1 L2 : List Nat) → (st : St) → (β : Nat → Value) → (Lf : Nat → List Nat) → Sim G w0 st a w β Lf → Free G st a w β Lf (L1 ++ L2) → (L1 ++ L2).Nodup → (∀ b ∈ L1, w0.heap.size ≤ b ∧ b < w.heap.size) →
    resO w fs x us L1 → ∃ β' Lf', Sim G w0 { st with ob := putAll (resOwn fs x st.nx).2.1 st.ob, nx := (resOwn fs x st.nx).2.2 } a w β' Lf' ∧
      All2 (fun p u => ∃ cs, u = valOf p.1 cs ∧ All2 (VS β') p.2 cs ∧ (p.1 = false → p.2.length = 1)) (resOwn fs x st.nx).1 us ∧ (∀ p ∈ (resOwn fs x st.nx).1, ∀ c ∈ p.2, C.lt (resOwn fs x st.nx).2.2 c) ∧ (∀ h, h < st.nx → β' h = β h) ∧ st.nx ≤ (resOwn fs x st.nx).2.2
  | [], x, us, L1, L2, st, β, Lf, S, F, hnd, hn, h => by
    simp only [resO] at h
    obtain ⟨rfl, rfl⟩ := h
    exact ⟨β, Lf, S, trivial, by simp [resOwn], fun _ _ => rfl, Nat.le_refl _⟩
  | [f], x, us, L1, L2, st, β, Lf, S, F, hnd, hn, h => by
    simp only [resO] at h
    obtain ⟨cs, rfl, h⟩ := h
    obtain ⟨β1, Lf1, S1, F1, g1, g2, g3, g4⟩ := oavs_sound f x cs L1 L2 st β Lf S F hnd hn h
    refine ⟨β1, Lf1, S1, ⟨⟨cs, rfl, g1, fun hb => ?_⟩, trivial⟩, ?_, g3, g4⟩
    · rw [g1.len, ownT_len h]; exact agg_n hb
    · intro p hp
      simp only [resOwn, List.mem_singleton] at hp
      subst hp
      exact g2
  | f :: g :: r, x, us, L1, L2, st, β, Lf, S, F, hnd, hn, h => by
    simp only [resO] at h
    obtain ⟨cs, ws, La, Lb, rfl, rfl, h1, h2⟩ := h
    rw [List.append_assoc] at F hnd
    obtain ⟨β1, Lf1, S1, F1, g1, g2, g3, g4⟩ := oavs_sound f x.1 cs La (Lb ++ L2) st β Lf S F hnd (fun b hb => hn b (List.mem_append_left _ hb)) h1
    obtain ⟨β2, Lf2, S2, k1, k2, k3, k4⟩ := resOwn_sound (g :: r) x.2 ws Lb L2 _ β1 Lf1 S1 F1 (List.nodup_append.1 hnd).2.1 (fun b hb => hn b (List.mem_append_right _ hb)) h2
    simp only [resOwn]
    refine ⟨β2, Lf2, ?_, ⟨⟨cs, rfl, g1.imp fun c hc u hu => hu.up (g2 c hc) k3, fun hb => ?_⟩, k1⟩, ?_, fun h hh => (k3 h (Nat.lt_of_lt_of_le hh g4)).trans (g3 h hh), Nat.le_trans g4 k4⟩
    · rw [putAll_append]; exact S2
    · rw [g1.len, ownT_len h1]; exact agg_n hb
    · intro p hp
      rcases List.mem_cons.1 hp with rfl | hp
      · exact fun c hc => C.lt_up (g2 c hc) k4
      · exact k2 p hp
/-- An argument as plain data. -/
theorem data_sound {ok' : Nat → Prop} (hok1 : ∀ k, imm G st Lf k → ok' k) (hok2 : ∀ h o, look st.ob h = some o → ∀ b ∈ Lf h, ok' b) (S : Sim G w0 st a w β Lf) {c d : C} {u : Value} (h : st.data c = some d) (hc : VC w (imm G st Lf) β c u) : VC w ok' (fun _ => undef) d u ∧ C.lt 0 d := by
  have easy : ∀ c, rep w (imm G st Lf) c u → VC w ok' (fun _ => undef) c u ∧ C.lt 0 c := fun c hr => ⟨VC.of_rep (rep_step (fun k hk _ => ⟨hok1 k hk, rfl⟩) c u hr), rep_lt 0 hr⟩
  cases c <;> simp only [St.data, Option.some.injEq, reduceCtorEq] at h
  case ref hh =>
    split at h
    · rename_i e sh xs hob
      simp only [Option.some.injEq] at h
      subst h
      obtain ⟨hu, _⟩ : u = β hh ∧ ∃ A n c, u = .slice A n c := hc
      have hor : ownRow w e sh.n (ownT w sh) xs (β hh) (Lf hh) := S.obs _ _ hob
      have hrow : rowT w ok' sh.n (repT w ok' sh) xs (β hh) := ownRow_reads (fun x vs L1 h2 h1 => ownT_reads sh x vs L1 (fun b hb => hok2 _ _ hob b (h2 b hb)) h1) (hok2 _ _ hob) hor
      rw [hu]
      exact ⟨hrow, by intro x hx; simp [C.hs] at hx⟩
    · cases h
  all_goals
    subst h
    exact easy _ hc
theorem datas_sound {ok' : Nat → Prop} (hok1 : ∀ k, imm G st Lf k → ok' k) (hok2 : ∀ h o, look st.ob h = some o → ∀ b ∈ Lf h, ok' b) (S : Sim G w0 st a w β Lf) : ∀ {cs ds : List C} {us : List Value}, st.datas cs = some ds → All2 (VC w (imm G st Lf) β) cs us → All2 (VC w ok' (fun _ => undef)) ds us ∧ ∀ c ∈ ds, C.lt 0 c
  | [], ds, us, h, hc => by
    simp only [St.datas, Option.some.injEq] at h
    subst h
    cases us with
    | nil => exact ⟨trivial, by simp⟩
    | cons u us => simp [All2] at hc
  | c :: cs, ds, us, h, hc => by
    cases us with
    | nil => simp [All2] at hc
    | cons u us =>
    simp only [St.datas] at h
    split at h
    · cases h
    · rename_i d hd
      split at h
      · cases h
      · rename_i ds' hds
        simp only [Option.some.injEq] at h
        subst h
        obtain ⟨h1, h2⟩ := data_sound hok1 hok2 S hd hc.1
        obtain ⟨h3, h4⟩ := datas_sound hok1 hok2 S hds hc.2
        refine ⟨⟨h1, h3⟩, ?_⟩
        intro c hc
        rcases List.mem_cons.1 hc with rfl | hc
        · exact h2
        · exact h4 c hc
theorem dataA_sound (S : Sim G w0 st a w β Lf) {v x : AV} {u : Value} (h : st.dataA v = some x) (hv : VA w (imm G st Lf) β v u) : VA w (fun _ => True) (fun _ => undef) x u ∧ x.lt 0 := by
  cases v <;> simp only [St.dataA, reduceCtorEq] at h
  case c c =>
    split at h
    · rename_i d hd
      simp only [Option.some.injEq] at h
      subst h
      exact data_sound (fun _ _ => trivial) (fun _ _ _ _ _ => trivial) S hd hv
    · cases h
  case agg cs =>
    split at h
    · rename_i ds hds
      simp only [Option.some.injEq] at h
      subst h
      obtain ⟨us, rfl, hv⟩ := hv
      obtain ⟨h1, h2⟩ := datas_sound (fun _ _ => trivial) (fun _ _ _ _ _ => trivial) S hds hv
      exact ⟨⟨us, rfl, h1⟩, h2⟩
    · cases h
theorem data_still {c d : C} (h : st.data c = some d) (hs : c.still = true) : d = c := by
  cases c <;> simp [St.data, C.still] at h hs <;> exact h.symm
theorem datas_still : ∀ {cs ds : List C}, st.datas cs = some ds → cs.all C.still = true → ds = cs
  | [], ds, h, _ => by simp only [St.datas, Option.some.injEq] at h; exact h.symm
  | c :: cs, ds, h, hs => by
    simp only [St.datas] at h
    simp only [List.all_cons, Bool.and_eq_true] at hs
    split at h
    · cases h
    · rename_i d hd
      split at h
      · cases h
      · rename_i ds' hds
        simp only [Option.some.injEq] at h
        rw [← h, data_still hd hs.1, datas_still hds hs.2]
theorem dataA_still {v x : AV} (h : st.dataA v = some x) (hs : v.cells.all C.still = true) : x = v ∧ v.lt 0 := by
  cases v <;> simp only [St.dataA, reduceCtorEq] at h
  case c c =>
    split at h
    · rename_i d hd
      simp only [Option.some.injEq] at h
      simp only [AV.cells, List.all_cons, List.all_nil, Bool.and_true] at hs
      refine ⟨by rw [← h, data_still hd hs], ?_⟩
      intro y hy
      rw [still_hs hs] at hy
      simp at hy
    · cases h
  case agg cs =>
    split at h
    · rename_i ds hds
      simp only [Option.some.injEq] at h
      simp only [AV.cells] at hs
      refine ⟨by rw [← h, datas_still hds hs], ?_⟩
      intro c hc y hy
      rw [still_hs (List.all_eq_true.1 hs c hc)] at hy
      simp at hy
    · cases h
theorem dataAs_sound (S : Sim G w0 st a w β Lf) : ∀ {vs xs : List AV} {us : List Value}, st.dataAs vs = some xs → All2 (VA w (imm G st Lf) β) vs us → All2 (VA w (fun _ => True) (fun _ => undef)) xs us ∧ ∀ x ∈ xs, AV.lt 0 x
  | [], xs, us, h, hv => by
    simp only [St.dataAs, Option.some.injEq] at h
    subst h
    cases us with
    | nil => exact ⟨trivial, by simp⟩
    | cons u us => simp [All2] at hv
  | v :: vs, xs, us, h, hv => by
    cases us with
    | nil => simp [All2] at hv
    | cons u us =>
    simp only [St.dataAs] at h
    split at h
    · cases h
    · rename_i x hx
      split at h
      · cases h
      · rename_i xs' hxs
        simp only [Option.some.injEq] at h
        subst h
        obtain ⟨h1, h2⟩ := dataA_sound S hx hv.1
        obtain ⟨h3, h4⟩ := dataAs_sound S hxs hv.2
        refine ⟨⟨h1, h3⟩, ?_⟩
        intro c hc
        rcases List.mem_cons.1 hc with rfl | hc
        · exact h2
        · exact h4 c hc
theorem dataAs_still : ∀ {vs xs : List AV}, st.dataAs vs = some xs → (vs.all fun v => v.cells.all C.still) = true → xs = vs ∧ ∀ v ∈ vs, AV.lt 0 v
  | [], xs, h, _ => by simp only [St.dataAs, Option.some.injEq] at h; exact ⟨h.symm, by simp⟩
  | v :: vs, xs, h, hs => by
    simp only [St.dataAs] at h
    simp only [List.all_cons, Bool.and_eq_true] at hs
    split at h
    · cases h
    · rename_i d hd
      split at h
      · cases h
      · rename_i ds' hds
        simp only [Option.some.injEq] at h
        obtain ⟨h1, h2⟩ := dataA_still hd hs.1
        obtain ⟨h3, h4⟩ := dataAs_still hds hs.2
        refine ⟨by rw [← h, h1, h3], ?_⟩
        intro x hx
        rcases List.mem_cons.1 hx with rfl | hx
        · exact h2
        · exact h4 x hx
theorem evAll_sound (S : Sim G w0 st a w β Lf) : ∀ {xs : List Operand} {vs : List AV}, evAll st xs = some vs → All2 (VA w (imm G st Lf) β) vs (xs.map a.eval) ∧ ∀ v ∈ vs, v.lt st.nx
  | [], vs, h => by simp only [evAll, Option.some.injEq] at h; subst h; exact ⟨trivial, by simp⟩
  | x :: xs, vs, h => by
    simp only [evAll] at h
    split at h
    · rename_i v hv
      split at h
      · rename_i ws hws
        simp only [Option.some.injEq] at h
        subst h
        obtain ⟨h1, h2⟩ := S.ev hv
        obtain ⟨h3, h4⟩ := evAll_sound S hws
        refine ⟨⟨h1, h3⟩, ?_⟩
        intro c hc
        rcases List.mem_cons.1 hc with rfl | hc
        · exact h2
        · exact h4 c hc
      · cases h
    · cases h
theorem callee_sound (S : Sim G w0 st a w β Lf) {f : Operand} {g : Nat} {caps : List C} (h : st.callee f = some (g, caps)) : ∃ us, a.eval f = .func (.func g) #[] us.toArray ∧ repL w (imm G st Lf) caps us := by
  unfold St.callee at h
  split at h
  · rename_i g' fs cs hv
    split at h
    · rename_i he
      simp only [Option.some.injEq, Prod.mk.injEq] at h
      obtain ⟨rfl, rfl⟩ := h
      simp only [Bool.and_eq_true, Array.isEmpty_iff] at he
      obtain ⟨rfl, rfl⟩ := he
      have hr : rep w (imm G st Lf) (.v (.func (.func g') #[] #[])) (a.eval f) := (S.ev hv).1
      simp only [rep] at hr
      exact ⟨[], hr.1, by simp only [repL]⟩
    · cases h
  · rename_i g' caps' hv
    simp only [Option.some.injEq, Prod.mk.injEq] at h
    obtain ⟨rfl, rfl⟩ := h
    have hr : rep w (imm G st Lf) (.clo g' caps') (a.eval f) := (S.ev hv).1
    simp only [rep] at hr
    exact hr
  · cases h
theorem caps_VA {w : World} {ok ok' : Nat → Prop} {caps : List C} {us : List Value} (h : repL w ok caps us) (hok : ∀ k, ok k → ok' k) : All2 (VA w ok' (fun _ => undef)) (caps.map .c) us ∧ ∀ x ∈ caps.map AV.c, AV.lt 0 x := by
  induction caps generalizing us with
  | nil => simp only [repL] at h; subst h; exact ⟨trivial, by simp⟩
  | cons c cs ih =>
    simp only [repL] at h
    obtain ⟨u, vs, rfl, h1, h2⟩ := h
    obtain ⟨h3, h4⟩ := ih h2
    refine ⟨⟨VC.of_rep (rep_step (fun k hk _ => ⟨hok k hk, rfl⟩) c u h1), h3⟩, ?_⟩
    intro x hx
    simp only [List.map_cons, List.mem_cons] at hx
    rcases hx with rfl | hx
    · exact rep_lt 0 h1
    · exact h4 x hx
/-- A call: what comes back. -/
theorem call_sound (hC : CallOk E call) (S : Sim G w0 st a w β Lf) {f : Operand} {args : Array Operand} {tys : Array TypeId} (ho : o.op = .call { callee := .value f, args, argTypes := tys }) {g : Nat} {caps : List C} {vs xs : List AV} {p : RTy (E.rs g)}
    (hcl : st.callee f = some (g, caps)) (hev : evAll st args.toList = some vs) (hda : st.dataAs vs = some xs) (hcan : callable (E.rs g) vs = true) (hcall : call g (xs ++ caps.map .c) = some p)
    (hX : ∀ u w', Below w.heap.size w w' → (∃ us, RV us u ∧ resR w' (imm G st Lf) (E.rs g).shs p us) → ((E.rs g).own = true → ∃ us L, RV us u ∧ resO w' (E.rs g).shs p us L ∧ L.Nodup ∧ ∀ b ∈ L, w.heap.size ≤ b ∧ b < w'.heap.size) → X (a.put o.dst u) w') : o.wp E.P a w X Q := by
  obtain ⟨cus, hf, hcaps⟩ := callee_sound S hcl
  obtain ⟨hva, hvl⟩ := evAll_sound S hev
  obtain ⟨⟨fn, hfn, hname, hbody⟩, hS⟩ := hC g _ _ hcall
  have hexec : (execOp a.eval o).run E.P w = .ok (.enter g ((args.toList.map a.eval) ++ cus).toArray) w := by
    have e1 : (args.map a.eval ++ cus.toArray) = ((args.toList.map a.eval) ++ cus).toArray := by
      apply Array.toList_inj.1
      simp
    rw [← e1]
    have hbody' : ¬ fn.body = none := by intro e; rw [e] at hbody; cases hbody
    simp [execOp, ho, resolve, Deferred.ofValue, hf, invoke, callFunc, hfn, hname, hbody']
  unfold Oper.wp
  rw [hexec, Oper.upon_enter]
  have fresh : ∀ (w' : World) k, w.heap.size ≤ k → imm G st Lf k := fun w' k hk =>
    ⟨S.fresh k (Nat.le_trans S.below.size hk), fun h o ho hm => by have := (S.new h o ho k hm).2; omega⟩
  have any : ∀ G', All2 (VA w G' fun _ => undef) xs (args.toList.map a.eval) → (∀ x ∈ xs, AV.lt 0 x) → (∀ k, imm G st Lf k → G' k) →
      (∀ w' us, (if (E.rs g).own = true then ∃ L, resO w' (E.rs g).shs p us L ∧ L.Nodup ∧ ∀ b ∈ L, w.heap.size ≤ b ∧ b < w'.heap.size else resR w' (fun k => k < w.heap.size → G' k) (E.rs g).shs p us) → resR w' (imm G st Lf) (E.rs g).shs p us) →
      Calls E.P g ((args.toList.map a.eval) ++ cus).toArray w fun
        | .returned v, w'' => X (a.put o.dst v) w''
        | .panicked chain, w'' => Q (.panic chain) a w''
        | .outgrown, _ => LetsOut Q := by
    intro G' h1 h2 h3 h4
    obtain ⟨h5, h6⟩ := caps_VA hcaps h3
    refine (hS G' w _ ?_ (h1.append h5)).mono ?_
    · intro x hx
      rcases List.mem_append.1 hx with hx | hx
      · exact h2 x hx
      · exact h6 x hx
    · rintro e w' ⟨v, rfl, hB, us, hrv, hres⟩
      refine hX v w' hB ⟨us, hrv, h4 w' us hres⟩ fun hown => ?_
      rw [if_pos hown] at hres
      obtain ⟨L, h7, h8, h9⟩ := hres
      exact ⟨us, L, hrv, h7, h8, h9⟩
  unfold callable at hcan
  simp only [Bool.or_eq_true] at hcan
  by_cases hown : (E.rs g).own = true
  · obtain ⟨h1, h2⟩ := dataAs_sound S hda hva
    refine any _ h1 h2 (fun _ _ => trivial) fun w' us h => ?_
    rw [if_pos hown] at h
    obtain ⟨L, h3, _, h4⟩ := h
    exact resO_reads _ p us L (fun b hb => fresh w' b (h4 b hb).1) h3
  · rcases hcan with (hcan | hcan) | hcan
    · exact absurd hcan hown
    · obtain ⟨h1, h2⟩ := dataAs_sound S hda hva
      refine any _ h1 h2 (fun _ _ => trivial) fun w' us h => ?_
      rw [if_neg hown] at h
      exact resR_flat _ p us hcan h
    · obtain ⟨rfl, h2⟩ := dataAs_still hda hcan
      refine any (imm G st Lf) (hva.imp fun v hv u hu => hu.step (h2 v hv) (fun k hk _ => ⟨hk, rfl⟩) fun h hh => absurd hh (Nat.not_lt_zero _)) h2 (fun _ h => h) fun w' us h => ?_
      rw [if_neg hown] at h
      refine resR_imp (fun k hk hlt => ?_) _ p us h
      rcases Nat.lt_or_ge k w.heap.size with h3 | h3
      · exact hk h3
      · exact fresh w' k h3
/-- .. its results looked at alone. -/
theorem call_reads (hC : CallOk E call) (S : Sim G w0 st a w β Lf) {f : Operand} {args : Array Operand} {tys : Array TypeId} (ho : o.op = .call { callee := .value f, args, argTypes := tys }) {g : Nat} {caps : List C} {vs xs : List AV} {p : RTy (E.rs g)} {v : AV}
    (hcl : st.callee f = some (g, caps)) (hev : evAll st args.toList = some vs) (hda : st.dataAs vs = some xs) (hcan : callable (E.rs g) vs = true) (hcall : call g (xs ++ caps.map .c) = some p) (hv : resAV (resBor (E.rs g).shs p) = some v)
    (hX : ∀ u w', Below w.heap.size w w' → VA w' (imm G st Lf) β v u → v.lt st.nx → X (a.put o.dst u) w') : o.wp E.P a w X Q := by
  refine call_sound hC S ho hcl hev hda hcan hcall fun u w' hB ⟨us, h1, h2⟩ _ => ?_
  exact hX u w' hB (resAV_sound hv (resBor_sound _ p us h2) h1) (resAV_lt hv (resBor_lt _ _ p))
theorem eff_call (hC : CallOk E call) (S : Sim G w0 st a w β Lf) {f : Operand} {args : Array Operand} {tys : Array TypeId} (ho : o.op = .call { callee := .value f, args, argTypes := tys }) (h : eff E call st o K = some r) (hX : ∀ st' a' w', SimE G w0 st' a' w' → K st' = some r → X a' w') : o.wp E.P a w X Q := by
  simp only [eff, ho] at h
  split at h
  · rename_i g caps vs hcl hev
    split at h
    · rename_i xs hda
      split at h
      · rename_i hcan
        unfold callK at h
        cases hcall : call g (xs ++ caps.map .c) with
        | none => rw [hcall] at h; cases h
        | some p =>
        rw [hcall] at h
        simp only [Option.bind_some] at h
        by_cases hown : (E.rs g).own = true
        · rw [if_pos hown] at h
          split at h
          · rename_i v hv
            refine call_sound hC S ho hcl hev hda hcan hcall fun u w' hB _ hO => ?_
            obtain ⟨us, L, h1, h2, h3, h4⟩ := hO hown
            have S1 := S.kept hB
            obtain ⟨a1, a2⟩ := S.apart hB (L := L) (fun b hb => (h4 b hb).1)
            have F1 : Free G st a w' β Lf (L ++ []) := by
              rw [List.append_nil]
              exact ⟨a1, a2, fun h o ho b hb hm => by have := (S.new h o ho b hb).2; have := (h4 b hm).1; omega⟩
            obtain ⟨β', Lf', S2, k1, k2, k3, k4⟩ := resOwn_sound _ p us L [] st β Lf S1 F1 (by simpa using h3) (fun b hb => ⟨Nat.le_trans S.below.size (h4 b hb).1, (h4 b hb).2⟩) h2
            have hva : VA w' (imm G { st with ob := putAll (resOwn (E.rs g).shs p st.nx).2.1 st.ob, nx := (resOwn (E.rs g).shs p st.nx).2.2 } Lf') β' v u := by
              refine resAV_sound hv (k1.imp ?_) h1
              rintro q _ y ⟨cs, rfl, hcs, hlen⟩
              exact VP_valOf (hcs.imp fun c _ u hu => hu.vc) hlen
            have S3 := S2.set o.dst hva (resAV_lt hv k2)
            refine hX _ _ _ ⟨_, _, S3⟩ ?_
            have e : (({ st with ob := putAll (resOwn (E.rs g).shs p st.nx).2.1 st.ob, nx := (resOwn (E.rs g).shs p st.nx).2.2 } : St).set o.dst v) = { st.set o.dst v with ob := putAll (resOwn (E.rs g).shs p st.nx).2.1 st.ob, nx := (resOwn (E.rs g).shs p st.nx).2.2 } := by
              cases o.dst with
              | none => rfl
              | some d => simp only [St.set]; split <;> rfl
            rw [e]
            exact h
          · cases h
        · rw [if_neg hown] at h
          split at h
          · rename_i v hv
            exact call_reads hC S ho hcl hev hda hcan hcall hv fun u w' hB hva hlt => hX _ _ _ ⟨_, _, (S.kept hB).set o.dst hva hlt⟩ h
          · cases h
      · cases h
    · cases h
  · cases h
end
end Go.V

namespace Go.V
open Go.RowKit (Below)
set_option linter.unusedVariables false
set_option linter.unusedSimpArgs false

section
variable {E : Env} {G : Nat → Prop} {w0 : World} {st : St} {a : Act} {w : World} {β : Nat → Value} {Lf : Nat → List Nat} {R : Type} {r : R} {o : Oper} {call : CallD E} {K : St → Option R} {X : Act → World → Prop} {Q : Exit → Act → World → Prop}
/-- The blocks of an object that is gone are nobody's own. -/
theorem imm_gone (S : Sim G w0 st a w β Lf) {h : Nat} {o : Ob} (ho : look st.ob h = some o) {ob' : List (Nat × Ob)} (hsub : ∀ n o, look ob' n = some o → look st.ob n = some o) (hn : look ob' h = none) : ∀ b ∈ Lf h, imm G { st with ob := ob' } Lf b := by
  intro b hb
  refine ⟨S.fresh b (S.new h o ho b hb).1, fun n o' ho' hm => ?_⟩
  exact S.disj n o' h o (hsub n o' ho') ho (fun e => by rw [e, hn] at ho'; cases ho') b hm hb
theorem imm_fewer {ob' ob'' : List (Nat × Ob)} (hsub : ∀ n o, look ob'' n = some o → look ob' n = some o) {k : Nat} (h : imm G { st with ob := ob' } Lf k) : imm G { st with ob := ob'' } Lf k := ⟨h.1, fun n o ho => h.2 n o (hsub n o ho)⟩
theorem freezeCells_sound : ∀ (cs ys : List C) (us : List Value) (st st1 : St), Sim G w0 st a w β Lf → All2 (VC w (imm G st Lf) β) cs us → freezeCells st cs = some (ys, st1) →
    st1 = { st with ob := st1.ob } ∧ (∀ n o, look st1.ob n = some o → look st.ob n = some o) ∧ repL w (imm G st1 Lf) ys us
  | [], ys, us, st, st1, S, h, hf => by
    simp only [freezeCells, Option.some.injEq, Prod.mk.injEq] at hf
    obtain ⟨rfl, rfl⟩ := hf
    cases us with
    | nil => exact ⟨rfl, fun _ _ h => h, by simp only [repL]⟩
    | cons u us => simp [All2] at h
  | c :: cs, ys, us, st, st1, S, h, hf => by
    cases us with
    | nil => simp [All2] at h
    | cons u us =>
    obtain ⟨hc, h⟩ := h
    have plain : ∀ ys' st2, freezeCells st cs = some (ys', st2) → rep w (imm G st Lf) c u → st2 = { st with ob := st2.ob } ∧ (∀ n o, look st2.ob n = some o → look st.ob n = some o) ∧ repL w (imm G st2 Lf) (c :: ys') (u :: us) := by
      intro ys' st2 h2 hr
      obtain ⟨h3, h4, h5⟩ := freezeCells_sound cs ys' us st st2 S h h2
      refine ⟨h3, h4, ?_⟩
      simp only [repL]
      refine ⟨u, us, rfl, rep_step (fun k hk _ => ⟨?_, rfl⟩) c u hr, h5⟩
      rw [h3]
      exact imm_fewer (ob' := st.ob) h4 hk
    cases c <;> simp only [freezeCells, reduceCtorEq] at hf
    case ref hh =>
      split at hf
      · rename_i e sh xs hob
        split at hf
        · rename_i ys' st2 h2
          simp only [Option.some.injEq, Prod.mk.injEq] at hf
          obtain ⟨rfl, rfl⟩ := hf
          have hsub : ∀ n o, look (del hh st.ob) n = some o → look st.ob n = some o := fun n o ho => (look_del ho).2
          have S' := S.fewer hsub
          have himm : ∀ k, imm G st Lf k → k < w.heap.size → imm G { st with ob := del hh st.ob } Lf k ∧ w.heap[k]? = w.heap[k]? := fun k hk _ => ⟨⟨hk.1, fun n o ho => hk.2 n o (hsub n o ho)⟩, rfl⟩
          obtain ⟨h3, h4, h5⟩ := freezeCells_sound cs ys' us _ st2 S' (h.imp fun c _ u hu => hu.step himm fun _ _ => rfl) h2
          obtain ⟨hu, _⟩ : u = β hh ∧ ∃ A n c, u = .slice A n c := hc
          have hor : ownRow w e sh.n (ownT w sh) xs (β hh) (Lf hh) := S.obs _ _ hob
          refine ⟨h3, fun n o ho => hsub n o (h4 n o ho), ?_⟩
          have hgone : ∀ b ∈ Lf hh, imm G st2 Lf b := by
            have := imm_gone S hob (ob' := st2.ob) (fun n o ho => hsub n o (h4 n o ho)) (by
              cases hl : look st2.ob hh with
              | none => rfl
              | some o => have := h4 hh o hl; rw [look_del_same] at this; cases this)
            intro b hb
            have h6 := this b hb
            rw [h3]
            exact h6
          simp only [repL, rep]
          refine ⟨u, us, rfl, ?_, h5⟩
          rw [hu]
          exact ownRow_reads (fun x vs L1 h7 h1 => ownT_reads sh x vs L1 (fun b hb => hgone b (h7 b hb)) h1) hgone hor
        · cases hf
      · cases hf
    all_goals
      split at hf
      · rename_i ys' st2 h2
        simp only [Option.some.injEq, Prod.mk.injEq] at hf
        obtain ⟨rfl, rfl⟩ := hf
        exact plain _ _ h2 hc
      · cases hf
/-- A captured variable's address. -/
def CapOk (w : World) (ok : Nat → Prop) (β : Nat → Value) (v : AV) (c : C) : Prop := ∃ cs, c = .at_ cs ∧ ∀ h o, v = .c (.ptr h o) → ∀ u, VC w ok β (.ptr h 0) u → rep w ok (.at_ cs) u
theorem freezeVars_sound : ∀ (vs : List AV) (ys : List C) (us : List Value) (st st1 : St), Sim G w0 st a w β Lf → All2 (VA w (imm G st Lf) β) vs us → freezeVars st vs = some (ys, st1) →
    st1 = { st with ob := st1.ob } ∧ (∀ n o, look st1.ob n = some o → look st.ob n = some o) ∧ repL w (imm G st1 Lf) ys us ∧ All2 (CapOk w (imm G st1 Lf) β) vs ys
  | [], ys, us, st, st1, S, h, hf => by
    simp only [freezeVars, Option.some.injEq, Prod.mk.injEq] at hf
    obtain ⟨rfl, rfl⟩ := hf
    cases us with
    | nil => exact ⟨rfl, fun _ _ h => h, by simp only [repL], trivial⟩
    | cons u us => simp [All2] at h
  | v :: vs, ys, us, st, st1, S, h, hf => by
    cases us with
    | nil => simp [All2] at h
    | cons u us =>
    obtain ⟨hc, h⟩ := h
    unfold freezeVars at hf
    split at hf
    · rename_i heq; cases heq
    · rename_i hh r heq
      injection heq with e1 e2
      subst e1 e2
      split at hf
      · rename_i cs hob
        split at hf
        · rename_i cs' st2 h2
          split at hf
          · rename_i xs st3 h3
            simp only [Option.some.injEq, Prod.mk.injEq] at hf
            obtain ⟨rfl, rfl⟩ := hf
            have hsub : ∀ n o, look (del hh st.ob) n = some o → look st.ob n = some o := fun n o ho => (look_del ho).2
            have S' := S.fewer hsub
            have himm : ∀ k, imm G st Lf k → k < w.heap.size → imm G { st with ob := del hh st.ob } Lf k ∧ w.heap[k]? = w.heap[k]? := fun k hk _ => ⟨⟨hk.1, fun n o ho => hk.2 n o (hsub n o ho)⟩, rfl⟩
            obtain ⟨b, hb1, hb2⟩ : ∃ b, β hh = .pointer (some ⟨b, 0, none⟩) ∧ u = .pointer (some ⟨b, 0, none⟩) := hc
            obtain ⟨b', ty, cus, hb3, hb4, hb5, hb6⟩ := S.obs _ _ hob
            rw [hb1] at hb3
            injection hb3 with hb3
            injection hb3 with hb3
            injection hb3 with hb3
            subst hb3
            obtain ⟨g1, g2, g3⟩ := freezeCells_sound cs cs' cus _ st2 S' (hb6.imp fun c _ u hu => hu.step himm fun _ _ => rfl) h2
            have S2 : Sim G w0 { st with ob := st2.ob } a w β Lf := S.fewer fun n o ho => hsub n o (g2 n o ho)
            have e2 : st2 = { st with ob := st2.ob } := g1
            have himm2 : ∀ k, imm G st Lf k → k < w.heap.size → imm G { st with ob := st2.ob } Lf k ∧ w.heap[k]? = w.heap[k]? := fun k hk _ => ⟨⟨hk.1, fun n o ho => hk.2 n o (hsub n o (g2 n o ho))⟩, rfl⟩
            rw [e2] at h3
            have hvs : All2 (VA w (imm G { st with ob := st2.ob } Lf) β) vs us := by
              refine h.imp ?_
              intro v _ u hu
              cases v with
              | c x => exact VC.step hu himm2 fun _ _ => rfl
              | agg cs => obtain ⟨us, rfl, hu⟩ := hu; exact ⟨us, rfl, hu.imp fun c _ u hu => hu.step himm2 fun _ _ => rfl⟩
              | tup xs => obtain ⟨us, rfl, hu⟩ := hu; exact ⟨us, rfl, hu.imp fun p _ u hu => hu.step himm2 fun _ _ _ _ => rfl⟩
            obtain ⟨k1, k2, k3, k4⟩ := freezeVars_sound vs xs us _ st3 S2 hvs h3
            have hsub3 : ∀ n o, look st3.ob n = some o → look st.ob n = some o := fun n o ho => hsub n o (g2 n o (k2 n o ho))
            have hgone : imm G st3 Lf b := by
              have := imm_gone S hob hsub3 (by
                cases hl : look st3.ob hh with
                | none => rfl
                | some o => have := g2 hh o (k2 hh o hl); rw [look_del_same] at this; cases this) b (by rw [hb4]; simp)
              rw [k1]
              exact this
            have hat : rep w (imm G st3 Lf) (.at_ cs') (.pointer (some ⟨b, 0, none⟩)) := by
              simp only [rep]
              refine ⟨⟨b, 0, none⟩, cus, rfl, ?_, fun _ => ⟨hgone, (Array.getElem?_eq_some_iff.1 hb5).1⟩, fun i x hx => ?_⟩
              · refine repL_step (fun k hk _ => ⟨?_, rfl⟩) cs' cus g3
                rw [k1]
                rw [e2] at hk
                exact imm_fewer (ob' := st2.ob) k2 hk
              · rw [addr_add, cell_of_row w b _ _ ty (0, 0) hb5]
                simpa using hx
            refine ⟨k1, hsub3, ?_, ⟨⟨cs', rfl, ?_⟩, k4⟩⟩
            · simp only [repL]
              exact ⟨u, us, rfl, by rw [hb2]; exact hat, k3⟩
            · rintro h o hho u' ⟨b', hb7, rfl⟩
              injection hho with hho
              injection hho with hho _
              subst hho
              rw [hb1] at hb7
              injection hb7 with hb7
              injection hb7 with hb7
              injection hb7 with hb7
              subst hb7
              exact hat
          · cases hf
        · cases hf
      · cases hf
    · rename_i cs r heq
      injection heq with e1 e2
      subst e1 e2
      split at hf
      · rename_i xs st2 h2
        simp only [Option.some.injEq, Prod.mk.injEq] at hf
        obtain ⟨rfl, rfl⟩ := hf
        obtain ⟨k1, k2, k3, k4⟩ := freezeVars_sound vs xs us st st2 S h h2
        refine ⟨k1, k2, ?_, ⟨cs, rfl, fun h o hh => by cases hh⟩, k4⟩
        simp only [repL]
        refine ⟨u, us, rfl, rep_step (fun k hk _ => ⟨?_, rfl⟩) (.at_ cs) u hc, k3⟩
        rw [k1]
        exact imm_fewer (ob' := st.ob) k2 hk
      · cases hf
    · cases hf
theorem look_map {α : Type} (g : Nat × α → Nat × α) (hg : ∀ p, (g p).1 = p.1) : ∀ (l : List (Nat × α)) (t : Nat) (v : α), look (l.map g) t = some v → ∃ u, look l t = some u ∧ g (t, u) = (t, v)
  | [], t, v, h => by cases h
  | (k, u) :: r, t, v, h => by
    have h1 := hg (k, u)
    simp only [List.map_cons] at h
    generalize hp : g (k, u) = p at h h1
    obtain ⟨k', u'⟩ := p
    simp only at h1
    subst h1
    simp only [look] at h ⊢
    by_cases hk : k' = t
    · subst hk
      rw [if_pos rfl] at h ⊢
      injection h with h
      subst h
      exact ⟨u, rfl, hp⟩
    · simp only [if_neg hk] at h ⊢
      exact look_map g hg r t v h
theorem thaw_sound {w : World} {ok : Nat → Prop} {β : Nat → Value} {f : Nat → Value} {n : Nat} : ∀ (vs : List AV) (ys : List C) (sl : List (Nat × AV)), All2 (CapOk w ok β) vs ys → (∀ t v, look sl t = some v → VA w ok β v (f t) ∧ v.lt n) →
    ∀ t v, look (thaw vs ys sl) t = some v → VA w ok β v (f t) ∧ v.lt n
  | [], ys, sl, h, hs, t, v, hl => hs t v (by unfold thaw at hl; exact hl)
  | x :: vs, [], sl, h, hs, t, v, hl => by simp [All2] at h
  | x :: vs, y :: ys, sl, h, hs, t, v, hl => by
    obtain ⟨⟨cs, rfl, hc⟩, h⟩ := h
    unfold thaw at hl
    split at hl
    · rename_i hh off r cs' q sl' heq1 heq2
      injection heq1 with e1 e2
      injection heq2 with e3 e4
      subst e1 e2 e4
      injection e3 with e3
      subst e3
      refine thaw_sound vs ys _ h ?_ t v hl
      intro t v hl
      obtain ⟨u, hu, hg⟩ := look_map _ (by intro p; unfold thaw1; split <;> (try split) <;> rfl) _ t v hl
      obtain ⟨h1, h2⟩ := hs t u hu
      unfold thaw1 at hg
      simp only at hg
      split at hg
      · rename_i h'
        split at hg
        · rename_i heq
          subst heq
          injection hg with _ hg
          subst hg
          exact ⟨VC.of_rep (β := β) (hc _ _ rfl _ h1), by intro x hx; simp [C.hs] at hx⟩
        · injection hg with _ hg
          subst hg
          exact ⟨h1, h2⟩
      · injection hg with _ hg
        subst hg
        exact ⟨h1, h2⟩
    · rename_i heq1 heq2
      injection heq1 with e1 e2
      injection heq2 with e3 e4
      subst e2 e4
      exact thaw_sound vs ys _ h hs t v hl
    · rename_i hne1 hne2
      exact absurd rfl (hne2 x vs (.at_ cs) ys rfl)
theorem eff_makeFunc (S : Sim G w0 st a w β Lf) {g : Nat} {f captured : Array Operand} (ho : o.op = .makeFunc (.func g) f captured) (h : eff E call st o K = some r) (hX : ∀ st' a' w', SimE G w0 st' a' w' → K st' = some r → X a' w') : o.wp E.P a w X Q := by
  simp only [eff, ho] at h
  split at h
  · rename_i vs hev
    split at h
    · rename_i hf
      simp only [Array.isEmpty_iff] at hf
      subst hf
      split at h
      · rename_i caps st1 hfr
        obtain ⟨hva, hvl⟩ := evAll_sound S hev
        obtain ⟨k1, k2, k3, k4⟩ := freezeVars_sound vs caps _ st st1 S hva hfr
        have S1 : Sim G w0 { st with ob := st1.ob } a w β Lf := S.fewer k2
        rw [← k1] at S1
        have hsl := thaw_sound (n := st1.nx) vs caps st1.sl k4 fun t v ht => ⟨S1.slots t v ht, S1.slt t v ht⟩
        have S2 : Sim G w0 { st1 with sl := thaw vs caps st1.sl } a w β Lf :=
          { fresh := S1.fresh, below := S1.below, defers := S1.defers, size := S1.size, slots := fun t v ht => (hsl t v ht).1, slt := fun t v ht => (hsl t v ht).2, obs := S1.obs, olt := S1.olt, new := S1.new, nodup := S1.nodup, disj := S1.disj }
        have hclo : VA w (imm G { st1 with sl := thaw vs caps st1.sl } Lf) β (.c (.clo g caps)) (.func (.func g) #[] (captured.toList.map a.eval).toArray) := by
          show rep w (imm G st1 Lf) (.clo g caps) _
          simp only [rep]
          exact ⟨_, rfl, k3⟩
        refine wp_value (u := .func (.func g) #[] (captured.toList.map a.eval).toArray) (w' := w) ?_ (hX _ _ _ ⟨_, _, S2.set o.dst hclo (by intro x hx; simp [C.hs] at hx)⟩ h)
        have e1 : (captured.toList.map a.eval).toArray = captured.map a.eval := by apply Array.toList_inj.1; simp
        rw [e1]
        simp [execOp, ho, Instr.makeFunc]
      · cases h
    · cases h
  · cases h
end
end Go.V

namespace Go.V
open Go.RowKit (Below)
set_option linter.unusedVariables false
set_option linter.unusedSimpArgs false

section
variable {E : Env} {G : Nat → Prop} {w0 : World} {st : St} {a : Act} {w : World} {β : Nat → Value} {Lf : Nat → List Nat} {R : Type} {r : R} {o : Oper} {call : CallD E} {K : St → Option R} {X : Act → World → Prop} {Q : Exit → Act → World → Prop}
theorem eff_sound (hE : EnvOk E) (hC : CallOk E call) (S : Sim G w0 st a w β Lf) (h : eff E call st o K = some r) (hX : ∀ st' a' w', SimE G w0 st' a' w' → K st' = some r → X a' w') : o.wp E.P a w X Q := by
  cases ho : o.op
  case alloc t => exact eff_alloc hE S ho h hX
  case box t x => exact eff_box S ho h hX
  case build t ps => exact eff_build hE S ho h hX
  case buildSlice t n ps => exact eff_buildSlice hE S ho h hX
  case makeSlice t l c => exact eff_makeSlice hE S ho h hX
  case store t a x => exact eff_store hE S ho h hX
  case makeFunc fn f c =>
    cases fn
    case func g => exact eff_makeFunc S ho h hX
    all_goals (simp only [eff, ho] at h; cases h)
  case call c =>
    obtain ⟨callee, args, tys⟩ := c
    cases callee
    case value f => exact eff_call hC S ho h hX
    case builtin b =>
      cases b
      case append => exact eff_append hE S ho h hX
      all_goals (simp only [eff, ho] at h; cases h)
    all_goals (simp only [eff, ho] at h; cases h)
  all_goals (simp only [eff, ho] at h; cases h)
theorem vstep_sound (hE : EnvOk E) (hC : CallOk E call) (S : Sim G w0 st a w β Lf) (h : vstep E call st o K = some r) (hX : ∀ st' a' w', SimE G w0 st' a' w' → K st' = some r → X a' w') : o.wp E.P a w X Q := by
  rcases opv_sound hE S h with ⟨av, u, hr, hv, hl, hK⟩ | h
  · exact wp_value hr (hX _ _ _ ⟨_, _, S.set o.dst hv hl⟩ hK)
  · exact eff_sound hE hC S h hX
theorem guard_sound (S : Sim G w0 st a w β Lf) {ops : Array Oper} {b : Bool} (h : guard? st ops o = some b) : Region.wanted o (yielded ops a.tmps) = b := by
  unfold guard? at h
  unfold Region.wanted
  split at h
  · rename_i hg
    simp only [Option.some.injEq] at h
    rw [hg]
    exact h
  · rename_i j want hg
    rw [hg]
    simp only
    split at h
    · rename_i p hp
      split at h
      · rename_i t ht
        split at h
        · rename_i x hx
          simp only [Option.some.injEq] at h
          have hv' : a.tmps.getD t undef = .bool x := by
            have h1 : rep w (imm G st Lf) (.v (.bool x)) (a.tmps.getD t undef) := S.slots t _ hx
            simp only [rep] at h1
            exact h1.1
          have hy : yielded ops a.tmps j = some x := by
            unfold yielded
            rw [hp]
            simp only [Option.bind_some, ht]
            rw [Array.getD_eq_getD_getElem?] at hv'
            cases hq : a.tmps[t]? with
            | none => rw [hq] at hv'; simp [undef] at hv'
            | some u => rw [hq] at hv'; simp at hv'; rw [hv']
          rw [hy, ← h]
          cases x <;> cases want <;> rfl
        · rename_i hx
          simp only [Option.some.injEq] at h
          have hv' : a.tmps.getD t undef = .tuple #[] := by
            obtain ⟨us, h1, h2⟩ := S.slots t _ hx
            cases us with
            | nil => exact h1
            | cons u us => simp [All2] at h2
          have hy : yielded ops a.tmps j = none := by
            unfold yielded
            rw [hp]
            simp only [Option.bind_some, ht]
            rw [Array.getD_eq_getD_getElem?] at hv'
            cases hq : a.tmps[t]? with
            | none => rfl
            | some u => rw [hq] at hv'; simp at hv'; rw [hv']
          rw [hy, ← h]
          rfl
        · cases h
      · cases h
    · cases h
theorem Sim.congr {st' : St} (S : Sim G w0 st a w β Lf) (hob : st'.ob = st.ob) (hnx : st'.nx = st.nx) (hnt : st'.nt = st.nt) (hsl : ∀ t, look st'.sl t = look st.sl t) : Sim G w0 st' a w β Lf := by
  have himm : imm G st' Lf = imm G st Lf := by unfold imm; rw [hob]
  exact { fresh := S.fresh, below := S.below, defers := S.defers, size := by rw [hnt]; exact S.size, slots := fun t v ht => by rw [himm]; exact S.slots t v (by rw [← hsl]; exact ht),
          slt := fun t v ht => by rw [hnx]; exact S.slt t v (by rw [← hsl]; exact ht), obs := fun h o ho => by rw [himm]; rw [hob] at ho; exact S.obs h o ho, olt := fun h o ho => by rw [hnx]; rw [hob] at ho; exact S.olt h o ho,
          new := fun h o ho => by rw [hob] at ho; exact S.new h o ho, nodup := fun h o ho => by rw [hob] at ho; exact S.nodup h o ho, disj := fun h o h' o' ho ho' => by rw [hob] at ho ho'; exact S.disj h o h' o' ho ho' }
/-- A state that holds the same. -/
structure Alike (st st' : St) : Prop where
  ob : st'.ob = st.ob
  nx : st'.nx = st.nx
  nt : st'.nt = st.nt
  sl : ∀ t, look st'.sl t = look st.sl t
theorem Alike.refl (st : St) : Alike st st := ⟨rfl, rfl, rfl, fun _ => rfl⟩
theorem Alike.sim {st' : St} (h : Alike st st') (S : Sim G w0 st a w β Lf) : Sim G w0 st' a w β Lf := S.congr h.ob h.nx h.nt h.sl
theorem know_alike {ops : Array Oper} {b : Bool} (h : guard? st ops o = some b) : Alike st (st.know ops o b) := by
  unfold guard? at h
  unfold St.know
  cases hg : o.guard with
  | none => exact Alike.refl st
  | some q =>
    obtain ⟨j, want⟩ := q
    rw [hg] at h
    simp only at h ⊢
    cases hp : ops[j]? with
    | none => rw [hp] at h; cases h
    | some p =>
      rw [hp] at h
      simp only at h ⊢
      cases ht : p.dst with
      | none => rw [ht] at h; cases h
      | some t =>
        rw [ht] at h
        simp only at h ⊢
        split
        · rename_i x hx
          rw [hx] at h
          simp only [Option.some.injEq] at h
          refine ⟨rfl, rfl, rfl, fun t' => ?_⟩
          by_cases e : t' = t
          · subst e
            rw [look_put_same, hx, ← h]
            cases x <;> cases want <;> rfl
          · exact look_put_ne _ _ e
        · exact Alike.refl st
/-- One operation, as the text has it. -/
theorem wpOp_sound (hE : EnvOk E) (hC : CallOk E call) (S : Sim G w0 st a w β Lf) {ops : Array Oper} {i : Nat} {b : Bool} (hi : ops[i]? = some o) (hg : guard? st ops o = some b)
    (h : (if b = true then vstep E call (st.know ops o true) o K else K ((st.know ops o false).unset o.dst)) = some r) (hX : ∀ st' a' w', SimE G w0 st' a' w' → K st' = some r → X a' w') : wpOp E.P ops Q i X a w := by
  unfold wpOp
  simp only [hi, guard_sound S hg]
  cases b with
  | true =>
    simp only [if_true] at h ⊢
    exact .inl (vstep_sound hE hC ((know_alike hg).sim S) h hX)
  | false =>
    simp only [Bool.false_eq_true, if_false] at h ⊢
    exact hX _ _ _ ⟨_, _, ((know_alike hg).sim S).unset o.dst⟩ h
theorem vregion_cons {ops : Array Oper} {m n : Nat} {l : List Oper} (h : vregion E call ops m (o :: l) n st K = some r) (hn : m ≤ n) :
    ∃ b, guard? st ops o = some b ∧ (if b = true then vstep E call (st.know ops o true) o (fun st => vregion E call ops m l (n + 1) st K) else vregion E call ops m l (n + 1) ((st.know ops o false).unset o.dst) K) = some r := by
  simp only [vregion] at h
  split at h
  · rename_i b hb
    refine ⟨b, hb, ?_⟩
    rw [if_neg (by omega : ¬ n < m)] at h
    exact h
  · cases h
theorem vregion_text (hE : EnvOk E) (hC : CallOk E call) {ops : Array Oper} : ∀ (l : List Oper) (n : Nat) (st : St) (a : Act) (w : World), ops.toList.drop n = l → SimE G w0 st a w → vregion E call ops 0 l n st K = some r →
    (∀ st' a' w', SimE G w0 st' a' w' → K st' = some r → Q .normal a' w') → wpOps E.P ops Q (List.range' n l.length) a w
  | [], n, st, a, w, _, S, h, hQ => hQ _ _ _ S h
  | o :: l, n, st, a, w, hd, ⟨β, Lf, S⟩, h, hQ => by
    obtain ⟨b, hg, h⟩ := vregion_cons h (Nat.zero_le n)
    have hi : ops[n]? = some o := by
      have := congrArg (·[0]?) hd
      simpa using this
    have hd' : ops.toList.drop (n + 1) = l := by
      have := congrArg (List.drop 1) hd
      rw [List.drop_drop] at this
      simpa using this
    rw [List.length_cons, List.range'_succ, wpOps_cons]
    exact wpOp_sound hE hC S hi hg h fun st' a' w' S' h' => vregion_text hE hC l (n + 1) st' a' w' hd' S' h' hQ
theorem region_text (hE : EnvOk E) (hC : CallOk E call) {id : Nat} {ops : Array Oper} (S : SimE G w0 st a w) (h : vregion E call ops 0 ops.toList 0 st K = some r)
    (hQ : ∀ st' a' w', SimE G w0 st' a' w' → K st' = some r → Q .normal a' w') : (Code.region id ops false).wp E.P Q a w := by
  refine wp_region ?_
  have := vregion_text (Q := Q) hE hC ops.toList 0 st a w (by simp) S h hQ
  rwa [List.range_eq_range', ← Array.length_toList]
end
end Go.V

namespace Go.V
open Go.RowKit (Below)
set_option linter.unusedVariables false
set_option linter.unusedSimpArgs false

/-! ### Regions that draw an order -/
section
variable {E : Env} {G : Nat → Prop} {w0 : World} {st : St} {a : Act} {w : World} {β : Nat → Value} {Lf : Nat → List Nat} {R : Type} {r : R} {o : Oper} {call : CallD E} {K : St → Option R} {X : Act → World → Prop} {Q : Exit → Act → World → Prop}

theorem bin_map {R : Type} (op : BinOp) (x y : Value) (K : Value → Option R) : bin op x y K = (bin op x y fun v => some v).bind K := by
  unfold bin
  split
  · split <;> first | rfl | (split <;> first | rfl | (split <;> rfl))
  · split <;> first | rfl | (split <;> rfl)
  · rfl
theorem binB_map {R : Type} (op : BinOp) (x y : Value) (K : Value → Option R) : binB op x y K = (binB op x y fun v => some v).bind K := by
  unfold binB
  split
  · split <;> rfl
  · rfl
def opvT (E : Env) (st : St) (o : Oper) : Option (Option AV) := opv E st o (fun v => some (some v)) (some none)
theorem opv_map (E : Env) (st : St) (o : Oper) (K : AV → Option R) (N : Option R) : opv E st o K N = (opvT E st o).bind fun | some v => K v | none => N := by
  unfold opvT
  cases ho : o.op <;> simp only [opv, ho]
  case call c =>
    obtain ⟨callee, args, tys⟩ := c
    cases callee
    case builtin b => cases b <;> (try rfl) <;> simp only [] <;> (repeat' split) <;> rfl
    all_goals rfl
  case slice => unfold slcK; (repeat' split) <;> rfl
  case binOp =>
    split
    · split
      · rw [binB_map, binB_map (K := fun v => some (some (AV.c (C.v v))))]
        cases binB _ _ _ fun v => some v <;> rfl
      · rw [bin_map, bin_map (K := fun v => some (some (AV.c (C.v v))))]
        cases bin _ _ _ fun v => some v <;> rfl
    · unfold structEq
      (repeat' split) <;> rfl
  all_goals first
    | rfl
    | ((repeat' split) <;> rfl)
/-- The slots that an operation reads hold the same. -/
structure Agree (o : Oper) (st st' : St) : Prop where
  ob : st'.ob = st.ob
  nx : st'.nx = st.nx
  ev : ∀ x ∈ o.op.operands, st'.ev x = st.ev x
theorem sc_eq {st st' : St} {x : Operand} (h : st'.ev x = st.ev x) : st'.sc x = st.sc x := by simp only [St.sc, h]
theorem int_eq {st st' : St} {x : Operand} (h : st'.ev x = st.ev x) : st'.int x = st.int x := by simp only [St.int, sc_eq h]
theorem bool_eq {st st' : St} {x : Operand} (h : st'.ev x = st.ev x) : st'.bool x = st.bool x := by simp only [St.bool, sc_eq h]
theorem len_eq {st st' : St} (h : st'.ob = st.ob) (c : C) : st'.len c = st.len c := by unfold St.len; rw [h]
theorem opvT_congr {st' : St} (h : Agree o st st') : opvT E st' o = opvT E st o := by
  obtain ⟨hob, hnx, hev⟩ := h
  unfold opvT
  cases ho : o.op <;> simp only [ho, Op.operands] at hev <;> simp only [opv, ho]
  case call c =>
    obtain ⟨callee, args, tys⟩ := c
    cases callee
    case builtin b =>
      have hev' : ∀ x ∈ args.toList, st'.ev x = st.ev x := fun x hx => hev x (by simpa [Call.operands] using hx)
      have hl : ∀ c, st'.len c = st.len c := len_eq hob
      cases b <;> (try rfl)
      case len =>
        simp only []
        generalize args.toList = as at hev'
        split
        · rename_i x t _
          rw [hev' x (by simp)]
          simp only [hl]
        · rfl
      case min =>
        simp only []
        generalize args.toList = as at hev'
        split
        · rename_i x y
          rw [int_eq (hev' x (by simp)), int_eq (hev' y (by simp))]
        · rfl
      case max =>
        simp only []
        generalize args.toList = as at hev'
        split
        · rename_i x y
          rw [int_eq (hev' x (by simp)), int_eq (hev' y (by simp))]
        · rfl
    all_goals rfl
  case move x => rw [hev x (by simp)]
  case assign x => rw [hev x (by simp)]
  case pick x y z => rw [bool_eq (hev x (by simp)), bool_eq (hev y (by simp)), bool_eq (hev z (by simp))]
  case binOp op t x y u => rw [sc_eq (hev x (by simp)), sc_eq (hev y (by simp)), hev x (by simp), hev y (by simp)]
  case slice t x lo hi mx =>
    have e1 : st'.ev x = st.ev x := hev x (by simp)
    have e2 : ∀ y ∈ lo, st'.ev y = st.ev y := fun y hy => hev y (by cases hy; simp)
    have e3 : ∀ y ∈ hi, st'.ev y = st.ev y := fun y hy => hev y (by cases hy; simp)
    have e4 : ∀ y ∈ mx, st'.ev y = st.ev y := fun y hy => hev y (by cases hy; simp)
    have hl : ∀ c, st'.len c = st.len c := len_eq hob
    have b1 : ∀ d, st'.bnd d lo = st.bnd d lo := fun d => by cases lo with | none => rfl | some y => exact int_eq (e2 y rfl)
    have b2 : ∀ d, st'.bnd d hi = st.bnd d hi := fun d => by cases hi with | none => rfl | some y => exact int_eq (e3 y rfl)
    rw [e1]
    unfold slcK
    simp only [b1, b2, hl]
    cases mx with
    | none => rfl
    | some m =>
      have q4 : st'.int m = st.int m := int_eq (e4 m rfl)
      cases lo with
      | none =>
        cases hi with
        | none => simp only [q4]
        | some y =>
          have q3 : st'.int y = st.int y := int_eq (e3 y rfl)
          simp only [q3, q4]
      | some z => cases hi <;> simp only [q4]
  case unOp op t x => rw [sc_eq (hev x (by simp))]
  case convert t u x => rw [sc_eq (hev x (by simp))]
  case index t x n => rw [sc_eq (hev x (by simp)), int_eq (hev n (by simp))]
  case field t x n => rw [hev x (by simp)]
  case fieldAddr t x n => rw [hev x (by simp)]
  case extract x n => rw [hev x (by simp)]
  case load t x => rw [hev x (by simp), hob]
  case indexAddr t x n => rw [hev x (by simp), int_eq (hev n (by simp)), hob]
theorem evAll_congr {st' : St} : ∀ (xs : List Operand), (∀ x ∈ xs, st'.ev x = st.ev x) → evAll st' xs = evAll st xs
  | [], _ => rfl
  | x :: xs, h => by simp only [evAll]; rw [h x (by simp), evAll_congr xs fun y hy => h y (by simp [hy])]
theorem data_congr {st' : St} (h : st'.ob = st.ob) (c : C) : st'.data c = st.data c := by cases c <;> simp only [St.data, h]
theorem datas_congr {st' : St} (h : st'.ob = st.ob) : ∀ cs : List C, st'.datas cs = st.datas cs
  | [] => rfl
  | c :: cs => by simp only [St.datas, data_congr h, datas_congr h cs]
theorem dataA_congr {st' : St} (h : st'.ob = st.ob) (v : AV) : st'.dataA v = st.dataA v := by cases v <;> simp only [St.dataA, data_congr h, datas_congr h]
theorem dataAs_congr {st' : St} (h : st'.ob = st.ob) : ∀ vs : List AV, st'.dataAs vs = st.dataAs vs
  | [] => rfl
  | v :: vs => by simp only [St.dataAs, dataA_congr h, dataAs_congr h vs]
/-- What an operation of a region's unordered part gives. -/
def HeadVal (E : Env) (call : CallD E) (st : St) (o : Oper) (av : AV) : Prop :=
  opvT E st o = some (some av) ∨ (∃ f args tys g caps vs xs, ∃ p : RTy (E.rs g), o.op = .call { callee := .value f, args, argTypes := tys } ∧ st.callee f = some (g, caps) ∧ evAll st args.toList = some vs ∧ st.dataAs vs = some xs ∧
    callable (E.rs g) vs = true ∧ call g (xs ++ caps.map .c) = some p ∧ resAV (resBor (E.rs g).shs p) = some av)
  ∨ ∃ t parts i ps fs pl cs, o.op = .build t parts ∧ E.ty t = some i ∧ evParts st parts.toList = some ps ∧ i.k = .agg fs ∧ placesOf E fs = some pl ∧ fillP pl (i.zero.map .v) ps = some cs ∧ av = .agg cs
theorem evParts_congr {st' : St} : ∀ (ps : List (Nat × Operand)), (∀ p ∈ ps, st'.ev p.2 = st.ev p.2) → evParts st' ps = evParts st ps
  | [], _ => rfl
  | (n, x) :: r, h => by
    simp only [evParts]
    rw [h (n, x) (by simp), evParts_congr r fun p hp => h p (by simp [hp])]
theorem HeadVal.congr {st' : St} {av : AV} (h : Agree o st st') (hv : HeadVal E call st o av) : HeadVal E call st' o av := by
  rcases hv with hv | ⟨f, args, tys, g, caps, vs, xs, p, h1, h2, h3, h4, h5, h6, h7⟩ | ⟨t, parts, i, ps, fs, pl, cs, h1, h2, h3, h4, h5, h6, rfl⟩
  · exact .inl (by rw [opvT_congr h]; exact hv)
  · have hev := h.ev
    rw [h1] at hev
    simp only [Op.operands, Call.operands] at hev
    refine .inr (.inl ⟨f, args, tys, g, caps, vs, xs, p, h1, ?_, ?_, ?_, h5, h6, h7⟩)
    · unfold St.callee at h2 ⊢
      rw [hev f (by simp)]
      exact h2
    · rw [evAll_congr _ fun x hx => hev x (by simp; exact .inr (by simpa using hx))]
      exact h3
    · rw [dataAs_congr h.ob]
      exact h4
  · have hev := h.ev
    rw [h1] at hev
    simp only [Op.operands] at hev
    refine .inr (.inr ⟨t, parts, i, ps, fs, pl, cs, h1, h2, ?_, h4, h5, h6, rfl⟩)
    rw [evParts_congr _ fun p hp => hev p.2 (by simp; exact ⟨p.1, by simpa using hp⟩)]
    exact h3
theorem HeadVal.sound {av : AV} (hE : EnvOk E) (hC : CallOk E call) (S : Sim G w0 st a w β Lf) (hv : HeadVal E call st o av) (hX : ∀ u w', Below w.heap.size w w' → VA w' (imm G st Lf) β av u → av.lt st.nx → X (a.put o.dst u) w') : o.wp E.P a w X Q := by
  rcases hv with hv | ⟨f, args, tys, g, caps, vs, xs, p, h1, h2, h3, h4, h5, h6, h7⟩ | ⟨t, parts, i, ps, fs, pl, cs, h1, h2, h3, h4, h5, h6, rfl⟩
  · unfold opvT at hv
    rcases opv_sound hE S hv with ⟨av', u, hr, hva, hl, hK⟩ | hv
    · simp only [Option.some.injEq] at hK
      subst hK
      exact wp_value hr (hX u w (Below.refl _ w) hva hl)
    · simp at hv
  · exact call_reads hC S h1 h2 h3 h4 h5 h6 h7 hX
  · obtain ⟨u, g1, g2, g3⟩ := build_val hE S h1 h2 h3 h4 h5 h6
    exact wp_value g1 (hX u w (Below.refl _ w) g2 g3)
theorem vstepA_split (h : vstepA E call st o K = some r) : ∃ av, HeadVal E call st o av ∧ K (st.set o.dst av) = some r := by
  unfold vstepA at h
  rw [opv_map] at h
  cases hT : opvT E st o with
  | none => rw [hT] at h; cases h
  | some x =>
    rw [hT] at h
    simp only [Option.bind_some] at h
    cases x with
    | some av => exact ⟨av, .inl hT, h⟩
    | none =>
      simp only at h
      split at h
      · rename_i f args tys ho
        split at h
        · rename_i g caps vs hcl hev
          split at h
          · rename_i xs hda
            split at h
            · rename_i hcan
              cases hc : call g (xs ++ caps.map .c) with
              | none => rw [hc] at h; cases h
              | some p =>
                rw [hc] at h
                simp only [Option.bind_some] at h
                split at h
                · rename_i v hv
                  exact ⟨v, .inr (.inl ⟨f, args, tys, g, caps, vs, xs, p, ho, hcl, hev, hda, hcan, hc, hv⟩), h⟩
                · cases h
            · cases h
          · cases h
        · cases h
      · rename_i t parts ho
        split at h
        · rename_i i ps hi hps
          split at h
          · rename_i fs hk
            split at h
            · rename_i pl hpl
              split at h
              · rename_i cs hcs
                exact ⟨_, .inr (.inr ⟨t, parts, i, ps, fs, pl, cs, ho, hi, hps, hk, hpl, hcs, rfl⟩), h⟩
              · cases h
            · cases h
          · cases h
        · cases h
      · cases h
/-- A step of the unordered part. -/
def HeadStep (E : Env) (call : CallD E) (ops : Array Oper) (st : St) (o : Oper) (st1 : St) : Prop :=
  ∃ stk, Alike st stk ∧ ((guard? st ops o = some false ∧ st1 = stk.unset o.dst) ∨ (guard? st ops o = some true ∧ ∃ av, HeadVal E call stk o av ∧ st1 = stk.set o.dst av))
theorem head_states {ops : Array Oper} {m : Nat} : ∀ (l : List Oper) (n : Nat) (st : St), ops.toList.drop n = l → n ≤ m → m ≤ ops.size → vregion E call ops m l n st K = some r →
    ∃ S : Nat → St, S n = st ∧ (∀ i, n ≤ i → i < m → ∃ o, ops[i]? = some o ∧ HeadStep E call ops (S i) o (S (i + 1))) ∧ vregion E call ops m (ops.toList.drop m) m (S m) K = some r
  | [], n, st, hd, hn, hm, h => by
    have : ops.size ≤ n := by
      have := List.drop_eq_nil_iff.1 hd
      simpa using this
    have e : n = m := by omega
    subst e
    exact ⟨fun _ => st, rfl, fun i h1 h2 => absurd h1 (by omega), by rw [hd]; exact h⟩
  | o :: l, n, st, hd, hn, hm, h => by
    have hi : ops[n]? = some o := by
      have := congrArg (·[0]?) hd
      simpa using this
    have hd' : ops.toList.drop (n + 1) = l := by
      have := congrArg (List.drop 1) hd
      rw [List.drop_drop] at this
      simpa using this
    by_cases hnm : n = m
    · subst hnm
      exact ⟨fun _ => st, rfl, fun i h1 h2 => absurd h1 (by omega), by rw [hd]; exact h⟩
    · have step : ∃ st1, HeadStep E call ops st o st1 ∧ vregion E call ops m l (n + 1) st1 K = some r := by
        simp only [vregion] at h
        split at h
        · rename_i b hb
          cases b with
          | true =>
            rw [if_pos rfl, if_pos (by omega : n < m)] at h
            obtain ⟨av, hv, h⟩ := vstepA_split h
            exact ⟨_, ⟨_, know_alike hb, .inr ⟨hb, av, hv, rfl⟩⟩, h⟩
          | false => exact ⟨_, ⟨_, know_alike hb, .inl ⟨hb, rfl⟩⟩, by simpa using h⟩
        · cases h
      obtain ⟨st1, hs, h1⟩ := step
      obtain ⟨S, h2, h3, h4⟩ := head_states l (n + 1) st1 hd' (by omega) hm h1
      refine ⟨fun i => if i = n then st else S i, by simp, fun i hi1 hi2 => ?_, by simp only []; rw [if_neg (Ne.symm hnm)]; exact h4⟩
      by_cases hin : i = n
      · subst hin
        refine ⟨o, hi, ?_⟩
        simp only []
        rw [if_pos trivial, if_neg (by omega), h2]
        exact hs
      · obtain ⟨o', h5, h6⟩ := h3 i (by omega) hi2
        refine ⟨o', h5, ?_⟩
        simp only []
        rw [if_neg hin, if_neg (by omega)]
        exact h6
end
end Go.V

namespace Go.V
open Go.RowKit (Below)
set_option linter.unusedVariables false
set_option linter.unusedSimpArgs false

def dstOf (ops : Array Oper) (k : Nat) : Option Tmp := (ops[k]?).bind (·.dst)
/-- The unordered part: no two write one slot; who reads a slot waits for who writes it; the rest waits for all ahead of it. -/
def orderOk (ops : Array Oper) (m : Nat) : Bool :=
  let B := Region.before ops
  (List.range ops.size).all fun j => match ops[j]? with
    | none => true
    | some o => (o.after.toList.all fun e => !Region.binds .any e || decide (e.on < j)) &&
      (if m ≤ j then B.getD j 0 == 2 ^ j - 1 else
        (List.range m).all fun i => i == j || match dstOf ops i with
          | none => true
          | some d => o.dst != some d && (!(o.looksAt ops).contains d || (decide (i < j) && (B.getD j 0).testBit i)))
def Closed (ops : Array Oper) (L : Nat → Prop) : Prop := ∀ j o, ops[j]? = some o → L j → ∀ e ∈ o.after, Region.binds .any e = true → L e.on
theorem bits_fold (A : Array Nat) (i : Nat) : ∀ (l : List Edge) (s : Nat), (l.foldl (fun s e => if Region.binds .any e then s ||| 2 ^ e.on ||| A.getD e.on 0 else s) s).testBit i = true → s.testBit i = true ∨ ∃ e ∈ l, Region.binds .any e = true ∧ (i = e.on ∨ (A.getD e.on 0).testBit i = true)
  | [], s, h => .inl h
  | e :: l, s, h => by
    rw [List.foldl_cons] at h
    rcases bits_fold A i l _ h with h | ⟨e', he, h⟩
    · split at h
      · rename_i hb
        rw [Nat.testBit_or, Nat.testBit_or, Bool.or_eq_true, Bool.or_eq_true] at h
        rcases h with (h | h) | h
        · exact .inl h
        · rw [Nat.testBit_two_pow] at h
          exact .inr ⟨e, by simp, hb, .inl (by simpa using h : e.on = i).symm⟩
        · exact .inr ⟨e, by simp, hb, .inr h⟩
      · exact .inl h
    · exact .inr ⟨e', by simp [he], h⟩
theorem before_fold {ops : Array Oper} {L : Nat → Prop} (hcl : Closed ops L) : ∀ (l : List Oper) (A : Array Nat), ops.toList.drop A.size = l →
    (∀ j o, j < A.size → ops[j]? = some o → (∀ e ∈ o.after, Region.binds .any e = true → L e.on) → ∀ i, (A.getD j 0).testBit i = true → L i) →
    ∀ j o, ops[j]? = some o → (∀ e ∈ o.after, Region.binds .any e = true → L e.on) → ∀ i, ((l.foldl (fun acc o => acc.push (o.after.foldl (fun s e => if Region.binds .any e then s ||| 2 ^ e.on ||| acc.getD e.on 0 else s) 0)) A).getD j 0).testBit i = true → L i
  | [], A, hd, hA, j, o, ho, he, i, hi => by
    have hs : ops.size ≤ A.size := by
      have := List.drop_eq_nil_iff.1 hd
      simpa using this
    exact hA j o (Nat.lt_of_lt_of_le (Array.getElem?_eq_some_iff.1 ho).1 hs) ho he i hi
  | q :: l, A, hd, hA, j, o, ho, he, i, hi => by
    rw [List.foldl_cons] at hi
    have hq : ops[A.size]? = some q := by
      have := congrArg (·[0]?) hd
      simpa using this
    have hd' : ops.toList.drop (A.size + 1) = l := by
      have := congrArg (List.drop 1) hd
      rw [List.drop_drop] at this
      simpa using this
    refine before_fold hcl l _ (by simpa using hd') ?_ j o ho he i hi
    intro j o hj ho he i hi
    rw [Array.size_push] at hj
    by_cases hjA : j = A.size
    · subst hjA
      rw [hq] at ho
      cases ho
      rw [Array.getD_eq_getD_getElem?] at hi
      simp only [Array.getElem?_push_size, Option.getD_some] at hi
      rw [← Array.foldl_toList] at hi
      rcases bits_fold A i _ 0 hi with h | ⟨e, hem, hb, h⟩
      · simp at h
      · have hL := he e (by simpa using hem) hb
        rcases h with rfl | h
        · exact hL
        · by_cases hlt : e.on < A.size
          · have hs : e.on < ops.size := Nat.lt_trans hlt (Array.getElem?_eq_some_iff.1 hq).1
            exact hA e.on ops[e.on] hlt (by simp [hs]) (hcl e.on _ (by simp [hs]) hL) i h
          · rw [Array.getD_eq_getD_getElem?, Array.getElem?_eq_none (by omega)] at h
            simp at h
    · refine hA j o (by omega) ho he i ?_
      rw [Array.getD_eq_getD_getElem?, Array.getElem?_push_lt (by omega)] at hi
      rw [Array.getD_eq_getD_getElem?, Array.getElem?_eq_getElem (by omega)]
      exact hi
theorem before_listed {ops : Array Oper} {L : Nat → Prop} (hcl : Closed ops L) {j : Nat} {o : Oper} (ho : ops[j]? = some o) (he : ∀ e ∈ o.after, Region.binds .any e = true → L e.on) (i : Nat) (hi : ((Region.before ops).getD j 0).testBit i = true) : L i := by
  unfold Region.before at hi
  rw [← Array.foldl_toList] at hi
  exact before_fold hcl ops.toList #[] (by simp) (fun j o h => by simp at h) j o ho he i hi
theorem lastFrom_le (b : Array Nat) (top : Nat) : ∀ n, lastFrom b n top ≤ n
  | 0 => Nat.le_refl _
  | n + 1 => by unfold lastFrom; split
                · exact Nat.le_succ_of_le (lastFrom_le b top n)
                · exact Nat.le_refl _
theorem headOf_le (ops : Array Oper) : headOf ops ≤ ops.size := lastFrom_le _ _ _
section
variable {ops : Array Oper} {m : Nat}
theorem orderOk_at (h : orderOk ops m = true) {j : Nat} {o : Oper} (ho : ops[j]? = some o) : (∀ e ∈ o.after, Region.binds .any e = true → e.on < j) ∧ (m ≤ j → (Region.before ops).getD j 0 = 2 ^ j - 1) ∧
    (j < m → ∀ i, i < m → i ≠ j → ∀ d, dstOf ops i = some d → o.dst ≠ some d ∧ (d ∈ o.looksAt ops → i < j ∧ ((Region.before ops).getD j 0).testBit i = true)) := by
  unfold orderOk at h
  have h1 := List.all_eq_true.1 h j (List.mem_range.2 (Array.getElem?_eq_some_iff.1 ho).1)
  rw [ho] at h1
  simp only [Bool.and_eq_true] at h1
  obtain ⟨h1, h2⟩ := h1
  refine ⟨fun e he hb => ?_, fun hj => ?_, fun hj i hi hne d hd => ?_⟩
  · have := List.all_eq_true.1 h1 e (by simpa using he)
    simpa [hb] using this
  · rw [if_pos hj] at h2
    simpa using h2
  · rw [if_neg (by omega)] at h2
    have := List.all_eq_true.1 h2 i (List.mem_range.2 hi)
    rw [hd] at this
    simp only [Bool.or_eq_true, beq_iff_eq, hne, false_or, Bool.and_eq_true, bne_iff_ne, ne_eq, Bool.not_eq_true', decide_eq_true_eq] at this
    refine ⟨this.1, fun hm => ?_⟩
    rcases this.2 with h3 | h3
    · have : (o.looksAt ops).contains d = true := by simpa using hm
      rw [this] at h3
      cases h3
    · exact h3
end
section
variable {E : Env} {G : Nat → Prop} {w0 : World} {st : St} {a : Act} {w : World} {β : Nat → Value} {Lf : Nat → List Nat} {R : Type} {r : R} {o : Oper} {call : CallD E} {K : St → Option R} {X : Act → World → Prop} {Q : Exit → Act → World → Prop}
theorem head_count (l : Array Bool) (i : Nat) (h : l.getD i true = false) : (l.setIfInBounds i true).toList.count false + 1 = l.toList.count false := by
  have hi : i < l.size := by
    rcases Nat.lt_or_ge i l.size with h' | h'
    · exact h'
    · simp [Array.getElem?_eq_none h'] at h
  have hf : l[i] = false := by simpa [hi] using h
  have hpos : 0 < l.toList.count false := List.count_pos_iff.2 (by rw [← hf]; simp)
  rw [Array.toList_setIfInBounds, List.count_set (by simpa using hi)]
  have e1 : (l.toList[i]'(by simpa using hi) == false) = true := by simp [hf]
  rw [if_pos e1, if_neg (by simp)]
  omega
theorem getD_set_iff {l : Array Bool} {i j : Nat} (hi : i < l.size) : (l.setIfInBounds i true).getD j false = true ↔ (j = i ∨ l.getD j false = true) := by
  by_cases h : i = j
  · subst h; simp [hi]
  · rw [Go.getD_set_ne false h]
    constructor
    · exact .inr
    · rintro (h' | h')
      · exact absurd h'.symm h
      · exact h'
theorem getD_false_iff {l : Array Bool} {j : Nat} (hj : j < l.size) : l.getD j true = false ↔ ¬ l.getD j false = true := by
  simp [hj]
/-- The ordered end. -/
theorem wpAny_tail {ops : Array Oper} (hE : EnvOk E) (hC : CallOk E call) {m : Nat} (hok : orderOk ops m = true) : ∀ (l : List Oper) (n fuel : Nat) (listed : Array Bool) (st : St) (a : Act) (w : World), ops.toList.drop n = l → m ≤ n → n ≤ ops.size → ops.size - n ≤ fuel → listed.size = ops.size →
    (∀ j, j < ops.size → (listed.getD j false = true ↔ j < n)) → SimE G w0 st a w → vregion E call ops m l n st K = some r → (∀ st' a' w', SimE G w0 st' a' w' → K st' = some r → Q .normal a' w') → wpAny E.P .any ops Q fuel listed a w
  | [], n, fuel, listed, st, a, w, hd, hmn, hns, hfu, hsz, hl, S, h, hQ => by
    have hs : ops.size ≤ n := by
      have := List.drop_eq_nil_iff.1 hd
      simpa using this
    refine wpAny_done ?_ (hQ _ _ _ S h) fuel
    refine List.eq_nil_iff_forall_not_mem.2 fun j hj => ?_
    obtain ⟨h1, o, ho, _⟩ := mem_ready.1 hj
    have hj' := (Array.getElem?_eq_some_iff.1 ho).1
    exact (getD_false_iff (by omega)).1 h1 ((hl j hj').2 (by omega))
  | o :: l, n, fuel, listed, st, a, w, hd, hmn, hns, hfu, hsz, hl, ⟨β, Lf, S⟩, h, hQ => by
    have hi : ops[n]? = some o := by
      have := congrArg (·[0]?) hd
      simpa using this
    have hd' : ops.toList.drop (n + 1) = l := by
      have := congrArg (List.drop 1) hd
      rw [List.drop_drop] at this
      simpa using this
    have hns' : n < ops.size := (Array.getElem?_eq_some_iff.1 hi).1
    obtain ⟨b, hg, h⟩ := vregion_cons h hmn
    have hcl : Closed ops fun j => listed.getD j false = true := fun j p hp hj e he hb => by
      have hjs := (Array.getElem?_eq_some_iff.1 hp).1
      have h1 := (hl j hjs).1 hj
      have h2 := (orderOk_at hok hp).1 e he hb
      exact (hl e.on (by omega)).2 (by omega)
    have hready : ∀ i ∈ Region.ready .any ops listed, i = n := by
      intro i hir
      obtain ⟨h1, p, hp, h2⟩ := mem_ready.1 hir
      have his := (Array.getElem?_eq_some_iff.1 hp).1
      have h3 : ¬ i < n := fun hlt => (getD_false_iff (by omega)).1 h1 ((hl i his).2 hlt)
      by_cases hin : i = n
      · exact hin
      · have hB := (orderOk_at hok hp).2.1 (by omega)
        have := before_listed hcl hp h2 n (by rw [hB, Nat.testBit_two_pow_sub_one]; simp; omega)
        have := (hl n hns').1 this
        omega
    have hnr : n ∈ Region.ready .any ops listed := by
      refine mem_ready.2 ⟨(getD_false_iff (by omega)).2 fun h => by have := (hl n hns').1 h; omega, o, hi, fun e he hb => ?_⟩
      have := (orderOk_at hok hi).1 e he hb
      exact (hl e.on (by omega)).2 this
    obtain ⟨fuel, rfl⟩ : ∃ k, fuel = k + 1 := ⟨fuel - 1, by omega⟩
    refine ⟨fun h0 => (by rw [h0] at hnr; cases hnr), fun i hir => ?_⟩
    obtain rfl := hready i hir
    refine wpOp_sound hE hC S hi hg h fun st' a' w' S' h' => wpAny_tail hE hC hok l (i + 1) fuel _ st' a' w' hd' (by omega) (by omega) (by omega) (by simpa using hsz) ?_ S' h' hQ
    intro j hj
    rw [getD_set_iff (by omega), hl j hj]
    omega
theorem look_set (st : St) (d : Option Tmp) (v : AV) (t : Nat) (h : d ≠ some t) : look (st.set d v).sl t = look st.sl t := by
  cases d with
  | none => rfl
  | some d =>
    have hne : t ≠ d := fun e => h (by rw [e])
    simp only [St.set]
    split
    · exact look_put_ne _ _ hne
    · exact look_del_ne _ hne
theorem look_unset (st : St) (d : Option Tmp) (t : Nat) (h : d ≠ some t) : look (st.unset d).sl t = look st.sl t := look_set st d _ t h
theorem set_ob (st : St) (d : Option Tmp) (v : AV) : (st.set d v).ob = st.ob ∧ (st.set d v).nx = st.nx ∧ (st.set d v).nt = st.nt := by
  cases d with
  | none => exact ⟨rfl, rfl, rfl⟩
  | some d => simp only [St.set]; split <;> exact ⟨rfl, rfl, rfl⟩
theorem unset_ob (st : St) (d : Option Tmp) : (st.unset d).ob = st.ob ∧ (st.unset d).nx = st.nx ∧ (st.unset d).nt = st.nt := set_ob st d _
theorem HeadStep.ob {ops : Array Oper} {st1 : St} (h : HeadStep E call ops st o st1) : st1.ob = st.ob ∧ st1.nx = st.nx ∧ st1.nt = st.nt := by
  obtain ⟨stk, hk, h⟩ := h
  have hk' : stk.ob = st.ob ∧ stk.nx = st.nx ∧ stk.nt = st.nt := ⟨hk.ob, hk.nx, hk.nt⟩
  rcases h with ⟨_, rfl⟩ | ⟨_, av, _, rfl⟩
  · obtain ⟨h1, h2, h3⟩ := unset_ob stk o.dst
    exact ⟨h1.trans hk'.1, h2.trans hk'.2.1, h3.trans hk'.2.2⟩
  · obtain ⟨h1, h2, h3⟩ := set_ob stk o.dst av
    exact ⟨h1.trans hk'.1, h2.trans hk'.2.1, h3.trans hk'.2.2⟩
theorem HeadStep.look {ops : Array Oper} {st1 : St} (h : HeadStep E call ops st o st1) (t : Nat) (ht : o.dst ≠ some t) : look st1.sl t = look st.sl t := by
  obtain ⟨stk, hk, h⟩ := h
  rcases h with ⟨_, rfl⟩ | ⟨_, av, _, rfl⟩
  · exact (look_unset _ _ _ ht).trans (hk.sl t)
  · exact (look_set _ _ _ _ ht).trans (hk.sl t)
theorem region_draw (hE : EnvOk E) (hC : CallOk E call) {id : Nat} {ops : Array Oper} (hok : orderOk ops (headOf ops) = true) (Ssim : SimE G w0 st a w) (h : vregion E call ops (headOf ops) ops.toList 0 st K = some r)
    (hQ : ∀ st' a' w', SimE G w0 st' a' w' → K st' = some r → Q .normal a' w') : (Code.region id ops true).wp E.P Q a w := by
  refine wp_region_any hE.mixed ?_
  have hms := headOf_le ops
  generalize headOf ops = m at hok h hms
  obtain ⟨S, hS0, hSstep, hStail⟩ := head_states ops.toList 0 st (by simp) (Nat.zero_le _) hms h
  have hdst : ∀ i o, ops[i]? = some o → dstOf ops i = o.dst := fun i o ho => by simp [dstOf, ho]
  have hSob : ∀ i, i ≤ m → (S i).ob = st.ob ∧ (S i).nx = st.nx ∧ (S i).nt = st.nt := by
    intro i
    induction i with
    | zero => intro _; rw [hS0]; exact ⟨rfl, rfl, rfl⟩
    | succ i ih =>
      intro hi
      obtain ⟨o, ho, hst⟩ := hSstep i (Nat.zero_le _) (by omega)
      obtain ⟨h1, h2, h3⟩ := hst.ob
      obtain ⟨h4, h5, h6⟩ := ih (by omega)
      exact ⟨h1.trans h4, h2.trans h5, h3.trans h6⟩
  have hkeep : ∀ t i j, i ≤ j → j ≤ m → (∀ k, i ≤ k → k < j → dstOf ops k ≠ some t) → look (S j).sl t = look (S i).sl t := by
    intro t i j hij hjm
    induction j with
    | zero => intro _; have : i = 0 := by omega
              rw [this]
    | succ j ih =>
      intro hk
      by_cases e : i = j + 1
      · rw [e]
      · obtain ⟨o, ho, hst⟩ := hSstep j (Nat.zero_le _) (by omega)
        rw [hst.look t (by rw [← hdst j o ho]; exact hk j (by omega) (by omega))]
        exact ih (by omega) (by omega) fun k h1 h2 => hk k h1 (by omega)
  have hinj : ∀ i j d, i < m → j < m → dstOf ops i = some d → dstOf ops j = some d → i = j := by
    intro i j d hi hj h1 h2
    by_cases e : i = j
    · exact e
    · obtain ⟨o, ho⟩ : ∃ o, ops[j]? = some o := ⟨ops[j], by simp [Nat.lt_of_lt_of_le hj hms]⟩
      have := ((orderOk_at hok ho).2.2 hj i hi e d h1).1
      rw [hdst j o ho] at h2
      exact absurd h2 this
  -- the unordered part
  have head : ∀ fuel (listed : Array Bool) (a : Act) (w : World) (stL : St), listed.size = ops.size → listed.toList.count false ≤ fuel → Closed ops (fun j => listed.getD j false = true) → (∀ j, j < ops.size → m ≤ j → ¬ listed.getD j false = true) →
      (stL.ob = st.ob ∧ stL.nx = st.nx ∧ stL.nt = st.nt) → (∀ k d, k < m → listed.getD k false = true → dstOf ops k = some d → look stL.sl d = look (S (k + 1)).sl d) → (∀ t, (∀ k, k < m → listed.getD k false = true → dstOf ops k ≠ some t) → look stL.sl t = look (S 0).sl t) →
      SimE G w0 stL a w → wpAny E.P .any ops Q fuel listed a w := by
    intro fuel
    induction fuel with
    | zero =>
      intro listed a w stL hsz hcnt hcl htail hobL hP1 hP2 ⟨β, Lf, Sm⟩
      have hall : ∀ j, j < ops.size → listed.getD j false = true := by
        intro j hj
        have h0 : listed.toList.count false = 0 := by omega
        have hn := List.count_eq_zero.1 h0
        have hj' : j < listed.size := by omega
        cases hv : listed[j] with
        | true => simp [hj', hv]
        | false => exact absurd (by rw [← hv]; simp) hn
      have hmm : m = ops.size := by
        rcases Nat.lt_or_ge m ops.size with h1 | h1
        · exact absurd (hall m h1) (htail m h1 (Nat.le_refl _))
        · omega
      have Sm' : Sim G w0 (S m) a w β Lf := by
        obtain ⟨h1, h2, h3⟩ := hSob m (Nat.le_refl _)
        refine Sm.congr (h1.trans hobL.1.symm) (h2.trans hobL.2.1.symm) (h3.trans hobL.2.2.symm) fun t => ?_
        by_cases hex : ∃ k, k < m ∧ dstOf ops k = some t
        · obtain ⟨k, hk, hd⟩ := hex
          rw [hP1 k t hk (hall k (by omega)) hd]
          exact hkeep t (k + 1) m (by omega) (Nat.le_refl _) fun k' h4 h5 hd' => by have := hinj k k' t hk h5 hd hd'; omega
        · rw [hP2 t fun k hk _ hd => hex ⟨k, hk, hd⟩]
          exact hkeep t 0 m (Nat.zero_le _) (Nat.le_refl _) fun k _ hk hd => hex ⟨k, hk, hd⟩
      refine wpAny_tail hE hC hok _ m 0 listed (S m) a w rfl (Nat.le_refl _) hms (by omega) hsz (fun j hj => ⟨fun _ => by omega, fun _ => hall j hj⟩) ⟨β, Lf, Sm'⟩ hStail hQ
    | succ fuel ih =>
      intro listed a w stL hsz hcnt hcl htail hobL hP1 hP2 ⟨β, Lf, Sm⟩
      by_cases hall : ∀ j, j < m → listed.getD j false = true
      · have Sm' : Sim G w0 (S m) a w β Lf := by
          obtain ⟨h1, h2, h3⟩ := hSob m (Nat.le_refl _)
          refine Sm.congr (h1.trans hobL.1.symm) (h2.trans hobL.2.1.symm) (h3.trans hobL.2.2.symm) fun t => ?_
          by_cases hex : ∃ k, k < m ∧ dstOf ops k = some t
          · obtain ⟨k, hk, hd⟩ := hex
            rw [hP1 k t hk (hall k hk) hd]
            exact hkeep t (k + 1) m (by omega) (Nat.le_refl _) fun k' h4 h5 hd' => by have := hinj k k' t hk h5 hd hd'; omega
          · rw [hP2 t fun k hk _ hd => hex ⟨k, hk, hd⟩]
            exact hkeep t 0 m (Nat.zero_le _) (Nat.le_refl _) fun k _ hk hd => hex ⟨k, hk, hd⟩
        have hfu : ops.size - m ≤ fuel + 1 := by
          refine Nat.le_trans ?_ hcnt
          have h1 : (listed.toList.drop m).count false = ops.size - m := by
            have h2 : listed.toList.drop m = List.replicate (ops.size - m) false := by
              refine List.eq_replicate_iff.2 ⟨by simp [hsz], fun b hb => ?_⟩
              obtain ⟨k, hk, rfl⟩ := List.getElem_of_mem hb
              have hks : m + k < ops.size := by simp [hsz] at hk; omega
              have hkl : m + k < listed.size := by omega
              have := htail (m + k) hks (by omega)
              simpa [hkl] using this
            rw [h2, List.count_replicate_self]
          rw [← h1]
          exact List.Sublist.count_le _ (List.drop_sublist _ _)
        exact wpAny_tail hE hC hok _ m (fuel + 1) listed (S m) a w rfl (Nat.le_refl _) hms hfu hsz (fun j hj => ⟨fun hl => Nat.lt_of_not_le fun h => htail j hj h hl, fun h => hall j h⟩) ⟨β, Lf, Sm'⟩ hStail hQ
      · -- some of it is left
        have hex : ∃ j, j < m ∧ ¬ listed.getD j false = true ∧ ∀ i, i < j → listed.getD i false = true := by
          have : ∃ j, j < m ∧ ¬ listed.getD j false = true := by
            refine Classical.byContradiction fun hn => hall fun j hj => Classical.byContradiction fun h => hn ⟨j, hj, h⟩
          obtain ⟨j, hj⟩ := this
          induction j using Nat.strongRecOn with
          | ind j ihj =>
            by_cases h : ∃ i, i < j ∧ ¬ listed.getD i false = true
            · obtain ⟨i, hi, hn⟩ := h
              exact ihj i hi ⟨by omega, hn⟩
            · exact ⟨j, hj.1, hj.2, fun i hi => Classical.byContradiction fun hn => h ⟨i, hi, hn⟩⟩
        refine ⟨fun h0 => ?_, fun i hir => ?_⟩
        · obtain ⟨j, hjm, hjn, hjl⟩ := hex
          have hjs : j < ops.size := by omega
          have : j ∈ Region.ready .any ops listed := mem_ready.2 ⟨(getD_false_iff (by omega)).2 hjn, ops[j], by simp [hjs], fun e he hb => hjl _ ((orderOk_at hok (by simp [hjs] : ops[j]? = some ops[j])).1 e he hb)⟩
          rw [h0] at this
          cases this
        · obtain ⟨hun, o, ho, hedge⟩ := mem_ready.1 hir
          have his : i < ops.size := (Array.getElem?_eq_some_iff.1 ho).1
          have him : i < m := by
            refine Nat.lt_of_not_le fun hmi => ?_
            obtain ⟨j, hjm, hjn, _⟩ := hex
            have hB := (orderOk_at hok ho).2.1 hmi
            exact hjn (before_listed hcl ho hedge j (by rw [hB, Nat.testBit_two_pow_sub_one]; simp; omega))
          have hunl : ¬ listed.getD i false = true := (getD_false_iff (by omega)).1 hun
          obtain ⟨o', ho', hst⟩ := hSstep i (Nat.zero_le _) him
          rw [ho] at ho'
          cases ho'
          have hlooks : ∀ t ∈ o.looksAt ops, look stL.sl t = look (S i).sl t := by
            intro t ht
            by_cases hw : ∃ k, k < m ∧ k ≠ i ∧ dstOf ops k = some t
            · obtain ⟨k, hk, hne, hd⟩ := hw
              obtain ⟨hki, hbit⟩ := ((orderOk_at hok ho).2.2 him k hk hne t hd).2 ht
              have hlk := before_listed hcl ho hedge k hbit
              rw [hP1 k t hk hlk hd]
              exact (hkeep t (k + 1) i (by omega) (by omega) fun k' h4 h5 hd' => by have := hinj k k' t hk (by omega) hd hd'; omega).symm
            · rw [hP2 t fun k hk hl hd => ?_]
              · exact (hkeep t 0 i (Nat.zero_le _) (by omega) fun k _ hk hd => hw ⟨k, by omega, by omega, hd⟩).symm
              · by_cases e : k = i
                · subst e; exact hunl hl
                · exact hw ⟨k, hk, e, hd⟩
          obtain ⟨h1, h2, h3⟩ := hSob i (by omega)
          have hagree : Agree o (S i) stL := by
            refine ⟨hobL.1.trans h1.symm, hobL.2.1.trans h2.symm, fun x hx => ?_⟩
            cases x with
            | tmp t =>
              refine hlooks t ?_
              unfold Oper.looksAt
              refine List.mem_append_left _ (List.mem_filterMap.2 ⟨.tmp t, by simpa using hx, rfl⟩)
            | const v => rfl
            | func f => rfl
            | global g => rfl
          have hguard : guard? stL ops o = guard? (S i) ops o := by
            unfold guard?
            cases hgd : o.guard with
            | none => rfl
            | some p =>
              obtain ⟨g, want⟩ := p
              simp only
              cases hp : ops[g]? with
              | none => rfl
              | some q =>
                simp only
                cases hq : q.dst with
                | none => rfl
                | some t =>
                  simp only
                  have hev : look stL.sl t = look (S i).sl t := by
                    refine hlooks t ?_
                    unfold Oper.looksAt
                    refine List.mem_append_right _ ?_
                    rw [hgd]
                    simp [hp, hq]
                  rw [hev]
          have hcl' : Closed ops fun j => (listed.setIfInBounds i true).getD j false = true := by
            intro j p hp hj e he hb
            rw [getD_set_iff (by omega)] at hj ⊢
            rcases hj with rfl | hj
            · rw [ho] at hp
              cases hp
              exact .inr (hedge e he hb)
            · exact .inr (hcl j p hp hj e he hb)
          have htail' : ∀ j, j < ops.size → m ≤ j → ¬ (listed.setIfInBounds i true).getD j false = true := by
            intro j hj hmj hl
            rw [getD_set_iff (by omega)] at hl
            rcases hl with rfl | hl
            · omega
            · exact htail j hj hmj hl
          have hcnt' : (listed.setIfInBounds i true).toList.count false ≤ fuel := by
            have := head_count listed i hun
            omega
          have next : ∀ stL' : St, (stL'.ob = stL.ob ∧ stL'.nx = stL.nx ∧ stL'.nt = stL.nt) → (∀ t, o.dst ≠ some t → look stL'.sl t = look stL.sl t) → (∀ t, o.dst = some t → look stL'.sl t = look (S (i + 1)).sl t) → ∀ a' w', SimE G w0 stL' a' w' →
              wpAny E.P .any ops Q fuel (listed.setIfInBounds i true) a' w' := by
            intro stL' hob' hsame hnew a' w' S'
            refine ih _ a' w' stL' (by simpa using hsz) hcnt' hcl' htail' ⟨hob'.1.trans hobL.1, hob'.2.1.trans hobL.2.1, hob'.2.2.trans hobL.2.2⟩ ?_ ?_ S'
            · intro k d hk hl hd
              by_cases e : k = i
              · subst e
                rw [hdst k o ho] at hd
                exact hnew d hd
              · rw [getD_set_iff (by omega)] at hl
                rcases hl with hl | hl
                · exact absurd hl e
                · rw [hsame d fun hd' => e (hinj k i d hk him hd (by rw [hdst i o ho]; exact hd'))]
                  exact hP1 k d hk hl hd
            · intro t ht
              have hne : o.dst ≠ some t := by
                have := ht i him ((getD_set_iff (by omega)).2 (.inl rfl))
                rwa [hdst i o ho] at this
              rw [hsame t hne]
              exact hP2 t fun k hk hl => ht k hk ((getD_set_iff (by omega)).2 (.inr hl))
          unfold wpOp
          simp only [ho]
          obtain ⟨stk, hk, hst⟩ := hst
          have hagk : Agree o stk stL := by
            refine ⟨hagree.ob.trans hk.ob.symm, hagree.nx.trans hk.nx.symm, fun x hx => (hagree.ev x hx).trans ?_⟩
            cases x with
            | tmp t => exact (hk.sl t).symm
            | const v => rfl
            | func f => rfl
            | global g => rfl
          have hntk : stL.nt = stk.nt := (hobL.2.2.trans h3.symm).trans hk.nt.symm
          rcases hst with ⟨hg, hS1⟩ | ⟨hg, av, hval, hS1⟩
          · rw [← hguard] at hg
            rw [guard_sound Sm hg]
            simp only [Bool.false_eq_true, if_false]
            refine next (stL.unset o.dst) (unset_ob _ _) (fun t ht => look_unset _ _ _ ht) (fun t ht => ?_) _ _ ⟨β, Lf, Sm.unset o.dst⟩
            rw [hS1, ht]
            simp only [St.unset, St.set, hntk]
            split
            · simp only [look_put_same]
            · simp only [look_del_same]
          · rw [← hguard] at hg
            rw [guard_sound Sm hg]
            simp only [if_true]
            refine .inl ((hval.congr hagk).sound hE hC Sm fun u w' hB hva hlt => ?_)
            refine next (stL.set o.dst av) (set_ob _ _ _) (fun t ht => look_set _ _ _ _ ht) (fun t ht => ?_) _ _ ⟨β, Lf, (Sm.kept hB).set o.dst hva hlt⟩
            rw [hS1, ht]
            simp only [St.set, hntk]
            split
            · simp only [look_put_same]
            · simp only [look_del_same]
  obtain ⟨β, Lf, Sm⟩ := Ssim
  refine head ops.size (Array.replicate ops.size false) a _ st (by simp) (by simp) ?_ ?_ ⟨rfl, rfl, rfl⟩ ?_ ?_ ⟨β, Lf, Sm.kept ((Below.refl _ w).drew)⟩
  · intro j o ho hj
    by_cases h : j < ops.size <;> simp [h] at hj
  · intro j hj _ hl
    simp [hj] at hl
  · intro k d hk hl
    by_cases h : k < ops.size <;> simp [h] at hl
  · intro t _
    rw [hS0]
end
end Go.V

namespace Go.V
open Go.RowKit (Below)
set_option linter.unusedVariables false
set_option linter.unusedSimpArgs false

theorem mem_dedup : ∀ (l acc : List Nat) (x : Nat), x ∈ l ∨ x ∈ acc → x ∈ dedup l acc
  | [], acc, x, h => by simpa [dedup] using h
  | h :: r, acc, x, hx => by
    unfold dedup
    split
    · rename_i hc
      refine mem_dedup r acc x ?_
      rcases hx with hx | hx
      · rcases List.mem_cons.1 hx with rfl | hx
        · exact .inr (by simpa using hc)
        · exact .inl hx
      · exact .inr hx
    · refine mem_dedup r _ x ?_
      rcases hx with hx | hx
      · rcases List.mem_cons.1 hx with rfl | hx
        · exact .inr (by simp)
        · exact .inl hx
      · exact .inr (by simp [hx])
theorem nodup_dedup : ∀ (l acc : List Nat), acc.Nodup → (dedup l acc).Nodup
  | [], acc, h => h
  | x :: r, acc, h => by
    unfold dedup
    split
    · exact nodup_dedup r acc h
    · rename_i hc
      refine nodup_dedup r _ (List.nodup_append.2 ⟨h, by simp, ?_⟩)
      rintro a ha b hb rfl
      simp at hb
      subst hb
      exact hc (by simpa using ha)
theorem mem_reach (ob : List (Nat × Ob)) : ∀ (n : Nat) (hs : List Nat) (x : Nat), x ∈ hs → x ∈ reach ob n hs
  | 0, hs, x, h => h
  | n + 1, hs, x, h => mem_reach ob n _ x (mem_dedup _ _ x (.inr h))
theorem nodup_reach (ob : List (Nat × Ob)) : ∀ (n : Nat) (hs : List Nat), hs.Nodup → (reach ob n hs).Nodup
  | 0, hs, h => h
  | n + 1, hs, h => nodup_reach ob n _ (nodup_dedup _ _ h)
theorem look_canonOb {ob : List (Nat × Ob)} {hs : List Nat} : ∀ (l : List Nat) (n m : Nat) (o' : Ob), look (canonOb ob hs l n) m = some o' → n ≤ m ∧ ∃ h o, l[m - n]? = some h ∧ look ob h = some o ∧ o' = o.ren hs ∧ ∀ x ∈ o.hs, x ∈ hs
  | [], n, m, o', h => by cases h
  | h :: r, n, m, o', hl => by
    have next : look (canonOb ob hs r (n + 1)) m = some o' → n ≤ m ∧ ∃ h' o, (h :: r)[m - n]? = some h' ∧ look ob h' = some o ∧ o' = o.ren hs ∧ ∀ x ∈ o.hs, x ∈ hs := by
      intro hl
      obtain ⟨h1, h', o, h2, h3⟩ := look_canonOb r (n + 1) m o' hl
      refine ⟨by omega, h', o, ?_, h3⟩
      rw [show m - n = (m - (n + 1)) + 1 by omega]
      simpa using h2
    unfold canonOb at hl
    split at hl
    · rename_i o ho
      split at hl
      · rename_i hall
        simp only [look] at hl
        split at hl
        · rename_i e
          subst e
          simp only [Option.some.injEq] at hl
          refine ⟨Nat.le_refl _, h, o, by simp, ho, hl.symm, fun x hx => ?_⟩
          simpa using List.all_eq_true.1 hall x hx
        · exact next hl
      · exact next hl
    · exact next hl
theorem look_pickSl {sl : List (Nat × AV)} : ∀ (l : List Nat) (t : Nat) (v : AV), look (pickSl sl l) t = some v → look sl t = some v ∧ (v.isTup = false)
  | [], t, v, h => by cases h
  | k :: r, t, v, h => by
    unfold pickSl at h
    split at h
    · rename_i u hu
      split at h
      · exact look_pickSl r t v h
      · rename_i htup
        simp only [look] at h
        split at h
        · rename_i e
          subst e
          simp only [Option.some.injEq] at h
          subst h
          exact ⟨hu, by simpa using htup⟩
        · exact look_pickSl r t v h
    · exact look_pickSl r t v h
theorem look_mem {α : Type} : ∀ (l : List (Nat × α)) (t : Nat) (v : α), look l t = some v → (t, v) ∈ l
  | [], t, v, h => by cases h
  | (k, u) :: r, t, v, h => by
    simp only [look] at h
    split at h
    · rename_i e
      subst e
      simp only [Option.some.injEq] at h
      subst h
      simp
    · exact List.mem_cons_of_mem _ (look_mem r t v h)
theorem ren_VC {w : World} {ok : Nat → Prop} {β : Nat → Value} {hs : List Nat} {c : C} {u : Value} (h : VC w ok β c u) (hm : ∀ x ∈ c.hs, x ∈ hs) : VC w ok (fun i => β (hs.getD i 0)) (c.ren hs) u ∧ C.lt hs.length (c.ren hs) := by
  have key : ∀ x, x ∈ hs → hs.getD (hs.idxOf x) 0 = x ∧ hs.idxOf x < hs.length := by
    intro x hx
    have hlt := List.idxOf_lt_length_of_mem hx
    refine ⟨?_, hlt⟩
    rw [List.getD_eq_getElem?_getD, List.getElem?_eq_getElem hlt]
    simp
  cases c
  case ref x =>
    obtain ⟨h1, h2⟩ := key x (hm x (by simp [C.hs]))
    exact ⟨by simp only [C.ren, VC, h1]; exact h, by intro y hy; simp [C.ren, C.hs] at hy; subst hy; exact h2⟩
  case ptr x o =>
    obtain ⟨h1, h2⟩ := key x (hm x (by simp [C.hs]))
    exact ⟨by simp only [C.ren, VC, h1]; exact h, by intro y hy; simp [C.ren, C.hs] at hy; subst hy; exact h2⟩
  case el x sz i j =>
    obtain ⟨h1, h2⟩ := key x (hm x (by simp [C.hs]))
    exact ⟨by simp only [C.ren, VC, h1]; exact h, by intro y hy; simp [C.ren, C.hs] at hy; subst hy; exact h2⟩
  all_goals exact ⟨h, by intro y hy; simp [C.ren, C.hs] at hy⟩
theorem ren_all2 {w : World} {ok : Nat → Prop} {β : Nat → Value} {hs : List Nat} : ∀ {cs : List C} {us : List Value}, All2 (VC w ok β) cs us → (∀ c ∈ cs, ∀ x ∈ c.hs, x ∈ hs) → All2 (VC w ok fun i => β (hs.getD i 0)) (cs.map (C.ren hs)) us ∧ ∀ c ∈ cs.map (C.ren hs), C.lt hs.length c
  | [], [], _, _ => ⟨trivial, by simp⟩
  | [], _ :: _, h, _ => by simp [All2] at h
  | _ :: _, [], h, _ => by simp [All2] at h
  | c :: cs, u :: us, h, hm => by
    obtain ⟨h1, h2⟩ := ren_VC h.1 (hm c (by simp))
    obtain ⟨h3, h4⟩ := ren_all2 h.2 fun c hc => hm c (by simp [hc])
    refine ⟨⟨h1, h3⟩, ?_⟩
    intro y hy
    simp only [List.map_cons, List.mem_cons] at hy
    rcases hy with rfl | hy
    · exact h2
    · exact h4 y hy
section
variable {E : Env} {G : Nat → Prop} {w0 : World} {st : St} {a : Act} {w : World} {β : Nat → Value} {Lf : Nat → List Nat} {R : Type} {r : R} {o : Oper} {call : CallD E} {K : Ex → St → Option R} {X : Act → World → Prop} {Q : Exit → Act → World → Prop}
theorem canon_sound (S : Sim G w0 st a w β Lf) (keys : List Nat) : SimE G w0 (st.canon keys) a w := by
  unfold St.canon
  simp only
  have hnd : (reach st.ob 3 (dedup ((pickSl st.sl keys).flatMap fun p => p.2.hs) [])).Nodup := nodup_reach _ _ _ (nodup_dedup _ _ List.nodup_nil)
  have hin : ∀ p ∈ pickSl st.sl keys, ∀ x ∈ p.2.hs, x ∈ reach st.ob 3 (dedup ((pickSl st.sl keys).flatMap fun p => p.2.hs) []) := fun p hp x hx =>
    mem_reach _ _ _ x (mem_dedup _ _ x (.inl (List.mem_flatMap.2 ⟨p, hp, hx⟩)))
  generalize reach st.ob 3 (dedup ((pickSl st.sl keys).flatMap fun p => p.2.hs) []) = hs at hnd hin
  have hobj : ∀ n o', look (canonOb st.ob hs hs 0) n = some o' → ∃ o, n < hs.length ∧ look st.ob (hs.getD n 0) = some o ∧ o' = o.ren hs ∧ ∀ x ∈ o.hs, x ∈ hs := by
    intro n o' ho
    obtain ⟨_, h, o, h1, h2, h3, h4⟩ := look_canonOb hs 0 n o' ho
    rw [Nat.sub_zero] at h1
    have hlt := (List.getElem?_eq_some_iff.1 h1).1
    refine ⟨o, hlt, ?_, h3, h4⟩
    rw [List.getD_eq_getElem?_getD, h1]
    exact h2
  have himm : ∀ k, imm G st Lf k → k < w.heap.size → imm G { nt := st.nt, nx := hs.length, sl := (pickSl st.sl keys).map fun p => (p.1, p.2.ren hs), ob := canonOb st.ob hs hs 0 } (fun i => Lf (hs.getD i 0)) k ∧ w.heap[k]? = w.heap[k]? :=
    fun k hk _ => ⟨⟨hk.1, fun n o ho => by obtain ⟨o', h1, h2, _⟩ := hobj n o ho; exact hk.2 _ o' h2⟩, rfl⟩
  have hslot : ∀ t v, look ((pickSl st.sl keys).map fun p => (p.1, p.2.ren hs)) t = some v → ∃ u, look st.sl t = some u ∧ u.isTup = false ∧ v = u.ren hs ∧ ∀ x ∈ u.hs, x ∈ hs := by
    intro t v ht
    obtain ⟨u, hu, hg⟩ := look_map (fun p : Nat × AV => (p.1, p.2.ren hs)) (fun _ => rfl) _ t v ht
    obtain ⟨h1, h2⟩ := look_pickSl keys t u hu
    simp only [Prod.mk.injEq, true_and] at hg
    exact ⟨u, h1, h2, hg.symm, hin (t, u) (look_mem _ _ _ hu)⟩
  have hav : ∀ (v : AV) (u : Value), v.isTup = false → (∀ x ∈ v.hs, x ∈ hs) → VA w (imm G st Lf) β v u → VA w (imm G st Lf) (fun i => β (hs.getD i 0)) (v.ren hs) u ∧ (v.ren hs).lt hs.length := by
    intro v u ht hm hv
    cases v with
    | c x =>
      have := ren_VC (hs := hs) hv (fun y hy => hm y (by simp [AV.hs, AV.cells, hy]))
      exact this
    | agg cs =>
      obtain ⟨us, rfl, hv⟩ := hv
      obtain ⟨h1, h2⟩ := ren_all2 (hs := hs) hv (fun c hc y hy => hm y (by simp only [AV.hs, AV.cells, List.mem_flatMap]; exact ⟨c, hc, hy⟩))
      exact ⟨⟨us, rfl, h1⟩, h2⟩
    | tup xs => simp [AV.isTup] at ht
  refine ⟨fun i => β (hs.getD i 0), fun i => Lf (hs.getD i 0), ?_⟩
  refine { fresh := S.fresh, below := S.below, defers := S.defers, size := S.size, slots := ?_, slt := ?_, obs := ?_, olt := ?_, new := ?_, nodup := ?_, disj := ?_ }
  · intro t v ht
    obtain ⟨u, h1, h2, rfl, h3⟩ := hslot t v ht
    obtain ⟨h4, h5⟩ := hav u _ h2 h3 (S.slots t u h1)
    exact h4.step h5 himm fun _ _ => rfl
  · intro t v ht
    obtain ⟨u, h1, h2, rfl, h3⟩ := hslot t v ht
    exact (hav u _ h2 h3 (S.slots t u h1)).2
  · intro n o' ho
    obtain ⟨o, h1, h2, rfl, h3⟩ := hobj n o' ho
    have hO := S.obs _ _ h2
    cases o with
    | var cs =>
      obtain ⟨b, ty, us, h4, h5, h6, h7⟩ := hO
      obtain ⟨h8, h9⟩ := ren_all2 (hs := hs) h7 (fun c hc y hy => h3 y (by simp only [Ob.hs, List.mem_flatMap]; exact ⟨c, hc, hy⟩))
      exact ⟨b, ty, us, h4, h5, h6, h8.imp fun c _ u hu => hu.step himm fun _ _ => rfl⟩
    | arr e sh xs => exact hO
  · intro n o' ho
    obtain ⟨o, h1, h2, rfl, h3⟩ := hobj n o' ho
    refine ⟨h1, ?_⟩
    cases o with
    | var cs =>
      obtain ⟨b, ty, us, h4, h5, h6, h7⟩ := S.obs _ _ h2
      exact (ren_all2 (hs := hs) h7 (fun c hc y hy => h3 y (by simp only [Ob.hs, List.mem_flatMap]; exact ⟨c, hc, hy⟩))).2
    | arr e sh xs => trivial
  · intro n o' ho
    obtain ⟨o, h1, h2, rfl, h3⟩ := hobj n o' ho
    exact S.new _ o h2
  · intro n o' ho
    obtain ⟨o, h1, h2, rfl, h3⟩ := hobj n o' ho
    exact S.nodup _ o h2
  · intro n o1 m o2 hn hm hne
    obtain ⟨p, h1, h2, rfl, h3⟩ := hobj n o1 hn
    obtain ⟨q, h4, h5, rfl, h6⟩ := hobj m o2 hm
    refine S.disj _ p _ q h2 h5 fun e => hne ?_
    rw [List.getD_eq_getElem?_getD, List.getD_eq_getElem?_getD, List.getElem?_eq_getElem h1, List.getElem?_eq_getElem h4] at e
    simp only [Option.getD_some] at e
    exact (List.getElem_inj hnd).1 e
def Ex.up : Ex → Exit
  | .normal => .normal
  | .exit i => .exit i
  | .ret => .ret
/-- The regions that draw are in order. -/
def codeOk : Code → Bool
  | .region _ ops d => !d || orderOk ops (headOf ops)
  | .seq a b => codeOk a && codeOk b
  | .cond _ a b => codeOk a && codeOk b
  | .block _ a => codeOk a
  | .loop a => codeOk a
  | _ => true
theorem least {J : Nat → Prop} (h : ∃ n, J n) : ∃ n, J n ∧ ∀ m, J m → n ≤ m := by
  obtain ⟨n, hn⟩ := h
  induction n using Nat.strongRecOn with
  | ind n ih =>
    by_cases hx : ∃ m, m < n ∧ J m
    · obtain ⟨m, h1, h2⟩ := hx
      exact ih m h1 h2
    · exact ⟨n, hn, fun m hm => Nat.le_of_not_lt fun hlt => hx ⟨m, hlt, hm⟩⟩
theorem run_sound (hE : EnvOk E) (hC : CallOk E call) {lv : List Nat} {k : Nat} : ∀ (c : Code) (K : Ex → St → Option R) (Q : Exit → Act → World → Prop) (st : St) (a : Act) (w : World), codeOk c = true → SimE G w0 st a w → run E call lv k c st K = some r →
    (∀ e st' a' w', SimE G w0 st' a' w' → K e st' = some r → Q e.up a' w') → c.wp E.P Q a w
  | .skip, K, Q, st, a, w, _, S, h, hQ => wp_skip (hQ .normal st a w S h)
  | .region id ops d, K, Q, st, a, w, hok, S, h, hQ => by
    simp only [run] at h
    cases d with
    | false => exact region_text hE hC S h fun st' a' w' S' h' => hQ .normal st' a' w' S' h'
    | true =>
      simp only [codeOk, Bool.not_true, Bool.false_or] at hok
      exact region_draw hE hC hok S h fun st' a' w' S' h' => hQ .normal st' a' w' S' h'
  | .seq x y, K, Q, st, a, w, hok, S, h, hQ => by
    simp only [codeOk, Bool.and_eq_true] at hok
    simp only [run] at h
    refine wp_seq (run_sound hE hC x _ _ st a w hok.1 S h fun e st' a' w' S' h' => ?_)
    cases e with
    | normal => exact run_sound hE hC y K Q st' a' w' hok.2 S' h' hQ
    | exit i => exact hQ (.exit i) st' a' w' S' h'
    | ret => exact hQ .ret st' a' w' S' h'
  | .cond c x y, K, Q, st, a, w, hok, S, h, hQ => by
    simp only [codeOk, Bool.and_eq_true] at hok
    simp only [run] at h
    split at h
    · rename_i b hb
      obtain ⟨β, Lf, S1⟩ := S
      refine wp_cond (S1.bool hb) ?_
      cases b with
      | true => exact run_sound hE hC x K Q st a w hok.1 ⟨β, Lf, S1⟩ (by simpa using h) hQ
      | false => exact run_sound hE hC y K Q st a w hok.2 ⟨β, Lf, S1⟩ (by simpa using h) hQ
    · cases h
  | .block i c, K, Q, st, a, w, hok, S, h, hQ => by
    simp only [codeOk] at hok
    simp only [run] at h
    refine wp_block (run_sound hE hC c _ _ st a w hok S h fun e st' a' w' S' h' => ?_)
    cases e with
    | normal => exact hQ .normal st' a' w' S' h'
    | exit j =>
      simp only [Ex.up, Exit.inBlock]
      simp only at h'
      split at h'
      · rename_i e
        rw [if_pos e]
        exact hQ .normal st' a' w' S' h'
      · rename_i e
        rw [if_neg e]
        exact hQ (.exit j) st' a' w' S' h'
    | ret => exact hQ .ret st' a' w' S' h'
  | .loop c, K, Q, st, a, w, hok, S, h, hQ => by
    simp only [codeOk] at hok
    simp only [run] at h
    generalize (st.sl.map (·.1)).filter lv.contains = keys at h
    let J : Nat → Act → World → Prop := fun n a w => ∃ st, SimE G w0 st a w ∧ loopRun keys (run E call lv k c) n st K = some r
    have hμ : ∀ a w, ∃ n, (∃ m, J m a w) → J n a w ∧ ∀ m, J m a w → n ≤ m := by
      intro a w
      by_cases hx : ∃ m, J m a w
      · obtain ⟨n, h1, h2⟩ := least hx
        exact ⟨n, fun _ => ⟨h1, h2⟩⟩
      · exact ⟨0, fun h => absurd h hx⟩
    let μ : Act → World → Nat := fun a w => Classical.choose (hμ a w)
    have hμ2 : ∀ a w, (∃ m, J m a w) → J (μ a w) a w ∧ ∀ m, J m a w → μ a w ≤ m := fun a w => Classical.choose_spec (hμ a w)
    obtain ⟨β, Lf, S1⟩ := S
    refine wp_loop (fun a w => ∃ n, J n a w) μ ⟨k, _, canon_sound S1 keys, h⟩ fun a w hI => ?_
    obtain ⟨hJ, hmin⟩ := hμ2 a w hI
    obtain ⟨st1, S2, h1⟩ := hJ
    cases hn : μ a w with
    | zero => rw [hn] at h1; cases h1
    | succ n =>
      rw [hn] at h1
      simp only [loopRun] at h1
      refine run_sound hE hC c _ _ st1 a w hok S2 h1 fun e st' a' w' S' h' => ?_
      cases e with
      | normal =>
        obtain ⟨β', Lf', S3⟩ := S'
        have hJ' : J n a' w' := ⟨_, canon_sound S3 keys, h'⟩
        refine ⟨⟨n, hJ'⟩, ?_⟩
        have := (hμ2 a' w' ⟨n, hJ'⟩).2 n hJ'
        omega
      | exit i => exact hQ (.exit i) st' a' w' S' h'
      | ret => exact hQ .ret st' a' w' S' h'
  | .exit i, K, Q, st, a, w, _, S, h, hQ => wp_exit (hQ (.exit i) st a w S h)
  | .ret, K, Q, st, a, w, _, S, h, hQ => wp_ret (hQ .ret st a w S h)
  | .rangeFunc .., K, Q, st, a, w, _, S, h, hQ => by simp [run] at h
  | .scope .., K, Q, st, a, w, _, S, h, hQ => by simp [run] at h
  | .label .., K, Q, st, a, w, _, S, h, hQ => by simp [run] at h
  | .goto .., K, Q, st, a, w, _, S, h, hQ => by simp [run] at h
  | .refuse .., K, Q, st, a, w, _, S, h, hQ => by simp [run] at h
end
end Go.V

namespace Go.V
open Go.RowKit (Below)
set_option linter.unusedVariables false
set_option linter.unusedSimpArgs false

def resM (tmps : Array Value) : ResultVar → Sem Value
  | .tmp t => pure (tmps.getD t undef)
  | .cell a t => do loadVar t (← asAddr (tmps.getD a undef))
theorem rep_of_VC {w : World} {ok : Nat → Prop} {β : Nat → Value} {c : C} {u : Value} (h : VC w ok β c u) (hl : C.lt 0 c) : rep w ok c u := by
  cases c
  case ref x => exact absurd (hl x (by simp [C.hs])) (Nat.not_lt_zero _)
  case ptr x o => exact absurd (hl x (by simp [C.hs])) (Nat.not_lt_zero _)
  case el x sz i j => exact absurd (hl x (by simp [C.hs])) (Nat.not_lt_zero _)
  all_goals exact h
theorem repL_of_all2 {w : World} {ok : Nat → Prop} {β : Nat → Value} : ∀ {cs : List C} {us : List Value}, All2 (VC w ok β) cs us → (∀ c ∈ cs, C.lt 0 c) → repL w ok cs us
  | [], [], _, _ => by simp only [repL]
  | [], _ :: _, h, _ => by simp [All2] at h
  | _ :: _, [], h, _ => by simp [All2] at h
  | c :: cs, u :: us, h, hl => by
    simp only [repL]
    exact ⟨u, us, rfl, rep_of_VC h.1 (hl c (by simp)), repL_of_all2 h.2 fun x hx => hl x (by simp [hx])⟩
theorem rd_rep_all {w : World} {ok : Nat → Prop} {sh : Sh} {cs : List C} {x : Ty sh} {us : List Value} (h : rd sh cs = some (x, [])) (hm : repL w ok cs us) : repT w ok sh x us := by
  obtain ⟨vs, ws, rfl, h3, h4⟩ := rd_rep sh cs x [] us h hm
  simp only [repL] at h4
  subst h4
  simpa using h3
section
variable {E : Env} {G : Nat → Prop} {w0 : World} {st : St} {a : Act} {w : World} {β : Nat → Value} {Lf : Nat → List Nat} {R : Type} {r : R} {o : Oper} {call : CallD E}
theorem isAggOf_cells {f : Sh} {v : AV} {u : Value} {w : World} {ok : Nat → Prop} {β : Nat → Value} (h : v.isAggOf f = true) (hv : VA w ok β v u) : ∃ us, u = valOf f.agg us ∧ All2 (VC w ok β) v.cells us := by
  cases v with
  | c x =>
    simp only [AV.isAggOf, Bool.not_eq_true'] at h
    exact ⟨[u], by rw [h]; rfl, hv, trivial⟩
  | agg cs =>
    simp only [AV.isAggOf] at h
    obtain ⟨us, rfl, hv⟩ := hv
    exact ⟨us, by rw [h]; rfl, hv⟩
  | tup xs => simp [AV.isAggOf] at h
theorem VA.fewer {w : World} {ok ok' : Nat → Prop} {β : Nat → Value} {v : AV} {u : Value} (h : VA w ok β v u) (hw : ∀ k, ok k → k < w.heap.size → ok' k ∧ w.heap[k]? = w.heap[k]?) : VA w ok' β v u := by
  cases v with
  | c x => exact VC.step h hw fun _ _ => rfl
  | agg cs => obtain ⟨us, rfl, h⟩ := h; exact ⟨us, rfl, h.imp fun c _ u hu => hu.step hw fun _ _ => rfl⟩
  | tup xs => obtain ⟨us, rfl, h⟩ := h; exact ⟨us, rfl, h.imp fun p _ u hu => hu.step hw fun _ _ _ _ => rfl⟩
theorem fin1_own (S : Sim G w0 st a w β Lf) {f : Sh} {v : AV} {u : Value} {x : Ty f} {st1 : St} (hv : VA w (imm G st Lf) β v u) (h : fin1 true f v st = some (x, st1)) :
    ∃ cs L, u = valOf f.agg cs ∧ ownT w f x cs L ∧ st1 = { st with ob := st1.ob } ∧ (∀ n o, look st1.ob n = some o → look st.ob n = some o) ∧ (∀ b ∈ L, ∃ h o, look st.ob h = some o ∧ look st1.ob h = none ∧ b ∈ Lf h) ∧ L.Nodup := by
  unfold fin1 at h
  split at h
  · rename_i hag
    simp only [if_true] at h
    split at h
    · rename_i cs st2 hmv
      split at h
      · rename_i y hrd
        simp only [Option.some.injEq, Prod.mk.injEq] at h
        obtain ⟨rfl, rfl⟩ := h
        obtain ⟨us, hu, hall⟩ := isAggOf_cells hag hv
        obtain ⟨L, h1, h2, h3, h4, h5⟩ := moved_sound v.cells cs us st st2 S hall hmv
        exact ⟨us, L, hu, rd_all hrd h1, h2, h3, h4, h5⟩
      · cases h
    · cases h
  · cases h
theorem fin1_bor {ok' : Nat → Prop} (hok1 : ∀ k, imm G st Lf k → ok' k) (hok2 : ∀ h o, look st.ob h = some o → ∀ b ∈ Lf h, ok' b) (S : Sim G w0 st a w β Lf) {f : Sh} {v : AV} {u : Value} {x : Ty f} {st1 : St} (hv : VA w (imm G st Lf) β v u) (h : fin1 false f v st = some (x, st1)) :
    st1 = st ∧ ∃ cs, u = valOf f.agg cs ∧ repT w ok' f x cs := by
  unfold fin1 at h
  split at h
  · rename_i hag
    simp only [Bool.false_eq_true, if_false] at h
    split at h
    · rename_i cs hda
      split at h
      · rename_i y hrd
        simp only [Option.some.injEq, Prod.mk.injEq] at h
        obtain ⟨rfl, rfl⟩ := h
        obtain ⟨us, hu, hall⟩ := isAggOf_cells hag hv
        obtain ⟨h1, h2⟩ := datas_sound hok1 hok2 S hda hall
        exact ⟨rfl, us, hu, rd_rep_all hrd (repL_of_all2 h1 h2)⟩
      · cases h
    · cases h
  · cases h
theorem finL_own : ∀ (fs : List Sh) (vs : List AV) (us : List Value) (st : St) (x : TyL fs), Sim G w0 st a w β Lf → All2 (VA w (imm G st Lf) β) vs us → finL true fs vs st = some x →
    ∃ L, resO w fs x us L ∧ L.Nodup ∧ ∀ b ∈ L, ∃ h o, look st.ob h = some o ∧ b ∈ Lf h
  | [], [], us, st, x, S, hv, h => by
    cases us with
    | nil => exact ⟨[], ⟨rfl, rfl⟩, List.nodup_nil, by simp⟩
    | cons u us => simp [All2] at hv
  | [f], [v], us, st, x, S, hv, h => by
    replace h : (match fin1 true f v st with | some (x, _) => some x | none => none : Option (Ty f)) = some x := h
    split at h
    · rename_i y st1 h1
      replace h := Option.some.inj h
      subst h
      match us, hv with
      | [u], hv =>
        obtain ⟨cs, L, rfl, h2, h3, h4, h5, h6⟩ := fin1_own S hv.1 h1
        exact ⟨L, ⟨cs, rfl, h2⟩, h6, fun b hb => by obtain ⟨h, o, h7, _, h8⟩ := h5 b hb; exact ⟨h, o, h7, h8⟩⟩
    · cases h
  | f :: g :: r, v :: vs, us, st, x, S, hv, h => by
    replace h : (match fin1 true f v st with | some (x, st) => (match finL true (g :: r) vs st with | some y => some (x, y) | none => none : Option (Ty f × TyL (g :: r))) | none => none) = some x := h
    split at h
    · rename_i y st1 h1
      split at h
      · rename_i z h2
        replace h := Option.some.inj h
        subst h
        match us, hv with
        | u :: us, hv =>
          obtain ⟨cs, L, rfl, h3, h4, h5, h6, h7⟩ := fin1_own S hv.1 h1
          have S1 : Sim G w0 { st with ob := st1.ob } a w β Lf := S.fewer h5
          rw [h4] at h2
          have himm : ∀ k, imm G st Lf k → k < w.heap.size → imm G { st with ob := st1.ob } Lf k ∧ w.heap[k]? = w.heap[k]? := fun k hk _ => ⟨⟨hk.1, fun n o ho => hk.2 n o (h5 n o ho)⟩, rfl⟩
          obtain ⟨L2, g1, g2, g3⟩ := finL_own (g :: r) vs us _ z S1 (hv.2.imp fun v _ u hu => hu.fewer himm) h2
          refine ⟨L ++ L2, ⟨cs, us, L, L2, rfl, rfl, h3, g1⟩, List.nodup_append.2 ⟨h7, g2, ?_⟩, ?_⟩
          · rintro b hb b' hb' rfl
            obtain ⟨h, o, e1, e2, e3⟩ := h6 b hb
            obtain ⟨h', o', f1, f3⟩ := g3 b hb'
            exact S.disj h o h' o' e1 (h5 h' o' f1) (fun e => by rw [← e] at f1; simp only at f1; rw [e2] at f1; cases f1) b e3 f3
          · intro b hb
            rcases List.mem_append.1 hb with hb | hb
            · obtain ⟨h, o, e1, e2, e3⟩ := h6 b hb
              exact ⟨h, o, e1, e3⟩
            · obtain ⟨h', o', f1, f3⟩ := g3 b hb
              exact ⟨h', o', h5 h' o' f1, f3⟩
      · cases h
    · cases h
  | [], _ :: _, us, st, x, S, hv, h => by simp [finL] at h
  | [f], [], us, st, x, S, hv, h => by simp [finL] at h
  | [f], _ :: _ :: _, us, st, x, S, hv, h => by simp [finL] at h
  | f :: g :: r, [], us, st, x, S, hv, h => by simp [finL] at h
theorem finL_bor {ok' : Nat → Prop} : ∀ (fs : List Sh) (vs : List AV) (us : List Value) (st : St) (x : TyL fs), (∀ k, imm G st Lf k → ok' k) → (∀ h o, look st.ob h = some o → ∀ b ∈ Lf h, ok' b) → Sim G w0 st a w β Lf → All2 (VA w (imm G st Lf) β) vs us → finL false fs vs st = some x →
    resR w ok' fs x us
  | [], [], us, st, x, _, _, S, hv, h => by
    cases us with
    | nil => rfl
    | cons u us => simp [All2] at hv
  | [f], [v], us, st, x, hok1, hok2, S, hv, h => by
    replace h : (match fin1 false f v st with | some (x, _) => some x | none => none : Option (Ty f)) = some x := h
    split at h
    · rename_i y st1 h1
      replace h := Option.some.inj h
      subst h
      match us, hv with
      | [u], hv =>
        obtain ⟨_, cs, rfl, h2⟩ := fin1_bor hok1 hok2 S hv.1 h1
        exact ⟨cs, rfl, h2⟩
    · cases h
  | f :: g :: r, v :: vs, us, st, x, hok1, hok2, S, hv, h => by
    replace h : (match fin1 false f v st with | some (x, st) => (match finL false (g :: r) vs st with | some y => some (x, y) | none => none : Option (Ty f × TyL (g :: r))) | none => none) = some x := h
    split at h
    · rename_i y st1 h1
      split at h
      · rename_i z h2
        replace h := Option.some.inj h
        subst h
        match us, hv with
        | u :: us, hv =>
          obtain ⟨rfl, cs, rfl, h3⟩ := fin1_bor hok1 hok2 S hv.1 h1
          exact ⟨cs, us, rfl, h3, finL_bor (g :: r) vs us _ z hok1 hok2 S hv.2 h2⟩
      · cases h
    · cases h
  | [], _ :: _, us, st, x, _, _, S, hv, h => by simp [finL] at h
  | [f], [], us, st, x, _, _, S, hv, h => by simp [finL] at h
  | [f], _ :: _ :: _, us, st, x, _, _, S, hv, h => by simp [finL] at h
  | f :: g :: r, [], us, st, x, _, _, S, hv, h => by simp [finL] at h
theorem results1_sound (hE : EnvOk E) (S : Sim G w0 st a w β Lf) {rv : ResultVar} {v : AV} (h : results1 E st rv = some v) :
    ∃ u, (resM a.tmps rv).run E.P w = .ok u w ∧ VA w (imm G st Lf) β v u := by
  cases rv with
  | tmp t => exact ⟨_, rfl, S.slots t v h⟩
  | cell ad t =>
    simp only [results1] at h
    split at h
    · rename_i hh i hs hi
      split at h
      · rename_i cs hob
        split at h
        · rename_i hl
          have hT := hE.ty _ _ hi
          obtain ⟨b, hb1, hb2⟩ : ∃ b, β hh = .pointer (some ⟨b, 0, none⟩) ∧ a.tmps.getD ad undef = .pointer (some ⟨b, 0, none⟩) := S.slots ad _ hs
          obtain ⟨b', ty, us, hb3, hb4, hb5, hb6⟩ := S.obs _ _ hob
          rw [hb1] at hb3
          injection hb3 with hb3
          injection hb3 with hb3
          injection hb3 with hb3
          subst hb3
          have hlen : (us.take i.sz).length = i.sz := by rw [List.length_take, ← hb6.len]; omega
          have hr := run_loadAt hT (w := w) (ad := ⟨b, 0, none⟩) (us := us.take i.sz) hlen fun j u hu => by
            rw [List.getElem?_take] at hu
            split at hu
            · rw [addr_add, cell_of_row w b _ _ ty (0, 0) hb5]
              simpa using hu
            · cases hu
          refine ⟨_, ?_, pack_VA h (VP_valOf (hb6.take i.sz) fun hb => ?_)⟩
          · show (do loadVar t (← asAddr (a.tmps.getD ad undef)) : Sem Value).run E.P w = _
            rw [hb2]
            simpa only [Instr.loadAt, Instr.sureAddr, asAddr] using hr
          · rw [List.length_take, Nat.min_eq_left hl, ← hT.n]
            exact Sh.n_one (by rw [hT.agg, hb])
        · cases h
      · cases h
    · cases h
theorem resultsL_sound (hE : EnvOk E) (S : Sim G w0 st a w β Lf) : ∀ (rvs : List ResultVar) (vs : List AV), resultsL E st rvs = some vs →
    ∃ us, (rvs.mapM (resM a.tmps)).run E.P w = .ok us w ∧ All2 (VA w (imm G st Lf) β) vs us
  | [], vs, h => by simp only [resultsL, Option.some.injEq] at h; subst h; exact ⟨[], by simp, trivial⟩
  | rv :: rvs, vs, h => by
    simp only [resultsL] at h
    split at h
    · rename_i v hv
      split at h
      · rename_i ws hws
        simp only [Option.some.injEq] at h
        subst h
        obtain ⟨u, h1, h2⟩ := results1_sound hE S hv
        obtain ⟨us, h3, h4⟩ := resultsL_sound hE S rvs ws hws
        refine ⟨u :: us, ?_, h2, h4⟩
        rw [List.mapM_cons]
        simp only [Sem.run_bind, h1, h3, Result.andThen_ok, Sem.run_pure]
      · cases h
    · cases h
theorem initSl_look {x : AV} : ∀ (xs : List AV) (n t : Nat), look (initSl n xs) t = some x → n ≤ t ∧ xs[t - n]? = some x
  | [], n, t, h => by cases h
  | y :: r, n, t, h => by
    simp only [initSl, look] at h
    split at h
    · rename_i e
      subst e
      simp only [Option.some.injEq] at h
      subst h
      simp
    · obtain ⟨h1, h2⟩ := initSl_look r (n + 1) t h
      refine ⟨by omega, ?_⟩
      rw [show t - n = (t - (n + 1)) + 1 by omega]
      simpa using h2
theorem den_sound (hE : EnvOk E) (hok : ∀ f F c, E.fn f = some F → F.body = some c → codeOk c = true) (hext : ∀ f g, E.ext f = some g → Sound1 E f g) : ∀ k, CallOk E (den E k)
  | 0 => fun f xs p h => by cases h
  | k + 1 => fun f xs p h => by
    have hC := den_sound hE hok hext k
    simp only [den] at h
    split at h
    · rename_i g hg
      exact hext f g hg xs p h
    · split at h
      · cases h
      · rename_i F hF
        split at h
        · cases h
        · rename_i c hc
          split at h
          · rename_i hlen
            have hfn := hE.fn f F hF
            refine ⟨⟨F, hfn, hE.body f F hF, by rw [hc]; rfl⟩, fun G w us hlt hargs => ?_⟩
            have hul := hargs.len
            refine calls_of_wp hfn hc (run_sound (G := fun k => k < w.heap.size → G k) (w0 := w) hE hC c _ _ _ _ _ (hok f F c hF hc) ⟨fun _ => undef, fun _ => [], ?_⟩ h fun e st' a' w' ⟨β, Lf, S⟩ hfin => ?_)
            · refine { fresh := fun k hk h => absurd h (by omega), below := Below.refl _ w, defers := rfl, size := ?_, slots := ?_, slt := ?_, obs := fun h o ho => (by cases ho), olt := fun h o ho => (by cases ho), new := fun h o ho => (by cases ho), nodup := fun h o ho => (by cases ho), disj := fun h o h' o' ho => (by cases ho) }
              · simp
                omega
              · intro t v ht
                obtain ⟨_, h1⟩ := initSl_look xs 0 t ht
                rw [Nat.sub_zero] at h1
                obtain ⟨u, h2, h3⟩ := hargs.at t v h1
                have hlt' : t < us.length := (List.getElem?_eq_some_iff.1 h2).1
                have e : (us.toArray ++ Array.replicate (F.ntmps - us.toArray.size) undef).getD t undef = u := by
                  rw [Array.getD_eq_getD_getElem?, Array.getElem?_append_left (by simpa using hlt')]
                  simpa using congrArg (·.getD undef) h2
                rw [e]
                exact h3.fewer fun k hk _ => ⟨⟨fun _ => hk, fun h o ho => (by cases ho)⟩, rfl⟩
              · intro t v ht
                obtain ⟨_, h1⟩ := initSl_look xs 0 t ht
                exact hlt v (List.mem_of_getElem? h1)
            · have key : (match resultsL E st' F.results.toList with | some vs => finL (E.rs f).own (E.rs f).shs vs st' | none => none) = some p → a'.defers = [] ∧ ∃ v, (results F a'.tmps).run E.P w' = .ok v w' ∧ ∃ v', Ending.returned v = .returned v' ∧ Below w.heap.size w w' ∧ ResOk G w w' (E.rs f) p v' := by
                intro hfin
                split at hfin
                · rename_i vs hvs
                  obtain ⟨us', h1, h2⟩ := resultsL_sound hE S _ vs hvs
                  refine ⟨S.defers, if h : us'.toArray.size = 1 then us'.toArray[0] else .tuple us'.toArray, ?_, _, rfl, S.below, us', ?_, ?_⟩
                  · have hm : (F.results.mapM (resM a'.tmps)).run E.P w' = .ok us'.toArray w' := by
                      rw [← Array.toArray_toList (xs := F.results), List.mapM_toArray, Sem.run_map, h1]
                      rfl
                    unfold results
                    rw [Sem.run_bind]
                    refine (congrArg (fun x : Result (Array Value) => x.andThen _) hm).trans ?_
                    simp only [Result.andThen_ok, Sem.run_pure]
                  · match us' with
                    | [] => rfl
                    | [u] => rfl
                    | u1 :: u2 :: r => rfl
                  · split
                    · rename_i hown
                      rw [hown] at hfin
                      obtain ⟨L, h3, h4, h5⟩ := finL_own _ vs us' st' p S h2 hfin
                      exact ⟨L, h3, h4, fun b hb => by obtain ⟨h, o, h6, h7⟩ := h5 b hb; exact S.new h o h6 b h7⟩
                    · rename_i hown
                      rw [Bool.eq_false_iff.2 hown] at hfin
                      exact finL_bor _ vs us' st' p (fun k hk => hk.1) (fun h o ho b hb hlt => absurd hlt (by have := (S.new h o ho b hb).1; omega)) S h2 hfin
                · cases hfin
              cases e with
              | exit i => cases hfin
              | normal => exact key hfin
              | ret => exact key hfin
          · cases h
end
end Go.V

namespace Go.V
open Go.RowKit (Below)
set_option linter.unusedVariables false
set_option linter.unusedSimpArgs false

/-! ### What a row's input is -/
mutual
/-- Is this shape this type's? -/
def shIs (P : Program) : Sh → TypeId → Bool
  | .b, t => match P.underlying t with | some .bool => true | _ => false
  | .i k, t => match P.underlying t with | some (.int k') => decide (k' = k) | _ => false
  | .s, t => match P.underlying t with | some .string => true | _ => false
  | .l e sh, t => match P.underlying t with | some (.slice e') => e' == e && (shIs P sh e && (P.cellsOf e == sh.n && decide (0 < sh.n))) | _ => false
  | .a fs, t => match P.underlying t with | some (.struct ds) => P.cellsOf t == Sh.nL fs && shIsL P fs ds.toList 0 | _ => false
def shIsL (P : Program) : List Sh → List Field → Nat → Bool
  | [], [], _ => true
  | f :: r, d :: q, off => d.offset == off && (shIs P f d.type && (P.cellsOf d.type == f.n && shIsL P r q (off + f.n)))
  | _, _, _ => false
end
def inR (k : IntKind) (n : Int) : Prop := k.min ≤ n ∧ n ≤ k.max
def inS (s : ByteArray) : Prop := s.size ≤ reachBytes
def inL {α : Type} (R : α → Prop) (b : Nat) (xs : List α) : Prop := xs.length * b ≤ reachBytes ∧ ∀ x ∈ xs, R x
mutual
/-- Numbers within their range, sizes within reach. -/
def wfT (P : Program) : (sh : Sh) → Ty sh → Prop
  | .b, _ => True
  | .i k, n => inR k n
  | .s, s => inS s
  | .l e sh, xs => inL (wfT P sh) (P.bytesOf e) xs
  | .a fs, x => wfTL P fs x
def wfTL (P : Program) : (fs : List Sh) → TyL fs → Prop
  | [], _ => True
  | [f], x => wfT P f x
  | f :: g :: r, x => wfT P f x.1 ∧ wfTL P (g :: r) x.2
end
section
variable {H : Type} {enc : TypeId × Value → H} {P : Program} {w : World} {spare : Nat → Bool} {held : Bool}
mutual
theorem trod_rep : (sh : Sh) → (t : TypeId) → (fuel : Nat) → (cs : List Value) → (x : DataW H × List MemPlace) → shIs P sh t = true → DataW.trod enc P w 0 spare held fuel t cs = some x → (∀ n ∈ x.1.weights P t, n ≤ reachBytes) →
    ∃ y : Ty sh, repT w (fun _ => True) sh y cs ∧ wfT P sh y
  | .b, t, fuel, cs, x, hs, h, hw => by
    unfold shIs at hs
    split at hs
    · rename_i ht
      obtain ⟨b, rfl, _⟩ := DataW.trod_bool ht h
      exact ⟨b, by simp only [repT], trivial⟩
    · cases hs
  | .i k, t, fuel, cs, x, hs, h, hw => by
    unfold shIs at hs
    split at hs
    · rename_i k' ht
      obtain rfl : k' = k := by simpa using hs
      obtain ⟨n, rfl, _, hwf⟩ := DataW.trod_int ht h
      simp only [Lit.wf, Bool.and_eq_true, decide_eq_true_eq] at hwf
      exact ⟨n, by simp only [repT], by simp only [wfT]; exact hwf⟩
    · cases hs
  | .s, t, fuel, cs, x, hs, h, hw => by
    unfold shIs at hs
    split at hs
    · rename_i ht
      obtain ⟨s, rfl, rfl, _⟩ := DataW.trod_string ht h
      refine ⟨s, by simp only [repT], ?_⟩
      have := hw s.data.toList.length (by simp [DataW.weights])
      simp only [wfT, inS]
      simpa using this
    · cases hs
  | .l e sh, t, fuel, cs, x, hs, h, hw => by
    unfold shIs at hs
    split at hs
    · rename_i e' ht
      simp only [Bool.and_eq_true, beq_iff_eq, decide_eq_true_eq] at hs
      obtain ⟨rfl, hsh, hc, hpos⟩ := hs
      rcases DataW.trod_slice ht h with ⟨rfl, rfl⟩ | ⟨ad, len, cap, elems, rest, n, _, rfl, rfl, hb, hl, hm, hlen, hel, hsp, hns⟩
      · refine ⟨([] : List (Ty sh)), ?_, ?_⟩
        · simp only [repT]
          exact ⟨_, rfl, none, 0, rfl, Nat.le_refl _, Nat.zero_le _, fun h => absurd h (by simp)⟩
        · simp only [wfT, inL]
          exact ⟨by simp, fun x hx => by cases hx⟩
      · have hwl : (elems.length + rest.length) * P.bytesOf e' ≤ reachBytes := by
          have := hw _ (by simp only [DataW.weights, ht, List.length_map]; exact List.mem_cons_self)
          exact this
        have hwe : ∀ y ∈ elems, ∀ n ∈ y.1.weights P e', n ≤ reachBytes := by
          intro y hy n hn
          refine hw n ?_
          simp only [DataW.weights, ht]
          refine List.mem_cons_of_mem _ (List.mem_append_left _ ?_)
          have : ∀ l : List (DataW H × List MemPlace), y ∈ l → n ∈ DataW.weightsAll P e' (l.map (·.1)) := by
            intro l
            induction l with
            | nil => simp
            | cons z l ih =>
              intro hz
              simp only [List.map_cons, DataW.weightsAll]
              rcases List.mem_cons.1 hz with rfl | hz
              · exact List.mem_append_left _ hn
              · exact List.mem_append_right _ (ih hz)
          exact this elems hy
        have each : ∀ i : Fin len, ∃ y : Ty sh, (∃ vs, repT w (fun _ => True) sh y vs ∧ ∀ (j : Nat) (v : Value), vs[j]? = some v → w.cell? (ad.add (i.1 * sh.n + j)) = some v) ∧ wfT P sh y := by
          intro i
          have hi : i.1 < elems.length := by rw [hlen]; exact i.2
          have h1 := hel i.1 i.2
          rw [List.getElem?_eq_getElem hi] at h1
          cases hcs : w.cells? 0 (ad.add (i.1 * P.cellsOf e')) (P.cellsOf e') with
          | none => rw [hcs] at h1; cases h1
          | some vs =>
            rw [hcs] at h1
            simp only [Option.bind_some] at h1
            obtain ⟨y, h2, h3⟩ := trod_rep sh e' n vs _ hsh h1 (hwe _ (List.getElem_mem hi))
            obtain ⟨_, h4, h5⟩ := World.cells?_some hcs
            refine ⟨y, ⟨vs, h2, fun j v hv => ?_⟩, h3⟩
            have hj : j < P.cellsOf e' := by rw [← h4]; exact (List.getElem?_eq_some_iff.1 hv).1
            have := h5 j hj
            rw [hv, hc] at this
            have e1 : (ad.add (i.1 * sh.n)).add j = ad.add (i.1 * sh.n + j) := by
              unfold Addr.add
              split <;> split <;> split <;> simp_all [Nat.add_assoc]
            rw [← e1]
            exact this
        have hlx : (List.ofFn fun i => Classical.choose (each i)).length = len := by simp
        refine ⟨(List.ofFn fun i => Classical.choose (each i) : List (Ty sh)), ?_, ?_⟩
        · simp only [repT]
          refine ⟨_, rfl, some ad, cap, by rw [hlx], by rw [hlx]; exact hl, hm, fun hp => ⟨ad, rfl, trivial, ?_, fun j x hx => ?_⟩⟩
          · rw [hlx] at hp
            obtain ⟨⟨vs, h2, h3⟩, _⟩ := Classical.choose_spec (each ⟨0, hp⟩)
            have hvl := repT_len sh _ vs h2
            have h4 := h3 0 vs[0] (by simp [hvl, hpos])
            have h5 : (ad.add (0 * sh.n + 0)).block < w.heap.size := by
              unfold World.cell? at h4
              split at h4
              · rename_i hh
                exact (Array.getElem?_eq_some_iff.1 hh).1
              · cases h4
            rwa [block_add] at h5
          · rw [List.getElem?_ofFn] at hx
            split at hx
            · rename_i hj
              simp only [Option.some.injEq] at hx
              subst hx
              exact (Classical.choose_spec (each ⟨j, hj⟩)).1
            · cases hx
        · simp only [wfT, inL]
          refine ⟨?_, fun y hy => ?_⟩
          · rw [hlx, ← hlen]
            exact Nat.le_trans (Nat.mul_le_mul_right _ (Nat.le_add_right _ _)) hwl
          · obtain ⟨i, rfl⟩ := (List.mem_ofFn).1 hy
            exact (Classical.choose_spec (each i)).2
    · cases hs
  | .a fs, t, fuel, cs, x, hs, h, hw => by
    unfold shIs at hs
    split at hs
    · rename_i ds ht
      simp only [Bool.and_eq_true, beq_iff_eq] at hs
      obtain ⟨hc, hs⟩ := hs
      obtain ⟨xs, n, _, rfl, hl, hxl, hf⟩ := DataW.trod_struct ht h
      simp only [repT, wfT]
      have hw' : ∀ n ∈ DataW.weightsEach P (ds.toList.map (·.type)) (xs.map (·.1)), n ≤ reachBytes := by
        intro n hn
        refine hw n ?_
        simp only [DataW.weights, ht]
        exact hn
      obtain ⟨y, h1, h2⟩ := trodL_rep fs ds.toList 0 n cs xs hs (by rw [hl, hc]; simp) (by simp [hxl]) (fun i f hi => hf i f (by simpa using hi)) hw'
      exact ⟨y, by simpa using h1, h2⟩
    · cases hs
theorem trodL_rep : (fs : List Sh) → (ds : List Field) → (off : Nat) → (n : Nat) → (cs : List Value) → (xs : List (DataW H × List MemPlace)) → shIsL P fs ds off = true → cs.length = off + Sh.nL fs → xs.length = ds.length →
    (∀ (i : Nat) (f : Field), ds[i]? = some f → DataW.trod enc P w 0 spare held n f.type ((cs.drop f.offset).take (P.cellsOf f.type)) = xs[i]?) → (∀ n ∈ DataW.weightsEach P (ds.map (·.type)) (xs.map (·.1)), n ≤ reachBytes) →
    ∃ y : TyL fs, repTL w (fun _ => True) fs y (cs.drop off) ∧ wfTL P fs y
  | [], ds, off, n, cs, xs, hs, hl, hxl, hf, hw => ⟨(), by simp only [repTL]; rw [List.drop_eq_nil_iff]; simp [hl, Sh.nL], trivial⟩
  | [f], ds, off, n, cs, xs, hs, hl, hxl, hf, hw => by
    match ds, xs, hxl with
    | [], _, _ => simp [shIsL] at hs
    | d :: q, x :: r, hxl =>
      unfold shIsL at hs
      simp only [Bool.and_eq_true, beq_iff_eq] at hs
      obtain ⟨h1, h2, h3, _⟩ := hs
      have h4 := hf 0 d rfl
      rw [h1, h3] at h4
      have hle : ((cs.drop off).take f.n) = cs.drop off := by
        apply List.take_of_length_le
        rw [List.length_drop, hl]
        simp [Sh.nL]
      rw [hle] at h4
      obtain ⟨y, h5, h6⟩ := trod_rep f d.type n _ x h2 h4 fun m hm => hw m (by simp only [List.map_cons, DataW.weightsEach]; exact List.mem_append_left _ hm)
      exact ⟨y, by simp only [repTL]; exact h5, by simp only [wfTL]; exact h6⟩
  | f :: g :: r, ds, off, n, cs, xs, hs, hl, hxl, hf, hw => by
    match ds, xs, hxl with
    | [], _, _ => simp [shIsL] at hs
    | d :: q, x :: xr, hxl =>
      unfold shIsL at hs
      simp only [Bool.and_eq_true, beq_iff_eq] at hs
      obtain ⟨h1, h2, h3, h7⟩ := hs
      have h4 := hf 0 d rfl
      rw [h1, h3] at h4
      obtain ⟨y, h5, h6⟩ := trod_rep f d.type n _ x h2 h4 fun m hm => hw m (by simp only [List.map_cons, DataW.weightsEach]; exact List.mem_append_left _ hm)
      have hl' : cs.length = (off + f.n) + Sh.nL (g :: r) := by rw [hl]; simp only [Sh.nL]; omega
      obtain ⟨z, h8, h9⟩ := trodL_rep (g :: r) q (off + f.n) n cs xr h7 hl' (by simpa using hxl) (fun i f' hi => hf (i + 1) f' (by simpa using hi)) (fun m hm => hw m (by simp only [List.map_cons, DataW.weightsEach]; exact List.mem_append_right _ hm))
      refine ⟨(y, z), ?_, ?_⟩
      · simp only [repTL]
        refine ⟨_, _, ?_, h5, h8⟩
        rw [← List.drop_drop, List.take_append_drop]
      · simp only [wfTL]
        exact ⟨h6, h9⟩
end
/-- An argument. -/
def argAV (sh : Sh) (y : Ty sh) : AV := if sh.agg then .agg (avs sh y) else match avs sh y with
  | [c] => .c c
  | cs => .agg cs
theorem arg_VA {sh : Sh} {t : TypeId} {v : Value} {d : DataW H} {p : List MemPlace} (hs : shIs P sh t = true) (hval : Value.okWide P w .any 0 t v) (h : DataW.Trod enc P w 0 spare held t v d p) (hw : ∀ n ∈ d.weights P t, n ≤ reachBytes) :
    ∃ y : Ty sh, VA w (fun _ => True) (fun _ => undef) (argAV sh y) v ∧ (argAV sh y).lt 0 ∧ wfT P sh y := by
  obtain ⟨fuel, hf⟩ := h
  obtain ⟨y, h1, h2⟩ := trod_rep sh t fuel _ _ hs hf hw
  have hr := rep_avs sh y _ h1
  have hlt := avs_lt 0 sh y
  refine ⟨y, ?_, ?_, h2⟩
  · unfold argAV
    split
    · rename_i hag
      cases sh <;> simp [Sh.agg] at hag
      case a fs =>
      unfold shIs at hs
      split at hs
      · rename_i ds ht
        simp only [Value.okWide, ht] at hval
        obtain ⟨cs, rfl, _⟩ := hval
        exact ⟨cs.toList, by simp, All2.of_repL (by simpa [Value.cells] using hr)⟩
      · cases hs
    · rename_i hag
      have hone : v.oneCell' = true := by
        cases sh <;> simp [Sh.agg] at hag <;> unfold shIs at hs <;> split at hs <;> first | cases hs; done | skip
        all_goals
          rename_i ht
          simp only [Value.okWide, ht, Cell.okWide] at hval
          cases v <;> first | rfl | (simp [Cell.ok, ht] at hval)
      rw [cells_of_one hone] at hr
      have hl := repL_len hr
      match hq : avs sh y, hl with
      | [c], _ =>
        rw [hq] at hr
        simp only [repL] at hr
        obtain ⟨u, vs, huv, h3, _⟩ := hr
        simp at huv
        rw [huv.1]
        exact VC.of_rep h3
  · unfold argAV
    split
    · exact hlt
    · split
      · rename_i c hq
        rw [hq] at hlt
        exact hlt c (by simp)
      · exact hlt
end
theorem below_trodAll {H : Type} {enc : TypeId × Value → H} {P : Program} (hl : laidOutB P = true) {W W' : World} (hb : Below W.heap.size W W') : ∀ (ts : List TypeId) (vs : List Value) (ds : List (DataW H)) (ps : List MemPlace),
    (ts.all fun t => P.readableRec t && decide (t < P.types.size)) = true → DataW.TrodAll enc P W 0 (fun _ => true) true ts vs ds ps → (∀ x ∈ ps, x.block < W.heap.size) → DataW.TrodAll enc P W' 0 (fun b => decide (b < W.heap.size)) true ts vs ds ps
  | [], [], [], ps, _, h, _ => h
  | t :: ts, v :: vs, d :: ds, ps, hr, h, hlt => by
    obtain ⟨p, q, h1, h2, rfl⟩ := h
    simp only [List.all_cons, Bool.and_eq_true, decide_eq_true_eq] at hr
    exact ⟨p, q, Go.RowKit.Below.trod hl hr.1.1 hr.1.2 h1 hb (fun x hx => hlt x (List.mem_append_left _ hx)), below_trodAll hl hb ts vs ds q hr.2 h2 (fun x hx => hlt x (List.mem_append_right _ hx)), rfl⟩
  | [], _ :: _, _, _, _, h, _ => h.elim
  | [], [], _ :: _, _, _, h, _ => h.elim
  | _ :: _, [], _, _, _, h, _ => h.elim
  | _ :: _, _ :: _, [], _, _, h, _ => h.elim
theorem resOk_bool {G : Nat → Prop} {w w' : World} {p : Bool} {v : Value} (h : ResOk G w w' ⟨false, [.b]⟩ p v) : v = .bool p := by
  obtain ⟨us, h1, h2⟩ := h
  simp only [Bool.false_eq_true, if_false] at h2
  obtain ⟨cs, rfl, h3⟩ : ∃ cs, us = [valOf Sh.b.agg cs] ∧ repT w' _ .b p cs := h2
  simp only [repT] at h3
  subst h3
  exact h1
end Go.V

namespace Go.V
set_option linter.unusedVariables false
/-! ### what stands behind a loop -/
def nl : Code → Nat
  | .seq a b => nl a + nl b
  | .cond _ a b => nl a + nl b
  | .block _ a => nl a
  | .loop c => nl c + 1
  | _ => 0
def kontAt {R : Type} (E : Env) (call : CallD E) (lv : List Nat) (k : Nat) : Code → Nat → List (Nat × List Nat) → (Ex → St → Option R) → Ex → St → Option R
  | .seq a b, j, o, K => if j < nl a then kontAt E call lv k a j o (fun e st => match e with
    | .normal => run E call lv k b st K
    | e => K e st) else kontAt E call lv k b (j - nl a) o K
  | .cond _ a b, j, o, K => if j < nl a then kontAt E call lv k a j o K else kontAt E call lv k b (j - nl a) o K
  | .block i a, j, o, K => kontAt E call lv k a j o (fun e st => match e with
    | .exit j => if j = i then K .normal st else K (.exit j) st
    | e => K e st)
  | .loop c, 0, _, K => K
  | .loop c, j + 1, (n, keys) :: o, K => kontAt E call lv k c j o (fun e st => match e with
    | .normal => loopRun keys (run E call lv k c) n (st.canon keys) K
    | e => K e st)
  | _, _, _, K => K
def bodyOf (F : Func) : Code := match F.body with
  | some c => c
  | none => .skip
def ix {α R : Type} (xs : List α) (n : Nat) (K : α → Option R) : Option R := match xs[n]? with
  | some x => K x
  | none => none
end Go.V

namespace Go.V
/-! ### words for the plain laws -/
theorem wrap_id {n : Int} (h1 : -9223372036854775808 ≤ n) (h2 : n ≤ 9223372036854775807) : IntKind.i64.wrap n = n := by rw [IntKind.wrap_i64]; omega
theorem wrap_succ {n m : Nat} (h : n < m) (hm : m ≤ 9223372036854775807) : IntKind.i64.wrap ((n : Int) + 1) = ((n + 1 : Nat) : Int) := by rw [wrap_id (by omega) (by omega)]; omega
theorem ix_at {α R : Type} {xs : List α} {n : Nat} (h : n < xs.length) (K : α → Option R) : ix xs n K = K xs[n] := by unfold ix; rw [List.getElem?_eq_getElem h]
theorem ix_some {α R : Type} {xs : List α} {n : Nat} {x : α} (h : xs[n]? = some x) (K : α → Option R) : ix xs n K = K x := by unfold ix; rw [h]
/-- One more element is as it should be. -/
theorem set_take {α : Type} {xs ys : List α} {i : Nat} (hl : ys.length = xs.length) (hi : i < xs.length) (h : ys.take i = xs.take i) : (ys.set i xs[i]).take (i + 1) = xs.take (i + 1) := by
  apply List.ext_getElem?
  intro k
  simp only [List.getElem?_take]
  split
  · rename_i hk
    by_cases e : i = k
    · subst e
      rw [List.getElem?_set_self (by omega), List.getElem?_eq_getElem hi]
    · rw [List.getElem?_set_ne e]
      have h1 := congrArg (·[k]?) h
      simp only [List.getElem?_take] at h1
      rwa [if_pos (by omega), if_pos (by omega)] at h1
  · rfl
end Go.V

namespace Go.V
set_option linter.unusedVariables false
/-! ### words for laws over a world: sizes, copies, comparisons -/
/-- What is left after n are taken; below zero: -1. -/
def szR (n : Nat) (left : Int) : Int := if left < n then -1 else left - n
theorem szR_neg {n : Nat} {left : Int} (h : left < n) : szR n left = -1 := if_pos h
theorem szR_pos {n : Nat} {left : Int} (h : ¬ left < n) : szR n left = left - n := if_neg h
theorem sz_step {f : Option Int} {n m : Nat} {left : Int} {g : Int → Option Int} (hf : f = some (szR n left)) (h0 : 0 ≤ left) (h1 : left ≤ 1048576) (hg : ∀ p, 0 ≤ p → p ≤ 1048576 → g p = some (szR m p)) :
    (f.bind fun p => if decide (p < 0) = true then some (-1) else g p) = some (szR (n + m) left) := by
  rw [hf, Option.bind_some]
  by_cases h : left < n
  · rw [szR_neg h, if_pos (by decide), szR_neg (by omega)]
  · rw [szR_pos h]
    have : decide (left - (n : Int) < 0) = false := by simp; omega
    rw [this]
    simp only [Bool.false_eq_true, if_false]
    rw [hg _ (by omega) (by omega)]
    congr 1
    by_cases h2 : left - n < m
    · rw [szR_neg h2, szR_neg (by omega)]
    · rw [szR_pos h2, szR_pos (by omega)]
      omega
theorem sz_last {n : Nat} {left p : Int} (h : p = szR n left) : some p = some (szR n left) := by rw [h]
theorem szR_zero {p : Int} (h : 0 ≤ p) : some p = some (szR 0 p) := by rw [szR_pos (by omega)]; simp
theorem sz_leaf {n : Nat} {left : Int} (hn : n ≤ 140737488351232) (h0 : 0 ≤ left) (h1 : left ≤ 1048576) :
    (if decide (IntKind.i64.wrap (left - (n : Int)) < 0) = true then some (-1) else some (IntKind.i64.wrap (left - (n : Int)))) = some (szR n left) := by
  rw [wrap_id (by omega) (by omega)]
  by_cases h : left < n
  · rw [szR_neg h, if_pos (by simp; omega)]
  · rw [szR_pos h, if_neg (by simp; omega)]
/-- The sum over a row. -/
def sumL {α : Type} (f : α → Nat) : List α → Nat
  | [] => 0
  | x :: r => f x + sumL f r
section
variable {α R : Type}
theorem szS_loop {L : Nat → (List α × Int × Int) → Option R} {f : α → Int → Option Int} {X0 : (List α × Int × Int) → α → Int → Option R} {X1 : (List α × Int × Int) → Option R} {neg : Option R} {fin : Int → Option R}
    (hs : ∀ n v, L (n + 1) v = if (decide (v.2.2 < (v.1.length : Int))) = true then if 0 ≤ v.2.2 then ix v.1 v.2.2.toNat fun x => (f x v.2.1).bind fun p => if (decide (p < 0)) = true then X0 v x p else L n (v.1, p, (IntKind.i64.wrap (v.2.2 + 1))) else none else X1 v)
    (hx0 : ∀ v x p, X0 v x p = neg) (hx1 : ∀ v, X1 v = fin v.2.1) {s : α → Nat} {a : List α} (hf : ∀ x ∈ a, ∀ left : Int, 0 ≤ left → left ≤ 1048576 → f x left = some (szR (s x) left)) (hl : a.length ≤ 140737488351232) :
    ∀ (m n i : Nat) (left : Int), i + m = a.length → m < n → 0 ≤ left → left ≤ 1048576 → L n (a, left, (i : Int)) = if left < (sumL s (a.drop i) : Int) then neg else fin (left - sumL s (a.drop i))
  | 0, n + 1, i, left, h, _, h0, h1 => by
    have hi : i = a.length := by omega
    subst hi
    rw [hs, if_neg (by simp), hx1]
    simp [sumL]
    omega
  | m + 1, n + 1, i, left, h, hn, h0, h1 => by
    have hi : i < a.length := by omega
    have hin : (i : Int).toNat = i := by simp
    have hd : decide ((i : Int) < (a.length : Int)) = true := by simp; omega
    rw [hs, if_pos hd, if_pos (by show (0 : Int) ≤ i; omega)]
    simp only [hin]
    have e : (sumL s (a.drop i) : Int) = s a[i] + sumL s (a.drop (i + 1)) := by
      rw [List.drop_eq_getElem_cons hi]
      simp [sumL]
    rw [ix_at hi, hf _ (List.getElem_mem hi) left h0 h1, Option.bind_some]
    by_cases hb : left < s a[i]
    · rw [szR_neg hb, if_pos (by decide), hx0, if_pos (by omega)]
    · rw [szR_pos hb, if_neg (by simp; omega), wrap_succ hi (by omega), szS_loop hs hx0 hx1 hf hl m n (i + 1) _ (by omega) (by omega) (by omega) (by omega)]
      by_cases hc : left - (s a[i] : Int) < (sumL s (a.drop (i + 1)) : Int)
      · rw [if_pos hc, if_pos (by omega)]
      · rw [if_neg hc, if_neg (by omega)]
        congr 1
        omega
theorem toS_loop {L : Nat → (List α × Int × List α) → Option R} {f : α → Option α} {X : (List α × Int × List α) → Option R}
    (hs : ∀ n v, L (n + 1) v = if (decide (v.2.1 < (v.1.length : Int))) = true then if 0 ≤ v.2.1 then ix v.1 v.2.1.toNat fun x => (f x).bind fun p => if 0 ≤ v.2.1 then if v.2.1 < (v.2.2.length : Int) then ix v.2.2 v.2.1.toNat fun y => L n (v.1, (IntKind.i64.wrap (v.2.1 + 1)), (v.2.2.set v.2.1.toNat p)) else none else none else none else X v)
    {a : List α} (hf : ∀ x ∈ a, f x = some x) (hl : a.length ≤ 1048576) :
    ∀ (m n i : Nat) (out : List α), i + m = a.length → m < n → out.length = a.length → out.take i = a.take i → L n (a, (i : Int), out) = X (a, (a.length : Int), a)
  | 0, n + 1, i, out, h, _, ho, ht => by
    have hi : i = a.length := by omega
    subst hi
    rw [List.take_length, List.take_of_length_le (by omega)] at ht
    subst ht
    rw [hs, if_neg (by simp)]
  | m + 1, n + 1, i, out, h, hn, ho, ht => by
    have hi : i < a.length := by omega
    have hin : (i : Int).toNat = i := by simp
    have h1 : decide ((i : Int) < (a.length : Int)) = true := by simp; omega
    have h2 : (0 : Int) ≤ i := by omega
    have h3 : (i : Int) < (out.length : Int) := by omega
    rw [hs, if_pos h1, if_pos h2]
    simp only [hin]
    rw [ix_at hi, hf _ (List.getElem_mem hi), Option.bind_some, if_pos h2, if_pos h3, ix_at (by omega), wrap_succ hi (by omega)]
    exact toS_loop hs hf hl m n (i + 1) _ (by omega) (by omega) (by simp [ho]) (set_take ho hi ht)
theorem eqS_loop {L : Nat → (List α × List α × Int) → Option R} {f : α → α → Option Bool} {X0 : (List α × List α × Int) → α → α → Bool → Option R} {X1 : (List α × List α × Int) → Option R}
    (hs : ∀ n v, L (n + 1) v = if (decide (v.2.2 < (v.1.length : Int))) = true then if 0 ≤ v.2.2 then ix v.1 v.2.2.toNat fun x => if 0 ≤ v.2.2 then ix v.2.1 v.2.2.toNat fun y => (f x y).bind fun p => if (!p) = true then X0 v x y p else L n (v.1, v.2.1, (IntKind.i64.wrap (v.2.2 + 1))) else none else none else X1 v)
    {a : List α} (hf : ∀ x ∈ a, f x x = some true) (hl : a.length ≤ 1048576) :
    ∀ (m n i : Nat), i + m = a.length → m < n → L n (a, a, (i : Int)) = X1 (a, a, (a.length : Int))
  | 0, n + 1, i, h, _ => by
    have hi : i = a.length := by omega
    subst hi
    rw [hs, if_neg (by simp)]
  | m + 1, n + 1, i, h, hn => by
    have hi : i < a.length := by omega
    have hin : (i : Int).toNat = i := by simp
    have h1 : decide ((i : Int) < (a.length : Int)) = true := by simp; omega
    have h2 : (0 : Int) ≤ i := by omega
    rw [hs, if_pos h1, if_pos h2]
    simp only [hin]
    rw [ix_at hi, if_pos h2, ix_at hi, hf _ (List.getElem_mem hi), Option.bind_some, if_neg (by decide), wrap_succ hi (by omega)]
    exact eqS_loop hs hf hl m n (i + 1) (by omega) (by omega)
theorem eqI_loop {α : Type} [BEq α] [LawfulBEq α] {R : Type} {L : Nat → (List α × List α × Int) → Option R} {X0 : (List α × List α × Int) → α → α → Option R} {X1 : (List α × List α × Int) → Option R}
    (hs : ∀ n v, L (n + 1) v = if (decide (v.2.2 < (v.1.length : Int))) = true then if 0 ≤ v.2.2 then ix v.1 v.2.2.toNat fun x => if 0 ≤ v.2.2 then ix v.2.1 v.2.2.toNat fun y => if (x != y) = true then X0 v x y else L n (v.1, v.2.1, (IntKind.i64.wrap (v.2.2 + 1))) else none else none else X1 v)
    {a : List α} (hl : a.length ≤ 1048576) :
    ∀ (m n i : Nat), i + m = a.length → m < n → L n (a, a, (i : Int)) = X1 (a, a, (a.length : Int))
  | 0, n + 1, i, h, _ => by
    have hi : i = a.length := by omega
    subst hi
    rw [hs, if_neg (by simp)]
  | m + 1, n + 1, i, h, hn => by
    have hi : i < a.length := by omega
    have hin : (i : Int).toNat = i := by simp
    have h1 : decide ((i : Int) < (a.length : Int)) = true := by simp; omega
    have h2 : (0 : Int) ≤ i := by omega
    rw [hs, if_pos h1, if_pos h2]
    simp only [hin]
    rw [ix_at hi, if_pos h2, ix_at hi, if_neg (by simp), wrap_succ hi (by omega)]
    exact eqI_loop hs hl m n (i + 1) (by omega) (by omega)
end

/-! ### how many elements all rows of a value have; every row is short -/
mutual
def szT : (sh : Sh) → Ty sh → Nat
  | .b, _ => 0
  | .i _, _ => 0
  | .s, _ => 0
  | .l _ sh, xs => List.length xs + sumL (szT sh) xs
  | .a fs, x => szTL fs x
def szTL : (fs : List Sh) → TyL fs → Nat
  | [], _ => 0
  | [f], x => szT f x
  | f :: g :: r, x => szT f x.1 + szTL (g :: r) x.2
end
theorem sumL_zero {α : Type} {f : α → Nat} : ∀ {l : List α}, (∀ x ∈ l, f x = 0) → sumL f l = 0
  | [], _ => rfl
  | x :: r, h => by
    have h1 := h x (by simp)
    have h2 := sumL_zero (l := r) fun y hy => h y (List.mem_cons_of_mem _ hy)
    simp only [sumL, h1, h2]
theorem sumL_le {α : Type} {f : α → Nat} : ∀ {l : List α} {x : α}, x ∈ l → f x ≤ sumL f l
  | y :: r, x, h => by
    simp only [sumL]
    rcases List.mem_cons.1 h with rfl | h
    · omega
    · have := sumL_le (f := f) h; omega
mutual
theorem szT_flat : (sh : Sh) → (x : Ty sh) → sh.flat = true → szT sh x = 0
  | .b, x, _ => by simp only [szT]
  | .i k, x, _ => by simp only [szT]
  | .s, x, _ => by simp only [szT]
  | .l e sh, x, h => by simp [Sh.flat] at h
  | .a fs, x, h => by simp only [szT]; exact szTL_flat fs x (by simpa only [Sh.flat] using h)
theorem szTL_flat : (fs : List Sh) → (x : TyL fs) → Sh.flatL fs = true → szTL fs x = 0
  | [], _, _ => by simp only [szTL]
  | [f], x, h => by simp only [szTL]; exact szT_flat f x (by simpa [Sh.flatL] using h)
  | f :: g :: r, x, h => by
    rw [Sh.flatL, Bool.and_eq_true] at h
    simp only [szTL, szT_flat f x.1 h.1, szTL_flat (g :: r) x.2 h.2]
end
def rowLe {α : Type} (R : α → Prop) (m : Nat) (xs : List α) : Prop := xs.length ≤ m ∧ ∀ x ∈ xs, R x
mutual
/-- Every row has at most m elements. -/
def rowsLe (m : Nat) : (sh : Sh) → Ty sh → Prop
  | .b, _ => True
  | .i _, _ => True
  | .s, _ => True
  | .l _ sh, xs => rowLe (rowsLe m sh) m xs
  | .a fs, x => rowsLeL m fs x
def rowsLeL (m : Nat) : (fs : List Sh) → TyL fs → Prop
  | [], _ => True
  | [f], x => rowsLe m f x
  | f :: g :: r, x => rowsLe m f x.1 ∧ rowsLeL m (g :: r) x.2
end
mutual
theorem rows_le : (sh : Sh) → (x : Ty sh) → (m : Nat) → szT sh x ≤ m → rowsLe m sh x
  | .b, _, _, _ => by simp only [rowsLe]
  | .i k, _, _, _ => by simp only [rowsLe]
  | .s, _, _, _ => by simp only [rowsLe]
  | .l e sh, xs, m, h => by
    simp only [szT] at h
    simp only [rowsLe, rowLe]
    exact ⟨by omega, fun x hx => rows_le sh x m (by have := sumL_le (f := szT sh) hx; omega)⟩
  | .a fs, x, m, h => by simp only [szT] at h; simp only [rowsLe]; exact rowsL_le fs x m h
theorem rowsL_le : (fs : List Sh) → (x : TyL fs) → (m : Nat) → szTL fs x ≤ m → rowsLeL m fs x
  | [], _, _, _ => by simp only [rowsLeL]
  | [f], x, m, h => by simp only [szTL] at h; simp only [rowsLeL]; exact rows_le f x m h
  | f :: g :: r, x, m, h => by
    simp only [szTL] at h
    simp only [rowsLeL]
    exact ⟨rows_le f x.1 m (by omega), rowsL_le (g :: r) x.2 m (by omega)⟩
end
mutual
/-- The elements of each row have bytes. -/
def bytesPos (P : Program) : Sh → Bool
  | .l e sh => decide (0 < P.bytesOf e) && bytesPos P sh
  | .a fs => bytesPosL P fs
  | _ => true
def bytesPosL (P : Program) : List Sh → Bool
  | [] => true
  | f :: r => bytesPos P f && bytesPosL P r
end
mutual
theorem rows_wf {P : Program} : (sh : Sh) → (x : Ty sh) → bytesPos P sh = true → wfT P sh x → rowsLe 140737488351232 sh x
  | .b, _, _, _ => by simp only [rowsLe]
  | .i k, _, _, _ => by simp only [rowsLe]
  | .s, _, _, _ => by simp only [rowsLe]
  | .l e sh, xs, hb, h => by
    simp only [bytesPos, Bool.and_eq_true, decide_eq_true_eq] at hb
    simp only [wfT, inL, reachBytes] at h
    simp only [rowsLe, rowLe]
    exact ⟨Nat.le_trans (Nat.le_mul_of_pos_right _ hb.1) h.1, fun x hx => rows_wf sh x hb.2 (h.2 x hx)⟩
  | .a fs, x, hb, h => by simp only [wfT] at h; simp only [rowsLe]; exact rowsL_wf fs x (by simpa only [bytesPos] using hb) h
theorem rowsL_wf {P : Program} : (fs : List Sh) → (x : TyL fs) → bytesPosL P fs = true → wfTL P fs x → rowsLeL 140737488351232 fs x
  | [], _, _, _ => by simp only [rowsLeL]
  | [f], x, hb, h => by simp only [wfTL] at h; simp only [rowsLeL]; exact rows_wf f x (by simpa [bytesPosL] using hb) h
  | f :: g :: r, x, hb, h => by
    rw [bytesPosL, Bool.and_eq_true] at hb
    simp only [wfTL] at h
    simp only [rowsLeL]
    exact ⟨rows_wf f x.1 hb.1 h.1, rowsL_wf (g :: r) x.2 hb.2 h.2⟩
end
theorem szT_row {e : Nat} {sh : Sh} (h : sh.flat = true) (xs : List (Ty sh)) : szT (.l e sh) xs = xs.length := by
  simp only [szT, sumL_zero fun x _ => szT_flat sh x h, Nat.add_zero]
theorem rowsLe_row {m e : Nat} {sh : Sh} {xs : List (Ty sh)} (h : rowsLe m (.l e sh) xs) : xs.length ≤ m ∧ ∀ x ∈ xs, rowsLe m sh x := by
  simpa only [rowsLe, rowLe] using h
theorem szT_rowS (e : Nat) (sh : Sh) (xs : List (Ty sh)) : szT (.l e sh) xs = xs.length + sumL (szT sh) xs := by simp only [szT]
/-- A row whose elements have rows: its length, then each. -/
theorem sz_rows {α : Type} {s : α → Nat} {x : List α} {left : Int} {M : Option Int} (hl : x.length ≤ 140737488351232) (h0 : 0 ≤ left) (h1 : left ≤ 1048576)
    (hM : 0 ≤ left - (x.length : Int) → M = if left - (x.length : Int) < (sumL s x : Int) then some (-1) else some (left - x.length - sumL s x)) :
    (if decide (IntKind.i64.wrap (left - (x.length : Int)) < 0) = true then some (-1) else M) = some (szR (x.length + sumL s x) left) := by
  rw [wrap_id (by omega) (by omega)]
  by_cases hb : left < (x.length : Int)
  · rw [if_pos (by simp; omega), szR_neg (by omega)]
  · rw [if_neg (by simp; omega), hM (by omega)]
    by_cases hc : left - (x.length : Int) < (sumL s x : Int)
    · rw [if_pos hc, szR_neg (by omega)]
    · rw [if_neg hc, szR_pos (by omega)]
      congr 1
      omega
/-- A loop over a row that folds it. -/
theorem fold_loop {V R S α : Type} {L : Nat → V → Option R} {X : V → Option R} {a : List α} (mk : S → Int → V) (f : S → α → S)
    (hs : ∀ n s i, L (n + 1) (mk s i) = if decide (i < (a.length : Int)) = true then if 0 ≤ i then ix a i.toNat fun x => L n (mk (f s x) (IntKind.i64.wrap (i + 1))) else none else X (mk s i)) (hl : a.length ≤ 1048576) :
    ∀ (m n i : Nat) (s : S), i + m = a.length → m < n → L n (mk s (i : Int)) = X (mk ((a.drop i).foldl f s) (a.length : Int))
  | 0, n + 1, i, s, h, _ => by
    have hi : i = a.length := by omega
    subst hi
    rw [hs, if_neg (by simp)]
    simp
  | m + 1, n + 1, i, s, h, hn => by
    have hi : i < a.length := by omega
    have hin : (i : Int).toNat = i := by simp
    rw [hs, if_pos (by simp; omega), if_pos (by omega), hin, ix_at hi, wrap_succ hi (by omega), fold_loop mk f hs hl m n (i + 1) _ (by omega) (by omega), List.drop_eq_getElem_cons hi, List.foldl_cons]
end Go.V

namespace Go.V
set_option linter.unusedVariables false
/-! ### a loop over a row, whatever it does: what it gives is told by the rest of the row -/
theorem row_loop {V S α R : Type} {L : Nat → V → Option R} {X : V → Option R} {a : List α} (mk : S → Int → V) {body : Nat → S → Int → α → Option R} (res : S → Nat → List α → Option R)
    (hs : ∀ n s i, L (n + 1) (mk s i) = if decide (i < (a.length : Int)) = true then if 0 ≤ i then ix a i.toNat (body n s i) else none else X (mk s i))
    (hl : a.length ≤ 140737488351232) (he : ∀ s, X (mk s (a.length : Int)) = res s a.length [])
    (hb : ∀ n (i : Nat) s x r, IntKind.i64.wrap ((i : Int) + 1) = ((i + 1 : Nat) : Int) → i < a.length → a[i]? = some x → (∀ s', L n (mk s' ((i + 1 : Nat) : Int)) = res s' (i + 1) r) → body n s (i : Int) x = res s i (x :: r)) :
    ∀ (m n i : Nat) (s : S), i + m = a.length → m < n → L n (mk s (i : Int)) = res s i (a.drop i)
  | 0, n + 1, i, s, h, _ => by
    have hi : i = a.length := by omega
    subst hi
    rw [hs, if_neg (by simp), he]
    simp
  | m + 1, n + 1, i, s, h, hn => by
    have hi : i < a.length := by omega
    have hin : (i : Int).toNat = i := by simp
    rw [hs, if_pos (by simp; omega), if_pos (by omega), hin, ix_at hi, List.drop_eq_getElem_cons hi]
    refine hb n i s _ _ ?_ hi (List.getElem?_eq_getElem hi) fun s' => row_loop mk res hs hl he hb m n (i + 1) s' (by omega) (by omega)
    rw [wrap_succ hi (by omega)]
/-- From its start. -/
theorem row_loop0 {V S α R : Type} {L : Nat → V → Option R} {X : V → Option R} {a : List α} (mk : S → Int → V) {body : Nat → S → Int → α → Option R} (res : S → Nat → List α → Option R)
    (hs : ∀ n s i, L (n + 1) (mk s i) = if decide (i < (a.length : Int)) = true then if 0 ≤ i then ix a i.toNat (body n s i) else none else X (mk s i))
    (hl : a.length ≤ 140737488351232) (he : ∀ s, X (mk s (a.length : Int)) = res s a.length [])
    (hb : ∀ n (i : Nat) s x r, IntKind.i64.wrap ((i : Int) + 1) = ((i + 1 : Nat) : Int) → i < a.length → a[i]? = some x → (∀ s', L n (mk s' ((i + 1 : Nat) : Int)) = res s' (i + 1) r) → body n s (i : Int) x = res s i (x :: r))
    {n : Nat} (hn : a.length < n) (s : S) : L n (mk s 0) = res s 0 a := by
  have := row_loop mk res hs hl he hb a.length n 0 s (by omega) hn
  simpa using this
end Go.V

namespace Go.V
set_option linter.unusedVariables false
/-! ### loops that carry what changes alone -/
section
variable {α R : Type}
theorem szS_loop2 {a : List α} {L : Nat → (Int × Int) → Option R} {f : α → Int → Option Int} {X0 : (Int × Int) → α → Int → Option R} {X1 : (Int × Int) → Option R} {neg : Option R} {fin : Int → Option R}
    (hs : ∀ n v, L (n + 1) v = if (decide (v.2 < (a.length : Int))) = true then if 0 ≤ v.2 then ix a v.2.toNat fun x => (f x v.1).bind fun p => if (decide (p < 0)) = true then X0 v x p else L n (p, (IntKind.i64.wrap (v.2 + 1))) else none else X1 v)
    (hx0 : ∀ v x p, X0 v x p = neg) (hx1 : ∀ v, X1 v = fin v.1) {s : α → Nat} (hf : ∀ x ∈ a, ∀ left : Int, 0 ≤ left → left ≤ 1048576 → f x left = some (szR (s x) left)) (hl : a.length ≤ 140737488351232) :
    ∀ (m n i : Nat) (left : Int), i + m = a.length → m < n → 0 ≤ left → left ≤ 1048576 → L n (left, (i : Int)) = if left < (sumL s (a.drop i) : Int) then neg else fin (left - sumL s (a.drop i))
  | 0, n + 1, i, left, h, _, h0, h1 => by
    have hi : i = a.length := by omega
    subst hi
    rw [hs, if_neg (by simp), hx1]
    simp [sumL]
    omega
  | m + 1, n + 1, i, left, h, hn, h0, h1 => by
    have hi : i < a.length := by omega
    have hin : (i : Int).toNat = i := by simp
    have hd : decide ((i : Int) < (a.length : Int)) = true := by simp; omega
    rw [hs, if_pos hd, if_pos (by show (0 : Int) ≤ i; omega)]
    simp only [hin]
    have e : (sumL s (a.drop i) : Int) = s a[i] + sumL s (a.drop (i + 1)) := by
      rw [List.drop_eq_getElem_cons hi]
      simp [sumL]
    rw [ix_at hi, hf _ (List.getElem_mem hi) left h0 h1, Option.bind_some]
    by_cases hb : left < s a[i]
    · rw [szR_neg hb, if_pos (by decide), hx0, if_pos (by omega)]
    · rw [szR_pos hb, if_neg (by simp; omega), wrap_succ hi (by omega), szS_loop2 hs hx0 hx1 hf hl m n (i + 1) _ (by omega) (by omega) (by omega) (by omega)]
      by_cases hc : left - (s a[i] : Int) < (sumL s (a.drop (i + 1)) : Int)
      · rw [if_pos hc, if_pos (by omega)]
      · rw [if_neg hc, if_neg (by omega)]
        congr 1
        omega
theorem toS_loop2 {a : List α} {L : Nat → (Int × List α) → Option R} {f : α → Option α} {X : (Int × List α) → Option R}
    (hs : ∀ n v, L (n + 1) v = if (decide (v.1 < (a.length : Int))) = true then if 0 ≤ v.1 then ix a v.1.toNat fun x => (f x).bind fun p => if 0 ≤ v.1 then if v.1 < (v.2.length : Int) then ix v.2 v.1.toNat fun y => L n ((IntKind.i64.wrap (v.1 + 1)), (v.2.set v.1.toNat p)) else none else none else none else X v)
    (hf : ∀ x ∈ a, f x = some x) (hl : a.length ≤ 1048576) :
    ∀ (m n i : Nat) (out : List α), i + m = a.length → m < n → out.length = a.length → out.take i = a.take i → L n ((i : Int), out) = X ((a.length : Int), a)
  | 0, n + 1, i, out, h, _, ho, ht => by
    have hi : i = a.length := by omega
    subst hi
    rw [List.take_length, List.take_of_length_le (by omega)] at ht
    subst ht
    rw [hs, if_neg (by simp)]
  | m + 1, n + 1, i, out, h, hn, ho, ht => by
    have hi : i < a.length := by omega
    have hin : (i : Int).toNat = i := by simp
    have h1 : decide ((i : Int) < (a.length : Int)) = true := by simp; omega
    have h2 : (0 : Int) ≤ i := by omega
    have h3 : (i : Int) < (out.length : Int) := by omega
    rw [hs, if_pos h1, if_pos h2]
    simp only [hin]
    rw [ix_at hi, hf _ (List.getElem_mem hi), Option.bind_some, if_pos h2, if_pos h3, ix_at (by omega), wrap_succ hi (by omega)]
    exact toS_loop2 hs hf hl m n (i + 1) _ (by omega) (by omega) (by simp [ho]) (set_take ho hi ht)
theorem eqS_loop2 {a : List α} {L : Nat → Int → Option R} {f : α → α → Option Bool} {X0 : Int → α → α → Bool → Option R} {X1 : Int → Option R}
    (hs : ∀ n v, L (n + 1) v = if (decide (v < (a.length : Int))) = true then if 0 ≤ v then ix a v.toNat fun x => if 0 ≤ v then ix a v.toNat fun y => (f x y).bind fun p => if (!p) = true then X0 v x y p else L n ((IntKind.i64.wrap (v + 1))) else none else none else X1 v)
    (hf : ∀ x ∈ a, f x x = some true) (hl : a.length ≤ 1048576) :
    ∀ (m n i : Nat), i + m = a.length → m < n → L n (i : Int) = X1 (a.length : Int)
  | 0, n + 1, i, h, _ => by
    have hi : i = a.length := by omega
    subst hi
    rw [hs, if_neg (by simp)]
  | m + 1, n + 1, i, h, hn => by
    have hi : i < a.length := by omega
    have hin : (i : Int).toNat = i := by simp
    have h1 : decide ((i : Int) < (a.length : Int)) = true := by simp; omega
    have h2 : (0 : Int) ≤ i := by omega
    rw [hs, if_pos h1, if_pos h2]
    simp only [hin]
    rw [ix_at hi, if_pos h2, ix_at hi, hf _ (List.getElem_mem hi), Option.bind_some, if_neg (by decide), wrap_succ hi (by omega)]
    exact eqS_loop2 hs hf hl m n (i + 1) (by omega) (by omega)
theorem eqI_loop2 {α : Type} [BEq α] [LawfulBEq α] {R : Type} {a : List α} {L : Nat → Int → Option R} {X0 : Int → α → α → Option R} {X1 : Int → Option R}
    (hs : ∀ n v, L (n + 1) v = if (decide (v < (a.length : Int))) = true then if 0 ≤ v then ix a v.toNat fun x => if 0 ≤ v then ix a v.toNat fun y => if (x != y) = true then X0 v x y else L n ((IntKind.i64.wrap (v + 1))) else none else none else X1 v)
    (hl : a.length ≤ 1048576) :
    ∀ (m n i : Nat), i + m = a.length → m < n → L n (i : Int) = X1 (a.length : Int)
  | 0, n + 1, i, h, _ => by
    have hi : i = a.length := by omega
    subst hi
    rw [hs, if_neg (by simp)]
  | m + 1, n + 1, i, h, hn => by
    have hi : i < a.length := by omega
    have hin : (i : Int).toNat = i := by simp
    have h1 : decide ((i : Int) < (a.length : Int)) = true := by simp; omega
    have h2 : (0 : Int) ≤ i := by omega
    rw [hs, if_pos h1, if_pos h2]
    simp only [hin]
    rw [ix_at hi, if_pos h2, ix_at hi, if_neg (by simp), wrap_succ hi (by omega)]
    exact eqI_loop2 hs hl m n (i + 1) (by omega) (by omega)
end
section
variable {V S α R : Type}
/-- A loop over a row that carries its index alone. -/
theorem row_i {L : Nat → Int → Option R} {X : Int → Option R} {a : List α} {body : Nat → Int → α → Option R} (res : Nat → List α → Option R)
    (hs : ∀ n i, L (n + 1) i = if decide (i < (a.length : Int)) = true then if 0 ≤ i then ix a i.toNat (body n i) else none else X i)
    (hl : a.length ≤ 140737488351232) (he : X (a.length : Int) = res a.length [])
    (hb : ∀ n (i : Nat) x r, (0 : Int) ≤ (i : Int) → (i : Int).toNat = i → IntKind.i64.wrap ((i : Int) + 1) = ((i + 1 : Nat) : Int) → i < a.length → a[i]? = some x → L n ((i + 1 : Nat) : Int) = res (i + 1) r → body n (i : Int) x = res i (x :: r))
    {n : Nat} (hn : a.length < n) : L n 0 = res 0 a :=
  row_loop0 (S := Unit) (L := L) (X := X) (a := a) (fun _ i => i) (fun _ i l => res i l) (fun n _ i => hs n i) hl (fun _ => he)
    (fun n i _ x r hw hi hx ih => hb n i x r (by omega) (by simp) hw hi hx (ih ())) hn ()
/-- A loop over a row, with a state; 'mk': what the loop carries. -/
theorem row_s {L : Nat → V → Option R} {X : S → Int → Option R} {a : List α} (mk : S → Int → V) {body : Nat → S → Int → α → Option R} (res : S → Nat → List α → Option R)
    (hs : ∀ n s i, L (n + 1) (mk s i) = if decide (i < (a.length : Int)) = true then if 0 ≤ i then ix a i.toNat (body n s i) else none else X s i)
    (hl : a.length ≤ 140737488351232) (he : ∀ s, X s (a.length : Int) = res s a.length [])
    (hb : ∀ n (i : Nat) s x r, (0 : Int) ≤ (i : Int) → (i : Int).toNat = i → IntKind.i64.wrap ((i : Int) + 1) = ((i + 1 : Nat) : Int) → i < a.length → a[i]? = some x → (∀ s', L n (mk s' ((i + 1 : Nat) : Int)) = res s' (i + 1) r) → body n s (i : Int) x = res s i (x :: r)) :
    ∀ (m n i : Nat) (s : S), i + m = a.length → m < n → L n (mk s (i : Int)) = res s i (a.drop i)
  | 0, n + 1, i, s, h, _ => by
    have hi : i = a.length := by omega
    subst hi
    rw [hs, if_neg (by simp), he]
    simp
  | m + 1, n + 1, i, s, h, hn => by
    have hi : i < a.length := by omega
    have hin : (i : Int).toNat = i := by simp
    rw [hs, if_pos (by simp; omega), if_pos (by omega), hin, ix_at hi, List.drop_eq_getElem_cons hi]
    refine hb n i s _ _ (by omega) hin ?_ hi (List.getElem?_eq_getElem hi) fun s' => row_s mk res hs hl he hb m n (i + 1) s' (by omega) (by omega)
    rw [wrap_succ hi (by omega)]
theorem row_s0 {L : Nat → V → Option R} {X : S → Int → Option R} {a : List α} (mk : S → Int → V) {body : Nat → S → Int → α → Option R} (res : S → Nat → List α → Option R)
    (hs : ∀ n s i, L (n + 1) (mk s i) = if decide (i < (a.length : Int)) = true then if 0 ≤ i then ix a i.toNat (body n s i) else none else X s i)
    (hl : a.length ≤ 140737488351232) (he : ∀ s, X s (a.length : Int) = res s a.length [])
    (hb : ∀ n (i : Nat) s x r, (0 : Int) ≤ (i : Int) → (i : Int).toNat = i → IntKind.i64.wrap ((i : Int) + 1) = ((i + 1 : Nat) : Int) → i < a.length → a[i]? = some x → (∀ s', L n (mk s' ((i + 1 : Nat) : Int)) = res s' (i + 1) r) → body n s (i : Int) x = res s i (x :: r))
    {n : Nat} (hn : a.length < n) (s : S) : L n (mk s 0) = res s 0 a := by
  have := row_s mk res hs hl he hb a.length n 0 s (by omega) hn
  simpa using this
/-- A loop that counts up to 'len'. -/
theorem up_loop {L : Nat → Int → Option R} {len : Nat} (res : Nat → Option R) (hlen : len ≤ 140737488351232)
    (hb : ∀ n (i : Nat), i ≤ len → (0 : Int) ≤ (i : Int) → (i : Int).toNat = i → IntKind.i64.wrap ((i : Int) + 1) = ((i + 1 : Nat) : Int) → (i < len → L n ((i + 1 : Nat) : Int) = res (i + 1)) → L (n + 1) (i : Int) = res i) :
    ∀ (m n i : Nat), i + m = len → m < n → L n (i : Int) = res i
  | 0, n + 1, i, h, _ => hb n i (by omega) (by omega) (by simp) (by rw [wrap_id (by omega) (by omega)]; omega) (fun hi => absurd hi (by omega))
  | m + 1, n + 1, i, h, hn => hb n i (by omega) (by omega) (by simp) (by rw [wrap_id (by omega) (by omega)]; omega) (fun hi => up_loop res hlen hb m n (i + 1) (by omega) (by omega))
theorem up_loop0 {L : Nat → Int → Option R} {len : Nat} (res : Nat → Option R) (hlen : len ≤ 140737488351232)
    (hb : ∀ n (i : Nat), i ≤ len → (0 : Int) ≤ (i : Int) → (i : Int).toNat = i → IntKind.i64.wrap ((i : Int) + 1) = ((i + 1 : Nat) : Int) → (i < len → L n ((i + 1 : Nat) : Int) = res (i + 1)) → L (n + 1) (i : Int) = res i) {n : Nat} (hn : len < n) : L n 0 = res 0 := by
  have := up_loop res hlen hb len n 0 (by omega) hn
  simpa using this
end
/-- All of a row, each with its place. -/
def allIdx {α : Type} (p : Nat → α → Bool) : Nat → List α → Bool
  | _, [] => true
  | i, x :: r => p i x && allIdx p (i + 1) r
/-- The first place, from i on; -1 if there is none. -/
def findFrom {α : Type} (p : α → Bool) : Nat → List α → Int
  | _, [] => -1
  | i, x :: r => if p x then (i : Int) else findFrom p (i + 1) r
theorem findFrom_range {α : Type} (p : α → Bool) : ∀ (l : List α) (i : Nat), findFrom p i l = -1 ∨ ((i : Int) ≤ findFrom p i l ∧ findFrom p i l < ((i + l.length : Nat) : Int))
  | [], i => .inl rfl
  | x :: r, i => by
    unfold findFrom
    split
    · right; simp only [List.length_cons]; omega
    · rcases findFrom_range p r (i + 1) with h | h
      · exact .inl h
      · right; simp only [List.length_cons]; omega
theorem findFrom_any {α : Type} (p : α → Bool) : ∀ (l : List α) (i : Nat), decide (findFrom p i l ≥ 0) = l.any p
  | [], i => rfl
  | x :: r, i => by
    unfold findFrom
    rw [List.any_cons]
    split
    · rename_i h; rw [h]; simp
    · rename_i h; rw [findFrom_any p r (i + 1)]; simp [h]
end Go.V
