/- The interpreter's second part: rows that are made, written and handed on, and calls. No condition. -/
import Derived.Test.YtmkkoalilmgpcaaGreatV1
import Derived.Laws.MakeOwn
namespace Go.V
open Go.RowKit (Below)
set_option linter.unusedVariables false
set_option linter.unusedSimpArgs false

/-- Of what was there, nothing but the blocks of L has changed. -/
structure Chg (L : List Nat) (w w' : World) : Prop where
  os : w'.os = w.os
  tape : w'.tape = w.tape
  output : w'.output = w.output
  size : w.heap.size ≤ w'.heap.size
  block : ∀ k, k < w.heap.size → k ∉ L → w'.heap[k]? = w.heap[k]?
theorem Chg.of_below {w w' : World} (h : Below w.heap.size w w') (L : List Nat) : Chg L w w' := ⟨h.os, h.tape, h.output, h.size, fun k hk _ => h.block k hk⟩
theorem Chg.of_grown {w w' : World} {row : Option Nat} (h : w.grownBy w' row) (L : List Nat) (hL : ∀ k, row = some k → k ∈ L) : Chg L w w' := ⟨h.os, h.tape, h.output, h.size, fun k hk hn => h.block k hk fun e => hn (hL k e.symm)⟩
theorem Chg.refl (L : List Nat) (w : World) : Chg L w w := ⟨rfl, rfl, rfl, Nat.le_refl _, fun _ _ _ => rfl⟩
theorem Below.alloc1 (w : World) (o : Obj) : Below w.heap.size w (w.alloc o) := (Below.refl _ w).alloc (Nat.le_refl _) o
theorem Chg.setRow (w : World) (g : Nat) (cs : Array Value) : Chg [g] w (w.setRow g cs) := ⟨rfl, rfl, rfl, by simp, fun k _ hk => setRow_other w g k cs (by simpa using hk)⟩

section
variable {E : Env} {G : Nat → Prop} {w0 : World} {st : St} {a : Act} {w : World} {β : Nat → Value} {Lf : Nat → List Nat}
theorem Ob.lt_up {o : Ob} {n m : Nat} (h : o.lt n) (hm : n ≤ m) : o.lt m := by
  cases o with
  | var cs => exact fun c hc x hx => Nat.lt_of_lt_of_le (h c hc x hx) hm
  | arr => exact h
theorem AV.lt_up {v : AV} {n m : Nat} (h : v.lt n) (hm : n ≤ m) : v.lt m := by
  cases v with
  | c x => exact fun y hy => Nat.lt_of_lt_of_le (h y hy) hm
  | agg cs => exact fun c hc y hy => Nat.lt_of_lt_of_le (h c hc y hy) hm
  | tup xs => exact fun p hp c hc y hy => Nat.lt_of_lt_of_le (h p hp c hc y hy) hm
/-- One more object: of new blocks, and of blocks of objects that are gone. -/
theorem Sim.put_new (S : Sim G w0 st a w β Lf) {ob' : List (Nat × Ob)} (hsub : ∀ n o, look ob' n = some o → look st.ob n = some o) {w' : World} {o : Ob} {u : Value} {L : List Nat} (hC : Chg L w w')
    (hL1 : ∀ b ∈ L, (w.heap.size ≤ b ∧ b < w'.heap.size) ∨ ∃ h o, look st.ob h = some o ∧ b ∈ Lf h) (hL2 : ∀ h o, look ob' h = some o → ∀ b ∈ Lf h, b ∉ L) (hnd : L.Nodup) (hlt : o.lt st.nx)
    (hO : OB w' (fun k => imm G { st with ob := ob' } Lf k ∧ k ∉ L) β o u L) :
    Sim G w0 { st with ob := put st.nx o ob', nx := st.nx + 1 } a w' (upd β st.nx u) (upd Lf st.nx L) := by
  have himmL : ∀ k, imm G st Lf k → k < w.heap.size → k ∉ L := by
    intro k hk hlt hm
    rcases hL1 k hm with h | ⟨h, o, ho, hb⟩
    · omega
    · exact hk.2 h o ho hb
  have hw : ∀ k, imm G st Lf k → k < w.heap.size → (imm G { st with ob := ob' } Lf k ∧ k ∉ L) ∧ w'.heap[k]? = w.heap[k]? := fun k hk hlt =>
    ⟨⟨⟨hk.1, fun n o ho => hk.2 n o (hsub n o ho)⟩, himmL k hk hlt⟩, hC.block k hlt (himmL k hk hlt)⟩
  have h0 : w0.heap.size ≤ w.heap.size := S.below.size
  have hnew : ∀ b ∈ L, w0.heap.size ≤ b := by
    intro b hb
    rcases hL1 b hb with h | ⟨h, o, ho, hb⟩
    · omega
    · exact (S.new h o ho b hb).1
  have hbel : Below w0.heap.size w w' := ⟨hC.os, hC.tape, hC.output, hC.size, fun k hk => hC.block k (by omega) fun hm => by have := hnew k hm; omega⟩
  have S' : Sim G w0 { st with ob := ob' } a w' β Lf := by
    have hw2 : ∀ k, imm G st Lf k → k < w.heap.size → imm G { st with ob := ob' } Lf k ∧ w'.heap[k]? = w.heap[k]? := fun k hk hlt => ⟨(hw k hk hlt).1.1, (hw k hk hlt).2⟩
    exact { fresh := S.fresh, below := S.below.trans hbel, defers := S.defers, size := S.size, slots := fun t v ht => (S.slots t v ht).step (S.slt t v ht) hw2 fun _ _ => rfl, slt := S.slt,
            obs := fun n o ho => (S.obs n o (hsub n o ho)).step (S.olt n o (hsub n o ho)).2 hw2 (fun b hb => hC.block b (S.new n o (hsub n o ho) b hb).2 (hL2 n o ho b hb)) fun _ _ => rfl,
            olt := fun n o ho => S.olt n o (hsub n o ho), new := fun n o ho b hb => ⟨(S.new n o (hsub n o ho) b hb).1, Nat.lt_of_lt_of_le (S.new n o (hsub n o ho) b hb).2 hC.size⟩,
            nodup := fun n o ho => S.nodup n o (hsub n o ho), disj := fun n o n' o' ho ho' => S.disj n o n' o' (hsub n o ho) (hsub n' o' ho') }
  refine S'.add (o := o) (u := u) (L := L) ?_ (fun h o ho b hb => hL2 h o ho b hb) hnd hlt ?_ ?_ hO
  · intro b hb
    refine ⟨hnew b hb, ?_⟩
    rcases hL1 b hb with h | ⟨h, o, ho, hb⟩
    · exact h.2
    · exact Nat.lt_of_lt_of_le (S.new h o ho b hb).2 hC.size
  · exact fun t v ht => (S.slots t v ht).step (S.slt t v ht) hw fun _ _ => rfl
  · exact fun n o ho => (S.obs n o (hsub n o ho)).step (S.olt n o (hsub n o ho)).2 hw (fun b hb => hC.block b (S.new n o (hsub n o ho) b hb).2 (hL2 n o ho b hb)) fun _ _ => rfl
/-- An object is written to. -/
theorem Sim.mod (S : Sim G w0 st a w β Lf) {ob' : List (Nat × Ob)} (hsub : ∀ n o, look ob' n = some o → look st.ob n = some o) {w' : World} {h : Nat} {o0 o : Ob} {L : List Nat} (hh : look ob' h = some o0) (hC : Chg (Lf h) w w')
    (hL1 : ∀ b ∈ L, b ∈ Lf h ∨ ∃ h' o, look st.ob h' = some o ∧ h' ≠ h ∧ b ∈ Lf h') (hL2 : ∀ h' o, look ob' h' = some o → h' ≠ h → ∀ b ∈ Lf h', b ∉ L) (hnd : L.Nodup) (hlt : o.lt st.nx)
    (hO : OB w' (fun k => imm G st Lf k) β o (β h) L) :
    Sim G w0 { st with ob := put h o ob' } a w' β (upd Lf h L) := by
  have hh0 := hsub h o0 hh
  have key : ∀ n o', look (put h o ob') n = some o' → (n = h ∧ o' = o) ∨ (n ≠ h ∧ look ob' n = some o') := by
    intro n o' ho
    by_cases e : n = h
    · subst e
      rw [look_put_same] at ho
      exact .inl ⟨rfl, (Option.some.inj ho).symm⟩
    · rw [look_put_ne _ _ e] at ho
      exact .inr ⟨e, ho⟩
  have himm : ∀ k, imm G st Lf k → k < w.heap.size → imm G { st with ob := put h o ob' } (upd Lf h L) k ∧ w'.heap[k]? = w.heap[k]? := by
    intro k hk hlt
    refine ⟨⟨hk.1, fun n o' ho => ?_⟩, hC.block k hlt (hk.2 h o0 hh0)⟩
    rcases key n o' ho with ⟨rfl, rfl⟩ | ⟨hne, ho⟩
    · rw [upd_same]
      intro hm
      rcases hL1 k hm with hb | ⟨h', o'', ho', _, hb⟩
      · exact hk.2 n o0 hh0 hb
      · exact hk.2 h' o'' ho' hb
    · rw [upd_ne _ _ hne]
      exact hk.2 n o' (hsub n o' ho)
  have hnew : ∀ b ∈ Lf h, w0.heap.size ≤ b := fun b hb => (S.new h o0 hh0 b hb).1
  have hbel : Below w0.heap.size w w' := ⟨hC.os, hC.tape, hC.output, hC.size, fun k hk => hC.block k (Nat.lt_of_lt_of_le hk S.below.size) fun hm => by have := hnew k hm; omega⟩
  refine { fresh := S.fresh, below := S.below.trans hbel, defers := S.defers, size := S.size, slots := fun t v ht => (S.slots t v ht).step (S.slt t v ht) himm fun _ _ => rfl, slt := S.slt, obs := ?_, olt := ?_, new := ?_, nodup := ?_, disj := ?_ }
  · intro n o' ho
    rcases key n o' ho with ⟨rfl, rfl⟩ | ⟨hne, ho⟩
    · rw [upd_same]
      refine hO.step hlt (fun k hk hlt => ⟨⟨hk.1, ?_⟩, rfl⟩) (fun _ _ => rfl) fun _ _ => rfl
      intro m o'' hm
      rcases key m o'' hm with ⟨rfl, rfl⟩ | ⟨hne, hm⟩
      · rw [upd_same]
        intro hk'
        rcases hL1 k hk' with hb | ⟨h', o2, ho', _, hb⟩
        · exact hk.2 m o0 hh0 hb
        · exact hk.2 h' o2 ho' hb
      · rw [upd_ne _ _ hne]
        exact hk.2 m o'' (hsub m o'' hm)
    · rw [upd_ne _ _ hne]
      exact (S.obs n o' (hsub n o' ho)).step (S.olt n o' (hsub n o' ho)).2 himm (fun b hb => hC.block b (S.new n o' (hsub n o' ho) b hb).2 (S.disj n o' h o0 (hsub n o' ho) hh0 hne b hb)) fun _ _ => rfl
  · intro n o' ho
    rcases key n o' ho with ⟨rfl, rfl⟩ | ⟨hne, ho⟩
    · exact ⟨(S.olt n o0 hh0).1, hlt⟩
    · exact S.olt n o' (hsub n o' ho)
  · intro n o' ho b hb
    have go : ∀ n o'', look st.ob n = some o'' → b ∈ Lf n → w0.heap.size ≤ b ∧ b < w'.heap.size := fun n o'' ho hb => ⟨(S.new n o'' ho b hb).1, Nat.lt_of_lt_of_le (S.new n o'' ho b hb).2 hC.size⟩
    rcases key n o' ho with ⟨rfl, rfl⟩ | ⟨hne, ho⟩
    · rw [upd_same] at hb
      rcases hL1 b hb with hb | ⟨h', o'', ho', _, hb⟩
      · exact go _ _ hh0 hb
      · exact go _ _ ho' hb
    · rw [upd_ne _ _ hne] at hb
      exact go _ _ (hsub n o' ho) hb
  · intro n o' ho
    rcases key n o' ho with ⟨rfl, rfl⟩ | ⟨hne, ho⟩
    · rw [upd_same]; exact hnd
    · rw [upd_ne _ _ hne]; exact S.nodup n o' (hsub n o' ho)
  · intro n o1 m o2 hn hm hne b hb
    rcases key n o1 hn with ⟨e1, e2⟩ | ⟨h1, hq⟩
    · rw [e1, upd_same] at hb
      rcases key m o2 hm with ⟨e3, e4⟩ | ⟨h2, hq'⟩
      · exact absurd (e1.trans e3.symm) hne
      · rw [upd_ne _ _ h2]
        exact fun hb' => hL2 m o2 hq' h2 b hb' hb
    · rw [upd_ne _ _ h1] at hb
      rcases key m o2 hm with ⟨e3, e4⟩ | ⟨h2, hq'⟩
      · rw [e3, upd_same]; exact hL2 n o1 hq h1 b hb
      · rw [upd_ne _ _ h2]
        exact S.disj n o1 m o2 (hsub _ _ hq) (hsub _ _ hq') hne b hb

/-! ### Plain data of the call's own -/
def mv (w : World) : C → Value → List Nat → Prop
  | .v x, u, L => u = x ∧ x.oneCell' = true ∧ L = []
  | .l e sh xs, u, L => ownRow w e sh.n (ownT w sh) xs u L
  | .emp, u, L => (∃ A, u = .slice A 0 0) ∧ L = []
  | _, _, _ => False
def mvL (w : World) : List C → List Value → List Nat → Prop
  | [], us, L => us = [] ∧ L = []
  | c :: cs, us, L => ∃ u vs L1 L2, us = u :: vs ∧ L = L1 ++ L2 ∧ mv w c u L1 ∧ mvL w cs vs L2
theorem castSh_eq {sh sh' : Sh} {xs : List (Ty sh)} {ys : List (Ty sh')} (h : castSh xs = some ys) : ∃ e : sh = sh', e ▸ xs = ys := by
  unfold castSh at h
  split at h
  · rename_i e _
    exact ⟨e, Option.some.inj h⟩
  · cases h
theorem headC_some {α : Type} {f : C → Option α} {cs rest : List C} {x : α} (h : headC f cs = some (x, rest)) : ∃ c, cs = c :: rest ∧ f c = some x := by
  cases cs with
  | nil => cases h
  | cons c r =>
    simp only [headC] at h
    split at h
    · rename_i y hy
      simp only [Option.some.injEq, Prod.mk.injEq] at h
      obtain ⟨rfl, rfl⟩ := h
      exact ⟨c, rfl, hy⟩
    · cases h
theorem isBool_some {c : C} {x : Bool} (h : c.isBool = some x) : c = .v (.bool x) := by
  unfold C.isBool at h
  split at h
  · simp only [Option.some.injEq] at h; subst h; rfl
  · cases h
theorem isInt_some {k : IntKind} {c : C} {x : Int} (h : c.isInt k = some x) : c = .v (.int k x) := by
  unfold C.isInt at h
  split at h
  · split at h
    · rename_i hk; simp only [Option.some.injEq] at h; subst h hk; rfl
    · cases h
  · cases h
theorem isString_some {c : C} {x : ByteArray} (h : c.isString = some x) : c = .v (.string x) := by
  unfold C.isString at h
  split at h
  · simp only [Option.some.injEq] at h; subst h; rfl
  · cases h
theorem isSl_some {e : Nat} {sh : Sh} {c : C} {xs : List (Ty sh)} (h : c.isSl e sh = some xs) : (c = .v (.slice none 0 0) ∧ xs = []) ∨ (c = .emp ∧ xs = []) ∨ c = .l e sh xs := by
  unfold C.isSl at h
  split at h
  · simp only [Option.some.injEq] at h; subst h; exact .inl ⟨rfl, rfl⟩
  · simp only [Option.some.injEq] at h; subst h; exact .inr (.inl ⟨rfl, rfl⟩)
  · split at h
    · rename_i he
      obtain ⟨e1, e2⟩ := castSh_eq h
      subst e1 he
      simp only at e2
      subst e2
      exact .inr (.inr rfl)
    · cases h
  · cases h
theorem mvL_cons {w : World} {c : C} {r : List C} {us : List Value} {L : List Nat} (h : mvL w (c :: r) us L) : ∃ u vs L1 L2, us = u :: vs ∧ L = L1 ++ L2 ∧ mv w c u L1 ∧ mvL w r vs L2 := h
mutual
theorem rd_own {w : World} : (sh : Sh) → (cs : List C) → (x : Ty sh) → (rest : List C) → (us : List Value) → (L : List Nat) → rd sh cs = some (x, rest) → mvL w cs us L →
    ∃ vs ws L1 L2, us = vs ++ ws ∧ L = L1 ++ L2 ∧ ownT w sh x vs L1 ∧ mvL w rest ws L2
  | .b, cs, x, rest, us, L, h, hm => by
    simp only [rd] at h
    obtain ⟨c, rfl, hc⟩ := headC_some h
    obtain ⟨u, vs, L1, L2, rfl, rfl, h1, h2⟩ := mvL_cons hm
    rw [isBool_some hc] at h1
    obtain ⟨rfl, _, rfl⟩ := h1
    exact ⟨[_], vs, [], L2, rfl, rfl, by simp [ownT], h2⟩
  | .i k, cs, x, rest, us, L, h, hm => by
    simp only [rd] at h
    obtain ⟨c, rfl, hc⟩ := headC_some h
    obtain ⟨u, vs, L1, L2, rfl, rfl, h1, h2⟩ := mvL_cons hm
    rw [isInt_some hc] at h1
    obtain ⟨rfl, _, rfl⟩ := h1
    exact ⟨[_], vs, [], L2, rfl, rfl, by simp [ownT], h2⟩
  | .s, cs, x, rest, us, L, h, hm => by
    simp only [rd] at h
    obtain ⟨c, rfl, hc⟩ := headC_some h
    obtain ⟨u, vs, L1, L2, rfl, rfl, h1, h2⟩ := mvL_cons hm
    rw [isString_some hc] at h1
    obtain ⟨rfl, _, rfl⟩ := h1
    exact ⟨[_], vs, [], L2, rfl, rfl, by simp [ownT], h2⟩
  | .l e sh, cs, x, rest, us, L, h, hm => by
    simp only [rd] at h
    obtain ⟨c, rfl, hc⟩ := headC_some h
    obtain ⟨u, vs, L1, L2, rfl, rfl, h1, h2⟩ := mvL_cons hm
    rcases isSl_some hc with ⟨rfl, rfl⟩ | ⟨rfl, rfl⟩ | rfl
    · obtain ⟨rfl, _, rfl⟩ := h1
      exact ⟨[_], vs, [], L2, rfl, rfl, by simp only [ownT]; exact ⟨_, rfl, .inl ⟨rfl, rfl, _, rfl⟩⟩, h2⟩
    · obtain ⟨⟨A, rfl⟩, rfl⟩ := h1
      exact ⟨[_], vs, [], L2, rfl, rfl, by simp only [ownT]; exact ⟨_, rfl, .inl ⟨rfl, rfl, _, rfl⟩⟩, h2⟩
    · exact ⟨[u], vs, L1, L2, rfl, rfl, by simp only [ownT]; exact ⟨u, rfl, h1⟩, h2⟩
  | .a fs, cs, x, rest, us, L, h, hm => by
    simp only [rd] at h
    simp only [ownT]
    exact rdL_own fs cs x rest us L h hm
theorem rdL_own {w : World} : (fs : List Sh) → (cs : List C) → (x : TyL fs) → (rest : List C) → (us : List Value) → (L : List Nat) → rdL fs cs = some (x, rest) → mvL w cs us L →
    ∃ vs ws L1 L2, us = vs ++ ws ∧ L = L1 ++ L2 ∧ ownTL w fs x vs L1 ∧ mvL w rest ws L2
  | [], cs, x, rest, us, L, h, hm => by
    simp only [rdL, Option.some.injEq, Prod.mk.injEq] at h
    obtain ⟨_, rfl⟩ := h
    exact ⟨[], us, [], L, rfl, rfl, by simp [ownTL], hm⟩
  | [f], cs, x, rest, us, L, h, hm => by
    simp only [rdL] at h
    simp only [ownTL]
    exact rd_own f cs x rest us L h hm
  | f :: g :: r, cs, x, rest, us, L, h, hm => by
    simp only [rdL] at h
    split at h
    · rename_i y r1 h1
      split at h
      · rename_i z r2 h2
        simp only [Option.some.injEq, Prod.mk.injEq] at h
        obtain ⟨rfl, rfl⟩ := h
        obtain ⟨vs, ws, L1, L2, rfl, rfl, h3, h4⟩ := rd_own f cs y r1 us L h1 hm
        obtain ⟨vs', ws', L3, L4, rfl, rfl, h5, h6⟩ := rdL_own (g :: r) r1 z _ ws L2 h2 h4
        refine ⟨vs ++ vs', ws', L1 ++ L3, L4, by simp, by simp, ?_, h6⟩
        simp only [ownTL]
        exact ⟨vs, vs', L1, L3, rfl, rfl, h3, h5⟩
      · cases h
    · cases h
end
mutual
theorem rd_rep {w : World} {ok : Nat → Prop} : (sh : Sh) → (cs : List C) → (x : Ty sh) → (rest : List C) → (us : List Value) → rd sh cs = some (x, rest) → repL w ok cs us →
    ∃ vs ws, us = vs ++ ws ∧ repT w ok sh x vs ∧ repL w ok rest ws
  | .b, cs, x, rest, us, h, hm => by
    simp only [rd] at h
    obtain ⟨c, rfl, hc⟩ := headC_some h
    simp only [repL] at hm
    obtain ⟨u, vs, rfl, h1, h2⟩ := hm
    rw [isBool_some hc] at h1
    simp only [rep] at h1
    exact ⟨[u], vs, rfl, by simp only [repT]; rw [h1.1], h2⟩
  | .i k, cs, x, rest, us, h, hm => by
    simp only [rd] at h
    obtain ⟨c, rfl, hc⟩ := headC_some h
    simp only [repL] at hm
    obtain ⟨u, vs, rfl, h1, h2⟩ := hm
    rw [isInt_some hc] at h1
    simp only [rep] at h1
    exact ⟨[u], vs, rfl, by simp only [repT]; rw [h1.1], h2⟩
  | .s, cs, x, rest, us, h, hm => by
    simp only [rd] at h
    obtain ⟨c, rfl, hc⟩ := headC_some h
    simp only [repL] at hm
    obtain ⟨u, vs, rfl, h1, h2⟩ := hm
    rw [isString_some hc] at h1
    simp only [rep] at h1
    exact ⟨[u], vs, rfl, by simp only [repT]; rw [h1.1], h2⟩
  | .l e sh, cs, x, rest, us, h, hm => by
    simp only [rd] at h
    obtain ⟨c, rfl, hc⟩ := headC_some h
    simp only [repL] at hm
    obtain ⟨u, vs, rfl, h1, h2⟩ := hm
    have nil : ∀ A, rowT w ok sh.n (repT w ok sh) [] (.slice A 0 0) := fun A => ⟨A, 0, rfl, Nat.le_refl _, Nat.zero_le _, fun h => absurd h (by simp)⟩
    rcases isSl_some hc with ⟨rfl, rfl⟩ | ⟨rfl, rfl⟩ | rfl
    · simp only [rep] at h1
      exact ⟨[u], vs, rfl, by simp only [repT]; exact ⟨u, rfl, by rw [h1.1]; exact nil _⟩, h2⟩
    · simp only [rep] at h1
      obtain ⟨A, rfl⟩ := h1
      exact ⟨[_], vs, rfl, by simp only [repT]; exact ⟨_, rfl, nil _⟩, h2⟩
    · simp only [rep] at h1
      exact ⟨[u], vs, rfl, by simp only [repT]; exact ⟨u, rfl, h1⟩, h2⟩
  | .a fs, cs, x, rest, us, h, hm => by
    simp only [rd] at h
    simp only [repT]
    exact rdL_rep fs cs x rest us h hm
theorem rdL_rep {w : World} {ok : Nat → Prop} : (fs : List Sh) → (cs : List C) → (x : TyL fs) → (rest : List C) → (us : List Value) → rdL fs cs = some (x, rest) → repL w ok cs us →
    ∃ vs ws, us = vs ++ ws ∧ repTL w ok fs x vs ∧ repL w ok rest ws
  | [], cs, x, rest, us, h, hm => by
    simp only [rdL, Option.some.injEq, Prod.mk.injEq] at h
    obtain ⟨_, rfl⟩ := h
    exact ⟨[], us, rfl, by simp [repTL], hm⟩
  | [f], cs, x, rest, us, h, hm => by
    simp only [rdL] at h
    simp only [repTL]
    exact rd_rep f cs x rest us h hm
  | f :: g :: r, cs, x, rest, us, h, hm => by
    simp only [rdL] at h
    split at h
    · rename_i y r1 h1
      split at h
      · rename_i z r2 h2
        simp only [Option.some.injEq, Prod.mk.injEq] at h
        obtain ⟨rfl, rfl⟩ := h
        obtain ⟨vs, ws, rfl, h3, h4⟩ := rd_rep f cs y r1 us h1 hm
        obtain ⟨vs', ws', rfl, h5, h6⟩ := rdL_rep (g :: r) r1 z _ ws h2 h4
        refine ⟨vs ++ vs', ws', by simp, ?_, h6⟩
        simp only [repTL]
        exact ⟨vs, vs', rfl, h3, h5⟩
      · cases h
    · cases h
end
/-- The objects that a value's cells bear go into what it becomes a part of. -/
theorem moved_sound : ∀ (cs ds : List C) (us : List Value) (st st1 : St), Sim G w0 st a w β Lf → All2 (VC w (imm G st Lf) β) cs us → st.moved cs = some (ds, st1) →
    ∃ L, mvL w ds us L ∧ st1 = { st with ob := st1.ob } ∧ (∀ n o, look st1.ob n = some o → look st.ob n = some o) ∧ (∀ b ∈ L, ∃ h o, look st.ob h = some o ∧ look st1.ob h = none ∧ b ∈ Lf h) ∧ L.Nodup
  | [], ds, us, st, st1, S, h, hm => by
    simp only [St.moved, Option.some.injEq, Prod.mk.injEq] at hm
    obtain ⟨rfl, rfl⟩ := hm
    cases us with
    | nil => exact ⟨[], ⟨rfl, rfl⟩, rfl, fun _ _ h => h, by simp, List.nodup_nil⟩
    | cons u us => simp [All2] at h
  | c :: cs, ds, us, st, st1, S, h, hm => by
    cases us with
    | nil => simp [All2] at h
    | cons u us =>
    obtain ⟨hc, h⟩ := h
    cases c <;> simp only [St.moved] at hm <;> (try contradiction)
    case v x =>
      split at hm
      · rename_i xs st2 h2
        simp only [Option.some.injEq, Prod.mk.injEq] at hm
        obtain ⟨rfl, rfl⟩ := hm
        obtain ⟨L, h3, h4, h5, h6, h7⟩ := moved_sound cs xs us st st2 S h h2
        have hr : rep w (imm G st Lf) (.v x) u := hc
        simp only [rep] at hr
        exact ⟨L, ⟨u, us, [], L, rfl, rfl, ⟨hr.1, hr.2, rfl⟩, h3⟩, h4, h5, h6, h7⟩
      · cases hm
    case ref hh =>
      split at hm
      · rename_i e sh xs hob
        split at hm
        · rename_i ys st2 h2
          simp only [Option.some.injEq, Prod.mk.injEq] at hm
          obtain ⟨rfl, rfl⟩ := hm
          have hsub : ∀ n o, look (del hh st.ob) n = some o → look st.ob n = some o := fun n o ho => (look_del ho).2
          have S' := S.fewer hsub
          have himm : ∀ k, imm G st Lf k → k < w.heap.size → imm G { st with ob := del hh st.ob } Lf k ∧ w.heap[k]? = w.heap[k]? := fun k hk _ => ⟨⟨hk.1, fun n o ho => hk.2 n o (hsub n o ho)⟩, rfl⟩
          obtain ⟨L, h3, h4, h5, h6, h7⟩ := moved_sound cs ys us _ st2 S' (h.imp fun c _ u hu => hu.step himm fun _ _ => rfl) h2
          obtain ⟨hu, _⟩ : u = β hh ∧ ∃ A n c, u = .slice A n c := hc
          have hor : ownRow w e sh.n (ownT w sh) xs (β hh) (Lf hh) := S.obs _ _ hob
          refine ⟨Lf hh ++ L, ⟨u, us, Lf hh, L, rfl, rfl, by rw [hu]; exact hor, h3⟩, h4, fun n o ho => hsub n o (h5 n o ho), ?_, ?_⟩
          · intro b hb
            rcases List.mem_append.1 hb with hb | hb
            · refine ⟨hh, _, hob, ?_, hb⟩
              cases hl : look st2.ob hh with
              | none => rfl
              | some o => have := h5 hh o hl; rw [look_del_same] at this; cases this
            · obtain ⟨h, o, ho, h8, h9⟩ := h6 b hb
              exact ⟨h, o, hsub h o ho, h8, h9⟩
          · refine List.nodup_append.2 ⟨S.nodup _ _ hob, h7, ?_⟩
            rintro b hb b' hb' rfl
            obtain ⟨h, o, ho, h8, h9⟩ := h6 b hb'
            exact S.disj hh _ h o hob (hsub h o ho) (fun e => by rw [← e, look_del_same] at ho; cases ho) b hb h9
        · cases hm
      · cases hm
end
end Go.V

namespace Go.V
open Go.RowKit (Below)
set_option linter.unusedVariables false
set_option linter.unusedSimpArgs false

def SimE (G : Nat → Prop) (w0 : World) (st : St) (a : Act) (w : World) : Prop := ∃ β Lf, Sim G w0 st a w β Lf
theorem new_eq (st : St) (d : Option Tmp) (v : AV) (o : Ob) : st.new d v o = ({ st with ob := put st.nx o st.ob, nx := st.nx + 1 } : St).set d v := by
  cases d with
  | none => rfl
  | some d => simp only [St.new, St.set]; split <;> rfl
theorem wp_value {P : Program} {o : Oper} {a : Act} {w w' : World} {u : Value} {X : Act → World → Prop} {Q : Exit → Act → World → Prop} (h : (execOp a.eval o).run P w = .ok (.value u) w') (hX : X (a.put o.dst u) w') : o.wp P a w X Q := by
  unfold Oper.wp
  rw [h]
  exact hX
theorem wp_skipped {P : Program} {o : Oper} {a : Act} {w w' : World} {X : Act → World → Prop} {Q : Exit → Act → World → Prop} (h : (execOp a.eval o).run P w = .ok .skip w') (hX : X (a.put o.dst undef) w') : o.wp P a w X Q := by
  unfold Oper.wp
  rw [h]
  exact hX
theorem all2_vals {w : World} {ok : Nat → Prop} {β : Nat → Value} {us : List Value} (h : ∀ u ∈ us, u.oneCell' = true) : All2 (VC w ok β) (us.map .v) us := by
  induction us with
  | nil => simp [All2]
  | cons u us ih =>
    refine ⟨?_, ih fun v hv => h v (by simp [hv])⟩
    show rep w ok (.v u) u
    simp only [rep]
    exact ⟨trivial, h u (by simp)⟩
theorem lt_vals (n : Nat) (us : List Value) : ∀ c ∈ us.map C.v, C.lt n c := by
  intro c hc
  obtain ⟨u, _, rfl⟩ := List.mem_map.1 hc
  intro h hh
  simp [C.hs] at hh
theorem cells_of_one {u : Value} (h : u.oneCell' = true) : u.cells = #[u] := by cases u <;> simp_all [Value.oneCell', Value.cells]
theorem cs_VA {w : World} {ok : Nat → Prop} {β : Nat → Value} {v : AV} {u : Value} {cs : List C} (h : VA w ok β v u) (hc : v.cs = some cs) : All2 (VC w ok β) cs u.cells.toList := by
  cases v with
  | c x =>
    simp only [AV.cs, Option.some.injEq] at hc
    subst hc
    have h' : VC w ok β x u := h
    rw [cells_of_one h'.one]
    exact ⟨h', trivial⟩
  | agg fs =>
    simp only [AV.cs, Option.some.injEq] at hc
    subst hc
    obtain ⟨us, rfl, h⟩ := h
    simpa [Value.cells] using h
  | tup xs => simp [AV.cs] at hc
theorem cs_lt {v : AV} {cs : List C} {n : Nat} (h : v.lt n) (hc : v.cs = some cs) : ∀ c ∈ cs, C.lt n c := by
  cases v with
  | c x => simp only [AV.cs, Option.some.injEq] at hc; subst hc; intro y hy; simp at hy; subst hy; exact h
  | agg fs => simp only [AV.cs, Option.some.injEq] at hc; subst hc; exact h
  | tup xs => simp [AV.cs] at hc
theorem all_one {w : World} {ok : Nat → Prop} {β : Nat → Value} {cs : List C} {us : List Value} (h : All2 (VC w ok β) cs us) : ∀ u ∈ us, u.oneCell' = true := by
  induction cs generalizing us with
  | nil => cases us with
    | nil => simp
    | cons u us => simp [All2] at h
  | cons c cs ih => cases us with
    | nil => simp [All2] at h
    | cons u us =>
      intro v hv
      rcases List.mem_cons.1 hv with rfl | hv
      · exact h.1.one
      · exact ih h.2 v hv

section
variable {E : Env} {G : Nat → Prop} {w0 : World} {st : St} {a : Act} {w : World} {β : Nat → Value} {Lf : Nat → List Nat} {R : Type} {r : R} {o : Oper} {call : CallD E} {K : St → Option R} {X : Act → World → Prop} {Q : Exit → Act → World → Prop}

/-- A new variable. -/
theorem new_var (S : Sim G w0 st a w β Lf) (d : Option Tmp) (t : TypeId) {cs : List C} {us : List Value} (h : All2 (VC w (imm G st Lf) β) cs us) (hlt : ∀ c ∈ cs, C.lt st.nx c) :
    SimE G w0 (st.new d (.c (.ptr st.nx 0)) (.var cs)) (a.put d (.pointer (some ⟨w.heap.size, 0, none⟩))) (w.alloc (.cells us.toArray t)) := by
  have S' := S.put_new (ob' := st.ob) (fun _ _ h => h) (w' := w.alloc (.cells us.toArray t)) (o := .var cs) (u := .pointer (some ⟨w.heap.size, 0, none⟩)) (L := [w.heap.size]) (Chg.of_below (Below.alloc1 _ _) _)
    (fun b hb => .inl (by simp at hb; subst hb; simp)) (fun h o ho b hb hm => by simp at hm; have := (S.new h o ho b hb).2; omega) (by simp) hlt
    ⟨w.heap.size, t, us, rfl, rfl, heap_alloc_new w _, h.imp fun c hc u hu => hu.step (fun k hk hlt => ⟨⟨hk, by simp; omega⟩, heap_alloc_old w _ k hlt⟩) fun _ _ => rfl⟩
  rw [new_eq]
  refine ⟨_, _, S'.set d ⟨w.heap.size, upd_same _ _ _, rfl⟩ ?_⟩
  intro h hh
  simp [C.hs] at hh
  subst hh
  exact Nat.lt_succ_self _
theorem eff_alloc (hE : EnvOk E) (S : Sim G w0 st a w β Lf) {t : TypeId} (ho : o.op = .alloc t) (h : eff E call st o K = some r) (hX : ∀ st' a' w', SimE G w0 st' a' w' → K st' = some r → X a' w') : o.wp E.P a w X Q := by
  simp only [eff, ho] at h
  split at h
  · rename_i i hi
    have hT := hE.ty _ _ hi
    obtain ⟨z, hz, hr⟩ := hT.run_zero w
    refine wp_value (u := .pointer (some ⟨w.heap.size, 0, none⟩)) (w' := w.alloc (.cells i.zero.toArray t)) ?_ (hX _ _ _ (new_var S o.dst t (all2_vals hT.zone) (lt_vals _ _)) h)
    have hz' : z.cells = i.zero.toArray := by rw [← hz]
    simp [execOp, ho, Instr.alloc, hr, newVar, newRow, hz']
  · cases h
theorem eff_box (S : Sim G w0 st a w β Lf) {t : TypeId} {x : Operand} (ho : o.op = .box t x) (h : eff E call st o K = some r) (hX : ∀ st' a' w', SimE G w0 st' a' w' → K st' = some r → X a' w') : o.wp E.P a w X Q := by
  simp only [eff, ho] at h
  split at h
  · rename_i c hv
    obtain ⟨hva, hlt⟩ := S.ev hv
    have hvc : VC w (imm G st Lf) β c (a.eval x) := hva
    refine wp_value (u := .pointer (some ⟨w.heap.size, 0, none⟩)) (w' := w.alloc (.cells [a.eval x].toArray t)) ?_ (hX _ _ _ (new_var S o.dst t (cs := [c]) ⟨hvc, trivial⟩ (by intro y hy; simp at hy; subst hy; exact hlt)) h)
    simp [execOp, ho, Instr.box, newVar, newRow, cells_of_one hvc.one]
  · rename_i cs hv
    obtain ⟨hva, hlt⟩ := S.ev hv
    obtain ⟨us, hu, hall⟩ := hva
    refine wp_value (u := .pointer (some ⟨w.heap.size, 0, none⟩)) (w' := w.alloc (.cells us.toArray t)) ?_ (hX _ _ _ (new_var S o.dst t hall hlt) h)
    simp [execOp, ho, Instr.box, newVar, newRow, hu, Value.cells]
  · cases h

/-- A new row of the call's own. -/
theorem new_arr (S : Sim G w0 st a w β Lf) (d : Option Tmp) {ob' : List (Nat × Ob)} (hsub : ∀ n o, look ob' n = some o → look st.ob n = some o) {w' : World} {e : Nat} {sh : Sh} {xs : List (Ty sh)} {u : Value} {L : List Nat} (hC : Chg L w w')
    (hL1 : ∀ b ∈ L, (w.heap.size ≤ b ∧ b < w'.heap.size) ∨ ∃ h o, look st.ob h = some o ∧ look ob' h = none ∧ b ∈ Lf h) (hnd : L.Nodup) (hO : ownRow w' e sh.n (ownT w' sh) xs u L) (hu : ∃ A n c, u = .slice A n c) :
    SimE G w0 (({ st with ob := ob' } : St).new d (.c (.ref st.nx)) (.arr e sh xs)) (a.put d u) w' := by
  have S' := S.put_new (ob' := ob') hsub (w' := w') (o := .arr e sh xs) (u := u) (L := L) hC (fun b hb => (hL1 b hb).imp id fun ⟨h, o, h1, _, h3⟩ => ⟨h, o, h1, h3⟩)
    (fun h o ho b hb hm => by
      rcases hL1 b hm with h1 | ⟨h', o', h1, h2, h3⟩
      · have := (S.new h o (hsub h o ho) b hb).2; omega
      · exact S.disj h o h' o' (hsub h o ho) h1 (fun e => by rw [e, h2] at ho; cases ho) b hb h3) hnd trivial hO
  rw [new_eq]
  refine ⟨_, _, S'.set d ⟨(upd_same _ _ _).symm, hu⟩ ?_⟩
  intro h hh
  simp [C.hs] at hh
  subst hh
  exact Nat.lt_succ_self _
end
end Go.V

namespace Go.V
open Go.RowKit (Below)
set_option linter.unusedVariables false
set_option linter.unusedSimpArgs false

/-! ### Literals -/
theorem foldl_set (cs : Array Value) (off : Nat) (vs : List Value) (k : Nat) (h : off + k + vs.length ≤ cs.size) :
    (vs.zipIdx k).foldl (fun cs (p : Value × Nat) => cs.setIfInBounds (off + p.2) p.1) cs = (cs.toList.take (off + k) ++ vs ++ cs.toList.drop (off + k + vs.length)).toArray := by
  induction vs generalizing cs k with
  | nil => simp
  | cons v vs ih =>
    simp only [List.zipIdx_cons, List.foldl_cons]
    have hs : off + k < cs.toList.length := by simp at h ⊢; omega
    rw [ih _ (k + 1) (by simp at h ⊢; omega)]
    congr 1
    simp only [Array.toList_setIfInBounds]
    rw [List.set_eq_take_append_cons_drop, if_pos hs]
    generalize cs.toList = l at hs
    have hl : (l.take (off + k) ++ [v]).length = off + (k + 1) := by rw [List.length_append, List.length_take]; simp; omega
    have e0 : l.take (off + k) ++ v :: l.drop (off + k + 1) = (l.take (off + k) ++ [v]) ++ l.drop (off + k + 1) := by simp
    have e1 : ((l.take (off + k) ++ [v]) ++ l.drop (off + k + 1)).take (off + (k + 1)) = l.take (off + k) ++ [v] := List.take_left' hl
    have e2 : ((l.take (off + k) ++ [v]) ++ l.drop (off + k + 1)).drop (off + (k + 1)) = l.drop (off + k + 1) := List.drop_left' hl
    have e3 : ((l.take (off + k) ++ [v]) ++ l.drop (off + k + 1)).drop (off + (k + 1) + vs.length) = l.drop (off + k + (vs.length + 1)) := by
      rw [← List.drop_drop, e2, List.drop_drop]
      congr 1
      omega
    rw [e0, e1, e3]
    simp
theorem fill_sound {w : World} {ok : Nat → Prop} {β : Nat → Value} {pl : List (Nat × Nat)} {place : Nat → Option (Nat × Nat)} (hp : ∀ n p, pl[n]? = some p → place n = some p) :
    ∀ (ps : List (Nat × List C)) (qs : List (Nat × Value)) (cells out : List C) (us : List Value), All2 (fun p q => p.1 = q.1 ∧ All2 (VC w ok β) p.2 q.2.cells.toList) ps qs → All2 (VC w ok β) cells us → fillP pl cells ps = some out →
      ∃ vs, Instr.fill place us.toArray qs = some vs.toArray ∧ All2 (VC w ok β) out vs
  | [], qs, cells, out, us, h, hc, hf => by
    cases qs with
    | nil =>
      simp only [fillP, Option.some.injEq] at hf
      subst hf
      exact ⟨us, rfl, hc⟩
    | cons q qs => simp [All2] at h
  | (n, v) :: ps, qs, cells, out, us, h, hc, hf => by
    cases qs with
    | nil => simp [All2] at h
    | cons q qs =>
    obtain ⟨m, x⟩ := q
    obtain ⟨⟨rfl, hv⟩, h⟩ := h
    simp only [fillP] at hf
    split at hf
    · rename_i off sz hpl
      split at hf
      · rename_i h1
        split at hf
        · rename_i h2
          have hl1 := hv.len
          have hl2 := hc.len
          simp only at hv hl1
          have hall : All2 (VC w ok β) (fillAt cells off v) (us.take off ++ x.cells.toList ++ us.drop (off + x.cells.toList.length)) := by
            unfold fillAt
            rw [← hl1]
            exact ((hc.take off).append hv).append (hc.drop _)
          obtain ⟨vs, h3, h4⟩ := fill_sound hp ps qs _ out _ h hall hf
          refine ⟨vs, ?_, h4⟩
          have hxs : x.cells.size = sz := by rw [← Array.length_toList, ← hl1]; exact h1
          have hbd : ¬ (us.length < off + x.cells.size) := by rw [hxs]; omega
          simp only [Instr.fill, hp n _ hpl]
          have hfold := foldl_set us.toArray off x.cells.toList 0 (by simp; omega)
          simp only [Nat.add_zero] at hfold
          have key : x.cells.zipIdx.foldl (fun cs (p : Value × Nat) => cs.setIfInBounds (off + p.2) p.1) us.toArray = (us.toArray.toList.take off ++ x.cells.toList ++ us.toArray.toList.drop (off + x.cells.toList.length)).toArray := by
            rw [← Array.foldl_toList, Array.toList_zipIdx]
            exact hfold
          have hcond : ¬ ((decide (x.cells.size ≠ sz) || decide (off + x.cells.size > us.toArray.size)) = true) := by
            simp [hxs]
            omega
          rw [if_neg hcond]
          show Instr.fill place (x.cells.zipIdx.foldl (fun cs (p : Value × Nat) => cs.setIfInBounds (off + p.2) p.1) us.toArray) qs = _
          rw [key]
          exact h3
        · cases hf
      · cases hf
    · cases hf
section
variable {E : Env} {G : Nat → Prop} {w0 : World} {st : St} {a : Act} {w : World} {β : Nat → Value} {Lf : Nat → List Nat} {R : Type} {r : R} {o : Oper} {call : CallD E} {K : St → Option R} {X : Act → World → Prop} {Q : Exit → Act → World → Prop}
theorem evParts_sound (S : Sim G w0 st a w β Lf) : ∀ (ps : List (Nat × Operand)) (vs : List (Nat × List C)), evParts st ps = some vs →
    All2 (fun p q => p.1 = q.1 ∧ All2 (VC w (imm G st Lf) β) p.2 q.2.cells.toList) vs (ps.map fun (i, x) => (i, a.eval x)) ∧ (∀ p ∈ vs, ∀ c ∈ p.2, C.lt st.nx c)
  | [], vs, h => by
    simp only [evParts, Option.some.injEq] at h
    subst h
    exact ⟨trivial, by simp⟩
  | (n, x) :: ps, vs, h => by
    simp only [evParts] at h
    split at h
    · rename_i v hv
      split at h
      · rename_i cs hcs
        split at h
        · rename_i ws hws
          simp only [Option.some.injEq] at h
          subst h
          obtain ⟨h1, h2⟩ := evParts_sound S ps ws hws
          obtain ⟨h3, h4⟩ := S.ev hv
          refine ⟨⟨⟨rfl, cs_VA h3 hcs⟩, h1⟩, ?_⟩
          intro p hp
          rcases List.mem_cons.1 hp with rfl | hp
          · exact cs_lt h4 hcs
          · exact h2 p hp
        · cases h
      · cases h
    · cases h
theorem fillP_lt {n : Nat} {pl : List (Nat × Nat)} : ∀ (ps : List (Nat × List C)) (cells out : List C), (∀ p ∈ ps, ∀ c ∈ p.2, C.lt n c) → (∀ c ∈ cells, C.lt n c) → fillP pl cells ps = some out → ∀ c ∈ out, C.lt n c
  | [], cells, out, _, hc, h => by
    simp only [fillP, Option.some.injEq] at h
    subst h
    exact hc
  | (m, v) :: ps, cells, out, hp, hc, h => by
    simp only [fillP] at h
    split at h
    · split at h
      · split at h
        · refine fillP_lt ps _ out (fun p hp' => hp p (by simp [hp'])) ?_ h
          intro c hc'
          unfold fillAt at hc'
          simp only [List.mem_append] at hc'
          rcases hc' with (hc' | hc') | hc'
          · exact hc c (List.mem_of_mem_take hc')
          · exact hp (m, v) (by simp) c hc'
          · exact hc c (List.mem_of_mem_drop hc')
        · cases h
      · cases h
    · cases h
theorem places_sound (hE : EnvOk E) : ∀ (fs : List (Nat × Nat)) (pl : List (Nat × Nat)) (fields : List Field), placesOf E fs = some pl → fields.map (fun f => (f.offset, f.type)) = fs → ∀ w : World,
    (fields.mapM fun f => (do pure (f.offset, ← sizeOf f.type) : Sem (Nat × Nat))).run E.P w = .ok pl w
  | [], pl, fields, h, hf, w => by
    simp only [placesOf, Option.some.injEq] at h
    subst h
    have : fields = [] := by simpa using hf
    subst this
    simp
  | (off, t) :: fs, pl, fields, h, hf, w => by
    simp only [placesOf] at h
    split at h
    · rename_i j hj
      split at h
      · rename_i ps hps
        simp only [Option.some.injEq] at h
        subst h
        cases fields with
        | nil => simp at hf
        | cons f fields =>
          simp only [List.map_cons, List.cons.injEq, Prod.mk.injEq] at hf
          obtain ⟨⟨rfl, rfl⟩, hf⟩ := hf
          have ih := places_sound hE fs ps fields hps hf w
          rw [List.mapM_cons]
          simp only [Sem.run_bind, (hE.ty _ _ hj).run_sizeOf, Result.andThen_ok, Sem.run_pure, ih]
      · cases h
    · cases h
theorem build_val (hE : EnvOk E) (S : Sim G w0 st a w β Lf) {t : TypeId} {parts : Array (Nat × Operand)} {i : TyI} {ps : List (Nat × List C)} {fs pl : List (Nat × Nat)} {cs : List C} (ho : o.op = .build t parts) (hi : E.ty t = some i) (hps : evParts st parts.toList = some ps)
    (hk : i.k = .agg fs) (hpl : placesOf E fs = some pl) (hcs : fillP pl (i.zero.map .v) ps = some cs) : ∃ u, (execOp a.eval o).run E.P w = .ok (.value u) w ∧ VA w (imm G st Lf) β (.agg cs) u ∧ (AV.agg cs).lt st.nx := by
  have hT := hE.ty _ _ hi
  obtain ⟨z, hz, hr⟩ := hT.run_zero w
  have hz' : z.cells = i.zero.toArray := by rw [← hz]
  obtain ⟨fields, hu, hf⟩ := hT.struct hk
  obtain ⟨h1, h2⟩ := evParts_sound S _ _ hps
  obtain ⟨vs, h3, h4⟩ := fill_sound (place := (pl.toArray[·]?)) (fun n p hp => by simpa using hp) ps _ _ cs i.zero h1 (all2_vals hT.zone) hcs
  have hm := places_sound hE fs pl fields.toList hpl hf w
  refine ⟨.agg vs.toArray, ?_, ⟨vs, rfl, h4⟩, fillP_lt ps _ cs h2 (lt_vals _ _) hcs⟩
  have hm' : (fields.mapM fun f => (do pure (f.offset, ← sizeOf f.type) : Sem (Nat × Nat))).run E.P w = .ok pl.toArray w := by
    rw [← Array.toArray_toList (xs := fields), List.mapM_toArray, Sem.run_map, hm]
    rfl
  have h3' : Instr.fill (fun x => pl.toArray[x]?) i.zero.toArray (parts.map fun (i, x) => (i, a.eval x)).toList = some vs.toArray := by
    rw [Array.toList_map]; exact h3
  simp only [execOp, ho, Instr.build, Sem.run_bind, hr, Result.andThen_ok, run_underlying hu, hm', hz', h3', Sem.run_pure]
theorem eff_build (hE : EnvOk E) (S : Sim G w0 st a w β Lf) {t : TypeId} {parts : Array (Nat × Operand)} (ho : o.op = .build t parts) (h : eff E call st o K = some r) (hX : ∀ st' a' w', SimE G w0 st' a' w' → K st' = some r → X a' w') : o.wp E.P a w X Q := by
  simp only [eff, ho] at h
  split at h
  · rename_i i ps hi hps
    split at h
    · rename_i fs hk
      split at h
      · rename_i pl hpl
        split at h
        · rename_i cs hcs
          obtain ⟨u, h1, h2, h3⟩ := build_val hE S ho hi hps hk hpl hcs
          exact wp_value h1 (hX _ _ _ ⟨_, _, S.set o.dst h2 h3⟩ h)
        · cases h
      · cases h
    · cases h
  · cases h
end
end Go.V

namespace Go.V
open Go.RowKit (Below)
set_option linter.unusedVariables false
set_option linter.unusedSimpArgs false

theorem ownT_len {w : World} {sh : Sh} {x : Ty sh} {us : List Value} {L : List Nat} (h : ownT w sh x us L) : us.length = sh.n :=
  repT_len _ _ _ (ownT_reads (ok := fun _ => True) sh x us L (fun _ _ => trivial) h)
mutual
theorem ownT_flat {w : World} : (sh : Sh) → (x : Ty sh) → (us : List Value) → (L : List Nat) → sh.flat = true → ownT w sh x us L → L = []
  | .b, x, us, L, _, h => by simp only [ownT] at h; exact h.2
  | .i k, x, us, L, _, h => by simp only [ownT] at h; exact h.2
  | .s, x, us, L, _, h => by simp only [ownT] at h; exact h.2
  | .l e sh, x, us, L, hf, h => by simp [Sh.flat] at hf
  | .a fs, x, us, L, hf, h => by simp only [ownT] at h; exact ownTL_flat fs x us L (by simpa only [Sh.flat] using hf) h
theorem ownTL_flat {w : World} : (fs : List Sh) → (x : TyL fs) → (us : List Value) → (L : List Nat) → Sh.flatL fs = true → ownTL w fs x us L → L = []
  | [], _, us, L, _, h => by simp only [ownTL] at h; exact h.2
  | [f], x, us, L, hf, h => by simp only [ownTL] at h; exact ownT_flat f x us L (by simpa [Sh.flatL] using hf) h
  | f :: g :: r, x, us, L, hf, h => by
    simp only [ownTL] at h
    rw [Sh.flatL, Bool.and_eq_true] at hf
    obtain ⟨vs, ws, L1, L2, rfl, rfl, h1, h2⟩ := h
    rw [ownT_flat f _ _ _ hf.1 h1, ownTL_flat (g :: r) _ _ _ hf.2 h2]
    rfl
end
mutual
theorem own_of_flat {w w' : World} {ok : Nat → Prop} : (sh : Sh) → (x : Ty sh) → (us : List Value) → sh.flat = true → repT w ok sh x us → ownT w' sh x us []
  | .b, x, us, _, h => by simp only [repT] at h; simp only [ownT]; exact ⟨h, trivial⟩
  | .i k, x, us, _, h => by simp only [repT] at h; simp only [ownT]; exact ⟨h, trivial⟩
  | .s, x, us, _, h => by simp only [repT] at h; simp only [ownT]; exact ⟨h, trivial⟩
  | .l e sh, x, us, hf, h => by simp [Sh.flat] at hf
  | .a fs, x, us, hf, h => by simp only [repT] at h; simp only [ownT]; exact ownL_of_flat fs x us (by simpa only [Sh.flat] using hf) h
theorem ownL_of_flat {w w' : World} {ok : Nat → Prop} : (fs : List Sh) → (x : TyL fs) → (us : List Value) → Sh.flatL fs = true → repTL w ok fs x us → ownTL w' fs x us []
  | [], _, us, _, h => by simp only [repTL] at h; simp only [ownTL]; exact ⟨h, trivial⟩
  | [f], x, us, hf, h => by simp only [repTL] at h; simp only [ownTL]; exact own_of_flat f x us (by simpa [Sh.flatL] using hf) h
  | f :: g :: r, x, us, hf, h => by
    simp only [repTL] at h
    rw [Sh.flatL, Bool.and_eq_true] at hf
    obtain ⟨vs, ws, rfl, h1, h2⟩ := h
    simp only [ownTL]
    exact ⟨vs, ws, [], [], rfl, rfl, own_of_flat f _ _ hf.1 h1, ownL_of_flat (g :: r) _ _ hf.2 h2⟩
end
theorem ownT_one {w : World} {sh : Sh} {x : Ty sh} {us : List Value} {L : List Nat} (h : ownT w sh x us L) : ∀ u ∈ us, u.oneCell' = true := by
  have h1 := rep_avs sh x us (ownT_reads (ok := fun _ => True) sh x us L (fun _ _ => trivial) h)
  exact all_one (w := w) (ok := fun _ => True) (β := fun _ => undef) (All2.of_repL h1)
theorem rowO_one {w : World} {sh : Sh} {xs : List (Ty sh)} {us : List Value} {L : List Nat} (h : rowO sh.n (ownT w sh) xs us L) : ∀ u ∈ us.take (xs.length * sh.n), u.oneCell' = true := by
  induction xs generalizing us L with
  | nil => simp
  | cons x xs ih =>
    obtain ⟨L1, L2, rfl, h1, h2⟩ := h
    intro u hu
    have e : (x :: xs).length * sh.n = sh.n + xs.length * sh.n := by simp [Nat.add_mul, Nat.add_comm]
    rw [e, List.take_add] at hu
    rcases List.mem_append.1 hu with hu | hu
    · exact ownT_one h1 u hu
    · exact ih h2 u hu
theorem rowO_world {w w' : World} {sh : Sh} {xs : List (Ty sh)} {us : List Value} {L : List Nat} (h : rowO sh.n (ownT w sh) xs us L) (hk : KeptL L w w') : rowO sh.n (ownT w' sh) xs us L :=
  rowO_imp h fun x vs L1 h1 h2 => ownT_world sh x vs L1 (fun b hb => hk b (h1 b hb)) h2
/-- The cells of a row that is read, one behind the other. -/
theorem rowT_cells {w : World} {ok : Nat → Prop} {sh : Sh} {xs : List (Ty sh)} {u : Value} (h : rowT w ok sh.n (repT w ok sh) xs u) (hf : sh.flat = true) :
    ∃ A c news, u = .slice A xs.length c ∧ news.length = xs.length * sh.n ∧ (0 < xs.length → ∃ ad, A = some ad ∧ ∀ (j : Nat) (v : Value), news[j]? = some v → w.cell? (ad.add j) = some v) ∧ ∀ w', rowO sh.n (ownT w' sh) xs news [] := by
  obtain ⟨A, c, rfl, h1, h2, h3⟩ := h
  by_cases hp : 0 < xs.length
  · obtain ⟨ad, rfl, _, _, h4⟩ := h3 hp
    have key : ∀ m, m ≤ xs.length → ∃ news, news.length = m * sh.n ∧ (∀ (j : Nat) (v : Value), news[j]? = some v → w.cell? (ad.add j) = some v) ∧ ∀ w', rowO sh.n (ownT w' sh) (xs.take m) news [] := by
      intro m
      induction m with
      | zero => exact fun _ => ⟨[], by simp, by simp, fun _ => rfl⟩
      | succ m ih =>
        intro hm
        obtain ⟨news, h5, h6, h7⟩ := ih (by omega)
        obtain ⟨vs, h8, h9⟩ := h4 m xs[m] (List.getElem?_eq_getElem (by omega))
        have hl := repT_len _ _ _ h8
        refine ⟨news ++ vs, by rw [List.length_append, h5, hl, Nat.add_mul, Nat.one_mul], fun j v hv => ?_, fun w' => ?_⟩
        · rcases Nat.lt_or_ge j news.length with hj | hj
          · rw [List.getElem?_append_left hj] at hv; exact h6 j v hv
          · rw [List.getElem?_append_right hj] at hv
            have := h9 _ _ hv
            rwa [h5, Nat.add_sub_cancel' (by omega)] at this
        · rw [List.take_succ_eq_append_getElem (by omega)]
          have h10 : rowO sh.n (ownT w' sh) [xs[m]] vs [] := ⟨[], [], rfl, by rw [List.take_of_length_le (by omega)]; exact own_of_flat sh _ vs hf h8, rfl⟩
          simpa using rowO_append (h7 w') (by rw [h5, List.length_take, Nat.min_eq_left (by omega)]) h10
    obtain ⟨news, h5, h6, h7⟩ := key xs.length (Nat.le_refl _)
    rw [List.take_length] at h7
    exact ⟨_, c, news, rfl, h5, fun _ => ⟨ad, rfl, h6⟩, h7⟩
  · have : xs = [] := List.eq_nil_of_length_eq_zero (by omega)
    subst this
    exact ⟨A, c, [], rfl, by simp, fun h => absurd h hp, fun _ => rfl⟩
/-- .. and of a row of the call's own. -/
theorem ownRow_cells {w : World} {e : Nat} {sh : Sh} {xs : List (Ty sh)} {u : Value} {L : List Nat} (h : ownRow w e sh.n (ownT w sh) xs u L) :
    ∃ A c news L', u = .slice A xs.length c ∧ news.length = xs.length * sh.n ∧ (0 < xs.length → ∃ ad, A = some ad ∧ ∀ (j : Nat) (v : Value), news[j]? = some v → w.cell? (ad.add j) = some v) ∧ rowO sh.n (ownT w sh) xs news L' ∧ (∀ b ∈ L', b ∈ L) ∧ (L.Nodup → L'.Nodup) := by
  rcases h with ⟨rfl, rfl, A, rfl⟩ | ⟨g, cap, cur, L', rfl, h1, h2, h3, h4, rfl, h5⟩
  · exact ⟨A, 0, [], [], rfl, by simp, fun h => by simp at h, rfl, by simp, by simp⟩
  · have hcl : cur.toList.length = cap * sh.n := by rw [Array.length_toList]; exact h4
    have hl : xs.length * sh.n ≤ cur.toList.length := by rw [hcl]; exact Nat.mul_le_mul_right _ h2
    refine ⟨_, cap, cur.toList.take (xs.length * sh.n), L', rfl, by rw [List.length_take]; omega, fun _ => ⟨_, rfl, fun j v hv => ?_⟩, rowO_congr h5 (by rw [List.take_take, Nat.min_self]), fun b hb => List.mem_cons_of_mem _ hb, fun h => (List.nodup_cons.1 h).2⟩
    rw [List.getElem?_take] at hv
    split at hv
    · rw [addr_add, cell_of_row w g _ cur e (0, 0) h1]
      simpa using hv
    · cases hv

/-- append, to a row of the call's own. -/
theorem run_append {P : Program} {t ty e : Nat} {i : TyI} (ht : P.underlying t = some (.slice e)) (hT : TyOk P e i) {w : World} {ys xs : List (Ty i.sh)} {u : Value} {L L2 : List Nat} (hO : ownRow w e i.sh.n (ownT w i.sh) ys u L) (hnd : L.Nodup)
    {A : Option Addr} {c : Nat} {news : List Value} (hn : news.length = xs.length * i.sh.n) (hc : 0 < xs.length → ∃ ad, A = some ad ∧ ∀ (j : Nat) (v : Value), news[j]? = some v → w.cell? (ad.add j) = some v)
    (hR : rowO i.sh.n (ownT w i.sh) xs news L2) (hd : ∀ b ∈ L2, b ∉ L) (hlt : ∀ b ∈ L2, b < w.heap.size) (hltL : ∀ b ∈ L, b < w.heap.size) (hnd2 : L2.Nodup) (hlim : (ys.length + xs.length) * i.by_ ≤ 140737488355328) :
    ∃ v w' L', (Builtin.append_ #[t, t] ty #[u, .slice A xs.length c]).run P w = .ok v w' ∧ Chg L' w w' ∧ ownRow w' e i.sh.n (ownT w' i.sh) (ys ++ xs) v L' ∧ L'.Nodup ∧ (∀ b ∈ L', (w.heap.size ≤ b ∧ b < w'.heap.size) ∨ b ∈ L ∨ b ∈ L2) ∧ ∃ A n c, v = .slice A n c := by
  obtain ⟨inf, d, z, hinf, _, hz, hsz, hby, hzc, _, _⟩ := hT.parts
  have hsn := hT.n
  have hpos := hT.pos
  have hbpos := hT.bpos
  have hsmall : ys.length + xs.length ≤ 140737488355328 := Nat.le_trans (Nat.le_mul_of_pos_right _ hbpos) hlim
  have hzs : z.cells.size = i.sh.n := by rw [← Array.length_toList, hzc, hT.zlen, hsn]
  by_cases hx : xs = []
  · subst hx
    have hv : ∃ A n c, u = .slice A n c ∧ n ≤ c := by
      rcases hO with ⟨_, _, A, rfl⟩ | ⟨g, cap, cur, L', rfl, h1, h2, _⟩
      · exact ⟨A, 0, 0, rfl, Nat.le_refl _⟩
      · exact ⟨_, _, cap, rfl, h2⟩
    obtain ⟨A0, n0, c0, hu, hle⟩ := hv
    refine ⟨u, w, L, ?_, Chg.refl _ _, by simpa using hO, hnd, fun b hb => .inr (.inl hb), A0, n0, c0, hu⟩
    rw [hu]
    cases A0 <;> cases A <;> simp [Builtin.append_, run_underlying ht, sizeOf, typeInfo, hinf, Builtin.lenOf, Builtin.firstCells, loadCells, loadCellsFrom, storeCells, hle]
  · have hxp : 0 < xs.length := List.length_pos_iff.2 hx
    obtain ⟨ad, rfl, hcells⟩ := hc hxp
    have h1c : ∀ v ∈ news, v.oneCell' = true := by
      have := rowO_one hR
      rwa [← hn, List.take_length] at this
    have hnl : news.length = xs.length * inf.size := by rw [hn, hsn, hsz]
    -- a new block
    have grown : ∀ (olds : List Value) (Lo : List Nat) (cap : Nat), olds.length = ys.length * i.sh.n → rowO i.sh.n (ownT w i.sh) ys olds Lo → Lo.Nodup → (∀ b ∈ Lo, b ∈ L) →
        let w' := w.drew.alloc (.cells (olds.toArray ++ news.toArray ++ Builtin.zeroCells z.cells (grownCap w (ys.length + xs.length) cap e - (ys.length + xs.length))) e)
        ∃ L', Chg L' w w' ∧ ownRow w' e i.sh.n (ownT w' i.sh) (ys ++ xs) (.slice (some ⟨w.heap.size, 0, none⟩) (ys.length + xs.length) (grownCap w (ys.length + xs.length) cap e)) L' ∧ L'.Nodup ∧ (∀ b ∈ L', (w.heap.size ≤ b ∧ b < w'.heap.size) ∨ b ∈ L ∨ b ∈ L2) := by
      intro olds Lo cap hol hor hLo hLoL w'
      have hbel : Below w.heap.size w w' := ((Below.refl _ w).drew).alloc (Nat.le_refl _) _
      have hk : KeptL (Lo ++ L2) w w' := fun b hb => hbel.block b ((List.mem_append.1 hb).elim (fun hb => hltL b (hLoL b hb)) (fun hb => hlt b hb))
      have hge := grownCap_ge w (ys.length + xs.length) cap e
      have hcm : grownCap w (ys.length + xs.length) cap e ≤ maxLen := grownCap_le_maxLen w _ cap e (by simp only [maxLen]; omega)
      refine ⟨w.heap.size :: (Lo ++ L2), Chg.of_below hbel _, .inr ⟨w.heap.size, _, _, Lo ++ L2, by simp, heap_alloc_new w.drew _, by simpa using hge, hcm, ?_, rfl, ?_⟩, ?_, ?_⟩
      · simp only [Array.size_append, List.size_toArray, size_zeroCells, hzs, hol, hn, ← Nat.add_mul]
        congr 1
        omega
      · have h3 := rowO_world (rowO_append hor hol hR) hk
        refine rowO_congr h3 ?_
        rw [Array.toList_append, Array.toList_append]
        exact (List.take_append_of_le_length (by simp [hol, hn, Nat.add_mul])).symm
      · refine List.nodup_cons.2 ⟨fun hm => ?_, List.nodup_append.2 ⟨hLo, hnd2, ?_⟩⟩
        · rcases List.mem_append.1 hm with hm | hm
          · have := hltL _ (hLoL _ hm); omega
          · have := hlt _ hm; omega
        · rintro b hb b' hb' rfl
          exact hd b hb' (hLoL b hb)
      · intro b hb
        rcases List.mem_cons.1 hb with rfl | hb
        · exact .inl ⟨Nat.le_refl _, by simp [w']⟩
        · rcases List.mem_append.1 hb with hb | hb
          · exact .inr (.inl (hLoL b hb))
          · exact .inr (.inr hb)
    rcases hO with ⟨rfl, rfl, A0, rfl⟩ | ⟨g, cap, cur, Lo, rfl, hg, hnc, hcm, hcs, rfl, hrow⟩
    · obtain ⟨L', h1, h2, h3, h4⟩ := grown [] [] 0 (by simp) rfl List.nodup_nil (by simp)
      simp only [List.length_nil, Nat.zero_add, Array.empty_append, List.nil_append] at h1 h2 h4
      cases A0 with
      | none =>
        have hr := run_append_nil (P := P) w t ty e inf z ht hinf hz ad xs.length c news hnl hcells hxp (by omega) (by rw [hby]; simp at hlim; omega)
        exact ⟨_, _, L', hr, h1, h2, h3, h4, _, _, _, rfl⟩
      | some b0 =>
        have hr := run_append_grow (P := P) w t ty e inf z ht hinf hz b0 0 0 [] (by simp) (by simp) ad xs.length c news hnl hcells (by omega) (by omega) (by rw [hby]; exact growslice_fits (by omega) (by simpa using hlim))
        simp only [Nat.zero_add, Array.empty_append] at hr
        exact ⟨_, _, L', hr, h1, h2, h3, h4, _, _, _, rfl⟩
    · have hgl : g < w.heap.size := hltL g (by simp)
      have hol : (cur.toList.take (ys.length * i.sh.n)).length = ys.length * i.sh.n := by
        have hcl : cur.toList.length = cap * i.sh.n := by rw [Array.length_toList]; exact hcs
        rw [List.length_take, hcl]
        exact Nat.min_eq_left (Nat.mul_le_mul_right _ hnc)
      have hrow' : rowO i.sh.n (ownT w i.sh) ys (cur.toList.take (ys.length * i.sh.n)) Lo := rowO_congr hrow (by rw [List.take_take, Nat.min_self])
      by_cases hroom : ys.length + xs.length ≤ cap
      · have hfit : ys.length * inf.size + news.length ≤ cur.size := by rw [hnl, hcs, hsz, hsn, ← Nat.add_mul]; exact Nat.mul_le_mul_right _ hroom
        have hr := run_append_room (P := P) w t ty e inf ht hinf g ys.length cap cur hg ad xs.length c news hnl hcells h1c hroom hfit
        have hk : KeptL (Lo ++ L2) w (w.setRow g (cur.toList.take (ys.length * inf.size) ++ news ++ cur.toList.drop (ys.length * inf.size + news.length)).toArray) := by
          intro b hb
          refine setRow_other w g b _ ?_
          rintro rfl
          rcases List.mem_append.1 hb with hb | hb
          · exact (List.nodup_cons.1 hnd).1 hb
          · exact hd b hb (by simp)
        refine ⟨_, _, g :: (Lo ++ L2), hr, ⟨rfl, rfl, rfl, by simp, fun k _ hk => setRow_other w g k _ (by rintro rfl; exact hk (by simp))⟩, .inr ⟨g, cap, _, Lo ++ L2, by simp, setRow_heap w g cur _ e _ hg, by simpa using hroom, hcm, ?_, rfl, ?_⟩, ?_, ?_, _, _, _, rfl⟩
        · simp only [List.size_toArray, List.length_append, List.length_take, List.length_drop, Array.length_toList]
          rw [← hcs]
          omega
        · have h3 := rowO_world (rowO_append hrow' hol hR) hk
          refine rowO_congr h3 ?_
          rw [hsz, ← hsn]
          exact (List.take_append_of_le_length (by rw [List.length_append, List.length_append, hol, hn, Nat.add_mul]; exact Nat.le_refl _)).symm
        · refine List.nodup_cons.2 ⟨fun hm => ?_, List.nodup_append.2 ⟨(List.nodup_cons.1 hnd).2, hnd2, ?_⟩⟩
          · rcases List.mem_append.1 hm with hm | hm
            · exact (List.nodup_cons.1 hnd).1 hm
            · exact hd g hm (by simp)
          · rintro b hb b' hb' rfl
            exact hd b hb' (List.mem_cons_of_mem _ hb)
        · intro b hb
          rcases List.mem_cons.1 hb with rfl | hb
          · exact .inr (.inl (by simp))
          · rcases List.mem_append.1 hb with hb | hb
            · exact .inr (.inl (List.mem_cons_of_mem _ hb))
            · exact .inr (.inr hb)
      · obtain ⟨L', h1, h2, h3, h4⟩ := grown (cur.toList.take (ys.length * i.sh.n)) Lo cap hol hrow' (List.nodup_cons.1 hnd).2 (fun b hb => List.mem_cons_of_mem _ hb)
        have holds : ∀ (j : Nat) (v : Value), (cur.toList.take (ys.length * i.sh.n))[j]? = some v → w.cell? ((⟨g, 0, none⟩ : Addr).add j) = some v := by
          intro j v hv
          rw [List.getElem?_take] at hv
          split at hv
          · rw [addr_add, cell_of_row w g _ cur e (0, 0) hg]; simpa using hv
          · cases hv
        have hr := run_append_grow (P := P) w t ty e inf z ht hinf hz ⟨g, 0, none⟩ ys.length cap (cur.toList.take (ys.length * i.sh.n)) (by rw [hol, hsz, hsn]) holds ad xs.length c news hnl hcells (by omega) (by omega) (by rw [hby]; exact growslice_fits (by omega) hlim)
        exact ⟨_, _, L', hr, h1, h2, h3, h4, _, _, _, rfl⟩
end Go.V

namespace Go.V
open Go.RowKit (Below)
set_option linter.unusedVariables false
set_option linter.unusedSimpArgs false

section
variable {E : Env} {G : Nat → Prop} {w0 : World} {st : St} {a : Act} {w : World} {β : Nat → Value} {Lf : Nat → List Nat} {R : Type} {r : R} {o : Oper} {call : CallD E} {K : St → Option R} {X : Act → World → Prop} {Q : Exit → Act → World → Prop}
theorem appArg_sound (S : Sim G w0 st a w β Lf) {sh : Sh} {x : C} {u : Value} {xs : List (Ty sh)} {st1 : St} (hx : VC w (imm G st Lf) β x u) (h : appArg st sh x = some (xs, st1)) :
    ∃ ob', st1 = { st with ob := ob' } ∧ (∀ n o, look ob' n = some o → look st.ob n = some o) ∧
    ∃ A c news L2, u = .slice A xs.length c ∧ news.length = xs.length * sh.n ∧ (0 < xs.length → ∃ ad, A = some ad ∧ ∀ (j : Nat) (v : Value), news[j]? = some v → w.cell? (ad.add j) = some v) ∧ rowO sh.n (ownT w sh) xs news L2 ∧ L2.Nodup ∧
      (∀ b ∈ L2, ∃ h o, look st.ob h = some o ∧ look ob' h = none ∧ b ∈ Lf h) := by
  unfold appArg at h
  split at h
  rotate_left
  · simp only [Option.some.injEq, Prod.mk.injEq] at h
    obtain ⟨rfl, rfl⟩ := h
    have hr : rep w (imm G st Lf) (.v (.slice none 0 0)) u := hx
    simp only [rep] at hr
    exact ⟨_, rfl, fun _ _ h => h, none, 0, [], [], hr.1, by simp, fun h => by simp at h, rfl, List.nodup_nil, by simp⟩
  ·
    simp only [Option.some.injEq, Prod.mk.injEq] at h
    obtain ⟨rfl, rfl⟩ := h
    have hr : rep w (imm G st Lf) .emp u := hx
    simp only [rep] at hr
    obtain ⟨A, rfl⟩ := hr
    exact ⟨_, rfl, fun _ _ h => h, A, 0, [], [], rfl, by simp, fun h => by simp at h, rfl, List.nodup_nil, by simp⟩
  · rename_i hh
    split at h
    · rename_i e sh1 ys hob
      split at h
      · rename_i zs hz
        simp only [Option.some.injEq, Prod.mk.injEq] at h
        obtain ⟨rfl, rfl⟩ := h
        obtain ⟨e1, e2⟩ := castSh_eq hz
        subst e1
        simp only at e2
        subst e2
        obtain ⟨hu, _⟩ : u = β hh ∧ ∃ A n c, u = .slice A n c := hx
        have hor : ownRow w e sh1.n (ownT w sh1) ys (β hh) (Lf hh) := S.obs _ _ hob
        obtain ⟨A, c, news, L', h1, h2, h3, h4, h5, h6⟩ := ownRow_cells hor
        exact ⟨_, rfl, fun n o ho => (look_del ho).2, A, c, news, L', by rw [hu, h1], h2, h3, h4, h6 (S.nodup _ _ hob), fun b hb => ⟨hh, _, hob, look_del_same _ _, h5 b hb⟩⟩
      · cases h
    · cases h
  · cases h
  · rename_i e sh1 ys
    split at h
    · rename_i hf
      split at h
      · rename_i zs hz
        simp only [Option.some.injEq, Prod.mk.injEq] at h
        obtain ⟨rfl, rfl⟩ := h
        obtain ⟨e1, e2⟩ := castSh_eq hz
        subst e1
        simp only at e2
        subst e2
        have hr : rep w (imm G st Lf) (.l e sh1 ys) u := hx
        simp only [rep] at hr
        obtain ⟨A, c, news, h1, h2, h3, h4⟩ := rowT_cells hr hf
        exact ⟨_, rfl, fun _ _ h => h, A, c, news, [], h1, h2, h3, h4 w, List.nodup_nil, by simp⟩
      · cases h
    · cases h
theorem eff_append (hE : EnvOk E) (S : Sim G w0 st a w β Lf) {args : Array Operand} {tys : Array TypeId} (ho : o.op = .call { callee := .builtin .append, args, argTypes := tys }) (h : eff E call st o K = some r) (hX : ∀ st' a' w', SimE G w0 st' a' w' → K st' = some r → X a' w') : o.wp E.P a w X Q := by
  simp only [eff, ho] at h
  split at h
  · rename_i s x t t' hargs htys
    obtain rfl : args = #[s, x] := by cases args; simp_all
    obtain rfl : tys = #[t, t'] := by cases tys; simp_all
    split at h
    · rename_i s' x' e i hs hx hel
      split at h
      · rename_i htt
        subst htt
        obtain ⟨ht, he⟩ := elemTy_ok hE hel
        split at h
        · cases h
        · rename_i xs st1 happ
          obtain ⟨hsa, hslt⟩ := S.ev hs
          obtain ⟨hxa, hxlt⟩ := S.ev hx
          have hsc : VC w (imm G st Lf) β s' (a.eval s) := hsa
          have hxc : VC w (imm G st Lf) β x' (a.eval x) := hxa
          obtain ⟨ob', rfl, hsub, A, c, news, L2, hu, hn, hcells, hrow, hnd2, hL2⟩ := appArg_sound S hxc happ
          have hlt2 : ∀ b ∈ L2, b < w.heap.size := fun b hb => by
            obtain ⟨h, o, h1, h2, h3⟩ := hL2 b hb
            exact (S.new h o h1 b h3).2
          have hrun : ∀ v w', (Builtin.append_ #[t, t] o.type #[a.eval s, .slice A xs.length c]).run E.P w = .ok v w' → (execOp a.eval o).run E.P w = .ok (.value v) w' := by
            intro v w' hr
            simp [execOp, ho, resolve, invoke, builtin, hu, hr]
          split at h
          · rename_i hh
            split at h
            · rename_i e' sh ys hob
              split at h
              · rename_i hee
                subst hee
                split at h
                · rename_i zs hz
                  split at h
                  · rename_i hlim
                    obtain ⟨e1, e2⟩ := castSh_eq hz
                    subst e1
                    simp only at e2
                    subst e2
                    simp only at hob
                    obtain ⟨hv, hsl⟩ : a.eval s = β hh ∧ ∃ A n c, a.eval s = .slice A n c := hsc
                    have hob0 := hsub _ _ hob
                    have hor : ownRow w e' i.sh.n (ownT w i.sh) ys (β hh) (Lf hh) := S.obs _ _ hob0
                    rw [← hv] at hor
                    obtain ⟨v, w', L', hr, hC, hO, hnd', hL', hsl'⟩ := run_append (ty := o.type) ht he hor (S.nodup _ _ hob0) hn hcells hrow
                      (fun b hb hm => by
                        obtain ⟨h, o, h1, h2, h3⟩ := hL2 b hb
                        exact S.disj h o hh _ h1 hob0 (fun e => by rw [e, hob] at h2; cases h2) b h3 hm) hlt2 (fun b hb => (S.new _ _ hob0 b hb).2) hnd2 hlim
                    refine wp_value (hrun v w' hr) (hX _ _ _ (new_arr S o.dst (ob' := del hh ob') (fun n o ho => hsub n o (look_del ho).2) hC ?_ hnd' hO hsl') h)
                    intro b hb
                    rcases hL' b hb with h1 | h1 | h1
                    · exact .inl h1
                    · exact .inr ⟨hh, _, hob0, look_del_same _ _, h1⟩
                    · obtain ⟨h, o, h2, h3, h4⟩ := hL2 b h1
                      refine .inr ⟨h, o, h2, ?_, h4⟩
                      cases hq : look (del hh ob') h with
                      | none => rfl
                      | some q => rw [(look_del hq).2] at h3; cases h3
                  · cases h
                · cases h
              · cases h
            · cases h
          · split at h
            · rename_i hlim
              have hr0 : rep w (imm G st Lf) (.v (.slice none 0 0)) (a.eval s) := hsc
              simp only [rep] at hr0
              obtain ⟨v, w', L', hr, hC, hO, hnd', hL', hsl'⟩ := run_append (ty := o.type) (ys := []) (u := a.eval s) (L := []) ht he (.inl ⟨rfl, rfl, none, hr0.1⟩) List.nodup_nil hn hcells hrow
                (by simp) hlt2 (by simp) hnd2 (by simpa using hlim)
              refine wp_value (hrun v w' hr) (hX _ _ _ (new_arr S o.dst (ob' := ob') hsub hC ?_ hnd' hO hsl') h)
              intro b hb
              rcases hL' b hb with h1 | h1 | h1
              · exact .inl h1
              · simp at h1
              · exact .inr (hL2 b h1)
            · cases h
          · split at h
            · rename_i hlim
              have hr0 : rep w (imm G st Lf) .emp (a.eval s) := hsc
              simp only [rep] at hr0
              obtain ⟨v, w', L', hr, hC, hO, hnd', hL', hsl'⟩ := run_append (ty := o.type) (ys := []) (u := a.eval s) (L := []) ht he (.inl ⟨rfl, rfl, hr0⟩) List.nodup_nil hn hcells hrow
                (by simp) hlt2 (by simp) hnd2 (by simpa using hlim)
              refine wp_value (hrun v w' hr) (hX _ _ _ (new_arr S o.dst (ob' := ob') hsub hC ?_ hnd' hO hsl') h)
              intro b hb
              rcases hL' b hb with h1 | h1 | h1
              · exact .inl h1
              · simp at h1
              · exact .inr (hL2 b h1)
            · cases h
          · cases h
      · cases h
    · cases h
  · cases h
theorem rowO_replicate {w : World} {sh : Sh} {z : Ty sh} {zs : List Value} (hz : ownT w sh z zs []) : ∀ n, rowO sh.n (ownT w sh) (List.replicate n z) ((List.range n).flatMap fun _ => zs) [] := by
  have hl := ownT_len hz
  intro n
  induction n with
  | zero => rfl
  | succ n ih =>
    have h1 : rowO sh.n (ownT w sh) [z] zs [] := ⟨[], [], rfl, by rw [← hl, List.take_length]; exact hz, rfl⟩
    rw [List.replicate_succ, List.range_succ_eq_map, List.flatMap_cons, List.flatMap_map]
    simpa using rowO_append h1 (by simp [hl]) ih
theorem madeCells_eq (z : List Value) (n : Nat) (hz : 0 < z.length) : (madeCells z.toArray (n * z.length)).toList = (List.range n).flatMap fun _ => z := by
  induction n with
  | zero => simp [madeCells]
  | succ n ih =>
    rw [List.range_succ, List.flatMap_append, ← ih]
    simp only [madeCells, Array.toList_map, Array.toList_range, List.flatMap_cons, List.flatMap_nil, List.append_nil]
    rw [Nat.add_mul, Nat.one_mul, List.range_add, List.map_append]
    congr 1
    apply List.ext_getElem?
    intro k
    simp only [List.getElem?_map, List.map_map]
    rcases Nat.lt_or_ge k z.length with hk | hk
    · rw [List.getElem?_range hk]
      simp [Nat.mod_eq_of_lt hk, hk]
    · rw [List.getElem?_eq_none (by simpa using hk), List.getElem?_eq_none hk]
      rfl
theorem mvL_vals {w : World} (us : List Value) (h : ∀ u ∈ us, u.oneCell' = true) : mvL w (us.map .v) us [] := by
  induction us with
  | nil => exact ⟨rfl, rfl⟩
  | cons u us ih => exact ⟨u, us, [], [], rfl, rfl, ⟨rfl, h u (by simp), rfl⟩, ih fun v hv => h v (by simp [hv])⟩
theorem zero_own {i : TyI} {P : Program} {e : TypeId} (hT : TyOk P e i) {z : Ty i.sh} (h : rd i.sh (i.zero.map .v) = some (z, [])) (w : World) : ownT w i.sh z i.zero [] := by
  obtain ⟨vs, ws, L1, L2, h1, h2, h3, h4⟩ := rd_own (w := w) i.sh _ z [] i.zero [] h (mvL_vals _ hT.zone)
  obtain ⟨rfl, rfl⟩ := h4
  simp at h1 h2
  subst h1 h2
  exact h3
theorem eff_makeSlice (hE : EnvOk E) (S : Sim G w0 st a w β Lf) {t : TypeId} {l c : Operand} (ho : o.op = .makeSlice t l c) (h : eff E call st o K = some r) (hX : ∀ st' a' w', SimE G w0 st' a' w' → K st' = some r → X a' w') : o.wp E.P a w X Q := by
  simp only [eff, ho] at h
  split at h
  · rename_i e i n m hel hn hm
    obtain ⟨ht, he⟩ := elemTy_ok hE hel
    split at h
    · rename_i hnm
      subst hnm
      split at h
      · rename_i h0
        split at h
        · rename_i hlim
          split at h
          · rename_i z hz
            obtain ⟨inf, d, zv, hinf, _, hzv, hsz, hby, hzc, _, _⟩ := he.parts
            have hb := he.bpos
            have hnat : (n.toNat : Int) = n := Int.toNat_of_nonneg h0
            have hn63 : n.toNat ≤ 281474976710656 := Nat.le_trans (Nat.le_mul_of_pos_left _ hb) hlim
            have hb2 : (inf.bytes : Int) * n ≤ 281474976710656 := by
              have h : ((i.by_ * n.toNat : Nat) : Int) ≤ 281474976710656 := by omega
              rw [Int.natCast_mul, hnat] at h
              rw [hby]; exact h
            have hr := run_make (P := E.P) w t e inf zv ht hinf hzv .i64 .i64 n n h0 (Int.le_refl _) hb2 (by omega)
            have hzo := zero_own he hz
            have hzs : zv.cells = i.zero.toArray := by rw [← hzc]
            rw [hzs, hsz, ← he.zlen] at hr
            refine wp_value (u := .slice (some ⟨w.heap.size, 0, none⟩) n.toNat n.toNat) (w' := w.alloc (.cells (madeCells i.zero.toArray (n.toNat * i.zero.length)) e)) ?_ (hX _ _ _ (new_arr S o.dst (ob' := st.ob) (fun _ _ h => h) (L := [w.heap.size]) (Chg.of_below (Below.alloc1 _ _) _) ?_ (by simp) (.inr ⟨w.heap.size, n.toNat, _, [], by simp, heap_alloc_new w _, by simp, by simp only [maxLen]; omega, ?_, rfl, ?_⟩) ⟨_, _, _, rfl⟩) h)
            · simp [execOp, ho, S.int hn, S.int hm, hr]
            · intro b hb
              simp at hb
              subst hb
              exact .inl ⟨Nat.le_refl _, by simp⟩
            · rw [size_madeCells, he.zlen, he.n]
            · rw [madeCells_eq _ _ (by rw [he.zlen]; exact he.pos)]
              exact rowO_replicate (hzo _) _
          · cases h
        · cases h
      · cases h
    · cases h
  · cases h
end
end Go.V

namespace Go.V
open Go.RowKit (Below)
set_option linter.unusedVariables false
set_option linter.unusedSimpArgs false

/-! ### What is written -/
theorem run_storeAt {P : Program} {t : TypeId} {i : TyI} (hT : TyOk P t i) {w : World} {b off : Nat} {us : List Value} {ty : TypeId} (hb : w.heap[b]? = some (.cells us.toArray ty (0, 0))) {v : Value} (h1 : ∀ u ∈ v.cells.toList, u.oneCell' = true)
    (hl : v.cells.toList.length = i.sz) (hf : off + i.sz ≤ us.length) :
    (Instr.storeAt t (.pointer (some ⟨b, off, none⟩)) v).run P w = .ok () (w.setRow b (fillAt us off v.cells.toList).toArray) := by
  have hs := run_storeCells_at P b off ty v.cells.toList 0 us.toArray w hb (by simp only [Nat.add_zero, hl]; simpa using hf) h1
  have hl' : v.cells.size = i.sz := by rw [← hl]; simp
  have hc : ¬ (v.cells.size ≠ i.sz) := by rw [hl']; simp
  simp only [Nat.add_zero] at hs
  simp only [Instr.storeAt, Instr.sureAddr, storeVar, Sem.run_bind, Sem.run_pure, Result.andThen_ok, hT.run_sizeOf, if_neg hc, hs, fillAt]
theorem mvL_append {w : World} {cs ds : List C} {us vs : List Value} {L1 L2 : List Nat} (h1 : mvL w cs us L1) (h2 : mvL w ds vs L2) : mvL w (cs ++ ds) (us ++ vs) (L1 ++ L2) := by
  induction cs generalizing us L1 with
  | nil => obtain ⟨rfl, rfl⟩ := h1; simpa using h2
  | cons c cs ih =>
    obtain ⟨u, ws, La, Lb, rfl, rfl, h3, h4⟩ := h1
    exact ⟨u, ws ++ vs, La, Lb ++ L2, rfl, by simp, h3, ih h4⟩
theorem mvL_len {w : World} {cs : List C} {us : List Value} {L : List Nat} (h : mvL w cs us L) : us.length = cs.length := by
  induction cs generalizing us L with
  | nil => obtain ⟨rfl, rfl⟩ := h; rfl
  | cons c cs ih => obtain ⟨u, ws, La, Lb, rfl, rfl, h3, h4⟩ := h; simp [ih h4]
theorem mvL_take {w : World} {cs : List C} {us : List Value} (n : Nat) (h : mvL w cs us []) : mvL w (cs.take n) (us.take n) [] := by
  induction n generalizing cs us with
  | zero => simp [mvL]
  | succ n ih =>
    cases cs with
    | nil => obtain ⟨rfl, _⟩ := h; simp [mvL]
    | cons c cs =>
      obtain ⟨u, ws, La, Lb, rfl, hL, h3, h4⟩ := h
      simp only [List.nil_eq, List.append_eq_nil_iff] at hL
      obtain ⟨rfl, rfl⟩ := hL
      exact ⟨u, ws.take n, [], [], rfl, rfl, h3, ih h4⟩
theorem mvL_drop {w : World} {cs : List C} {us : List Value} (n : Nat) (h : mvL w cs us []) : mvL w (cs.drop n) (us.drop n) [] := by
  induction n generalizing cs us with
  | zero => simpa using h
  | succ n ih =>
    cases cs with
    | nil => obtain ⟨rfl, _⟩ := h; simp [mvL]
    | cons c cs =>
      obtain ⟨u, ws, La, Lb, rfl, hL, h3, h4⟩ := h
      simp only [List.nil_eq, List.append_eq_nil_iff] at hL
      obtain ⟨rfl, rfl⟩ := hL
      simpa using ih h4
mutual
theorem mv_avs {w : World} : (sh : Sh) → (x : Ty sh) → (us : List Value) → (L : List Nat) → sh.flat = true → ownT w sh x us L → mvL w (avs sh x) us []
  | .b, x, us, L, _, h => by simp only [ownT] at h; rw [h.1]; simp only [avs]; exact ⟨_, [], [], [], rfl, rfl, ⟨rfl, rfl, rfl⟩, rfl, rfl⟩
  | .i k, x, us, L, _, h => by simp only [ownT] at h; rw [h.1]; simp only [avs]; exact ⟨_, [], [], [], rfl, rfl, ⟨rfl, rfl, rfl⟩, rfl, rfl⟩
  | .s, x, us, L, _, h => by simp only [ownT] at h; rw [h.1]; simp only [avs]; exact ⟨_, [], [], [], rfl, rfl, ⟨rfl, rfl, rfl⟩, rfl, rfl⟩
  | .l e sh, x, us, L, hf, h => by simp [Sh.flat] at hf
  | .a fs, x, us, L, hf, h => by simp only [ownT] at h; simp only [avs]; exact mv_avsL fs x us L (by simpa only [Sh.flat] using hf) h
theorem mv_avsL {w : World} : (fs : List Sh) → (x : TyL fs) → (us : List Value) → (L : List Nat) → Sh.flatL fs = true → ownTL w fs x us L → mvL w (avsL fs x) us []
  | [], _, us, L, _, h => by simp only [ownTL] at h; rw [h.1]; simp only [avsL]; exact ⟨rfl, rfl⟩
  | [f], x, us, L, hf, h => by simp only [ownTL] at h; simp only [avsL]; exact mv_avs f x us L (by simpa [Sh.flatL] using hf) h
  | f :: g :: r, x, us, L, hf, h => by
    simp only [ownTL] at h
    rw [Sh.flatL, Bool.and_eq_true] at hf
    obtain ⟨vs, ws, L1, L2, rfl, rfl, h1, h2⟩ := h
    simp only [avsL]
    exact mvL_append (L1 := []) (L2 := []) (mv_avs f _ _ _ hf.1 h1) (mv_avsL (g :: r) _ _ _ hf.2 h2)
end
theorem rd_all {w : World} {sh : Sh} {cs : List C} {x : Ty sh} {us : List Value} {L : List Nat} (h : rd sh cs = some (x, [])) (hm : mvL w cs us L) : ownT w sh x us L := by
  obtain ⟨vs, ws, L1, L2, rfl, rfl, h3, h4⟩ := rd_own sh cs x [] us L h hm
  obtain ⟨rfl, rfl⟩ := h4
  simpa using h3
theorem fill_part {cur us : List Value} {p n j : Nat} {vs : List Value} (hj : j + vs.length ≤ n) (hp : p + n ≤ cur.length) :
    fillAt cur (p + j) vs = cur.take p ++ fillAt ((cur.drop p).take n) j vs ++ cur.drop (p + n) := by
  unfold fillAt
  have e1 : cur.take (p + j) = cur.take p ++ (cur.drop p).take j := List.take_add
  have e2 : ((cur.drop p).take n).take j = (cur.drop p).take j := by rw [List.take_take, Nat.min_eq_left (by omega)]
  have e3 : cur.drop (p + j + vs.length) = ((cur.drop p).take n).drop (j + vs.length) ++ cur.drop (p + n) := by
    rw [List.drop_take, List.drop_drop, ← Nat.add_assoc]
    have : cur.drop (p + n) = (cur.drop (p + j + vs.length)).drop (n - (j + vs.length)) := by
      rw [List.drop_drop]
      congr 1
      omega
    rw [this, List.take_append_drop]
  rw [e1, e2, e3]
  simp

section
variable {E : Env} {G : Nat → Prop} {w0 : World} {st : St} {a : Act} {w : World} {β : Nat → Value} {Lf : Nat → List Nat} {R : Type} {r : R} {o : Oper} {call : CallD E} {K : St → Option R} {X : Act → World → Prop} {Q : Exit → Act → World → Prop}
/-- The parts of a slice literal. -/
theorem movedParts_sound {sh : Sh} {sz : Nat} (hsz : sz = sh.n) : ∀ (ps : List (Nat × List C)) (qs : List (Nat × Value)) (k : Nat) (xs : List (Ty sh)) (st st1 : St), Sim G w0 st a w β Lf →
    All2 (fun p q => p.1 = q.1 ∧ All2 (VC w (imm G st Lf) β) p.2 q.2.cells.toList) ps qs → movedParts sh st ps k = some (xs, st1) →
    ∃ news L, st1 = { st with ob := st1.ob } ∧ (∀ n o, look st1.ob n = some o → look st.ob n = some o) ∧ (∀ b ∈ L, ∃ h o, look st.ob h = some o ∧ look st1.ob h = none ∧ b ∈ Lf h) ∧ L.Nodup ∧
      rowO sh.n (ownT w sh) xs news L ∧ news.length = xs.length * sh.n ∧
      ∀ pre rest : List Value, pre.length = k * sz → rest.length = xs.length * sz → Instr.fill (fun i => some (i * sz, sz)) (pre ++ rest).toArray qs = some (pre ++ news).toArray
  | [], qs, k, xs, st, st1, S, h, hm => by
    simp only [movedParts, Option.some.injEq, Prod.mk.injEq] at hm
    obtain ⟨rfl, rfl⟩ := hm
    cases qs with
    | nil =>
      refine ⟨[], [], rfl, fun _ _ h => h, by simp, List.nodup_nil, rfl, by simp, fun pre rest _ hr => ?_⟩
      have : rest = [] := List.eq_nil_of_length_eq_zero (by simpa using hr)
      subst this
      rfl
    | cons q qs => simp [All2] at h
  | (n, v) :: ps, qs, k, xs, st, st1, S, h, hm => by
    cases qs with
    | nil => simp [All2] at h
    | cons q qs =>
    obtain ⟨m, y⟩ := q
    obtain ⟨⟨hnm, hv⟩, h⟩ := h
    simp only at hnm hv
    subst hnm
    simp only [movedParts] at hm
    split at hm
    · rename_i hnk
      subst hnk
      split at hm
      · cases hm
      · rename_i cs st2 hmv
        split at hm
        · rename_i x hrd
          split at hm
          · cases hm
          · rename_i ys st3 hrest
            simp only [Option.some.injEq, Prod.mk.injEq] at hm
            obtain ⟨rfl, rfl⟩ := hm
            obtain ⟨L1, h1, h2, h3, h4, h5⟩ := moved_sound v cs _ st st2 S hv hmv
            have hown := rd_all hrd h1
            have hlen := ownT_len hown
            have S2 : Sim G w0 { st with ob := st2.ob } a w β Lf := S.fewer h3
            have himm : ∀ k, imm G st Lf k → k < w.heap.size → imm G { st with ob := st2.ob } Lf k ∧ w.heap[k]? = w.heap[k]? := fun k hk _ => ⟨⟨hk.1, fun n o ho => hk.2 n o (h3 n o ho)⟩, rfl⟩
            rw [h2] at hrest
            obtain ⟨news, L2, g1, g2, g3, g4, g5, g6, g7⟩ := movedParts_sound hsz ps qs (n + 1) ys _ st3 S2 (h.imp fun p _ q hq => ⟨hq.1, hq.2.imp fun c _ u hu => hu.step himm fun _ _ => rfl⟩) hrest
            refine ⟨y.cells.toList ++ news, L1 ++ L2, g1, fun n o ho => h3 n o (g2 n o ho), ?_, ?_, ?_, ?_, ?_⟩
            · intro b hb
              rcases List.mem_append.1 hb with hb | hb
              · obtain ⟨h, o, e1, e2, e3⟩ := h4 b hb
                refine ⟨h, o, e1, ?_, e3⟩
                cases hl : look st3.ob h with
                | none => rfl
                | some o' => have := g2 h o' hl; rw [e2] at this; cases this
              · obtain ⟨h, o, e1, e2, e3⟩ := g3 b hb
                exact ⟨h, o, h3 h o e1, e2, e3⟩
            · refine List.nodup_append.2 ⟨h5, g4, ?_⟩
              rintro b hb b' hb' rfl
              obtain ⟨h, o, e1, e2, e3⟩ := h4 b hb
              obtain ⟨h', o', f1, f2, f3⟩ := g3 b hb'
              exact S.disj h o h' o' e1 (h3 h' o' f1) (fun e => by rw [← e, e2] at f1; cases f1) b e3 f3
            · have h6 : rowO sh.n (ownT w sh) [x] y.cells.toList L1 := ⟨L1, [], by simp, by rw [← hlen, List.take_length]; exact hown, rfl⟩
              exact rowO_append h6 (by simp [hlen]) g5
            · simp only [List.length_append, hlen, g6, List.length_cons, Nat.add_mul, Nat.one_mul]
              omega
            · intro pre rest hp hr
              have hr' : rest.length = sz + ys.length * sz := by rw [hr]; simp [Nat.add_mul, Nat.add_comm]
              have hysz : y.cells.size = sz := by rw [hsz, ← hlen]; simp
              have hcond : ¬ ((decide (y.cells.size ≠ sz) || decide (n * sz + y.cells.size > (pre ++ rest).toArray.size)) = true) := by
                simp [hysz, hp]
                omega
              simp only [Instr.fill]
              rw [if_neg hcond]
              have hfold := foldl_set (pre ++ rest).toArray (n * sz) y.cells.toList 0 (by simp [hp, hysz]; omega)
              simp only [Nat.add_zero] at hfold
              have key : y.cells.zipIdx.foldl (fun cs (p : Value × Nat) => cs.setIfInBounds (n * sz + p.2) p.1) (pre ++ rest).toArray = ((pre ++ y.cells.toList) ++ rest.drop sz).toArray := by
                rw [← Array.foldl_toList, Array.toList_zipIdx, hfold]
                congr 1
                have e1 : (pre ++ rest).take (n * sz) = pre := List.take_left' hp
                have e2 : (pre ++ rest).drop (n * sz + y.cells.toList.length) = rest.drop sz := by
                  rw [← List.drop_drop, List.drop_left' hp]
                  simp [hysz]
                rw [e1, e2]
              show Instr.fill (fun i => some (i * sz, sz)) (y.cells.zipIdx.foldl (fun cs (p : Value × Nat) => cs.setIfInBounds (n * sz + p.2) p.1) (pre ++ rest).toArray) qs = _
              rw [key, g7 (pre ++ y.cells.toList) (rest.drop sz) (by simp [hp, hysz, Nat.add_mul]) (by rw [List.length_drop, hr']; omega)]
              simp
        · cases hm
    · cases hm
theorem eff_buildSlice (hE : EnvOk E) (S : Sim G w0 st a w β Lf) {t : TypeId} {n : Nat} {parts : Array (Nat × Operand)} (ho : o.op = .buildSlice t n parts) (h : eff E call st o K = some r) (hX : ∀ st' a' w', SimE G w0 st' a' w' → K st' = some r → X a' w') : o.wp E.P a w X Q := by
  simp only [eff, ho] at h
  split at h
  · rename_i e i ps hel hps
    obtain ⟨ht, he⟩ := elemTy_ok hE hel
    split at h
    · rename_i hlim
      split at h
      · rename_i xs st1 hmv
        split at h
        · rename_i hxn
          subst hxn
          obtain ⟨h1, h2⟩ := evParts_sound S _ _ hps
          obtain ⟨news, L, g1, g2, g3, g4, g5, g6, g7⟩ := movedParts_sound he.n.symm ps _ 0 xs st st1 S h1 hmv
          obtain ⟨inf, d, zv, hinf, _, hzv, hsz, hby, hzc, _, _⟩ := he.parts
          have hzs : zv.cells = i.zero.toArray := by rw [← hzc]
          have hpos := he.pos
          have hrun : (Instr.buildSlice t xs.length (parts.map fun (i, x) => (i, a.eval x))).run E.P w = .ok (.slice (some ⟨w.heap.size, 0, none⟩) xs.length xs.length) (w.alloc (.cells news.toArray e)) := by
            have hlim' : ¬ (xs.length * i.sz > 2 ^ 24) := by simp only [Nat.reducePow]; omega
            have hf : ∀ zero : Array Value, Instr.fill (fun k => some (k * i.sz, i.sz)) ((Array.range (xs.length * i.sz)).map (zero[· % zero.size]!)) (parts.map fun (i, x) => (i, a.eval x)).toList = some news.toArray := by
              intro zero
              have hf := g7 [] ((Array.range (xs.length * i.sz)).map (zero[· % zero.size]!)).toList (by simp) (by simp)
              rw [List.nil_append, Array.toArray_toList, List.nil_append] at hf
              rw [Array.toList_map]
              exact hf
            have hzr : (zeroValue e).run E.P w = .ok zv w := by simp [zeroValue, typeInfo, hinf, hzv]
            simp only [Instr.buildSlice, Sem.run_bind, run_underlying ht, Result.andThen_ok, he.run_sizeOf, if_neg hlim']
            by_cases h0 : xs.length * i.sz = 0
            · rw [if_pos h0]
              simp only [Sem.run_bind, Sem.run_pure, Result.andThen_ok, hf, newRow]
              rfl
            · rw [if_neg h0]
              simp only [Sem.run_bind, Sem.run_pure, Result.andThen_ok, hzr, hf, newRow]
              rfl
          refine wp_value (u := .slice (some ⟨w.heap.size, 0, none⟩) xs.length xs.length) (w' := w.alloc (.cells news.toArray e)) (by simp [execOp, ho, hrun]) ?_
          have S' := new_arr S o.dst (ob' := st1.ob) g2 (e := e) (sh := i.sh) (xs := xs) (L := w.heap.size :: L) (Chg.of_below (Below.alloc1 w (.cells news.toArray e)) _) ?_ ?_ (.inr ⟨w.heap.size, xs.length, news.toArray, L, rfl, heap_alloc_new w _, Nat.le_refl _, ?_, by simp [g6], rfl, ?_⟩) ⟨_, _, _, rfl⟩
          · rw [← g1] at S'
            refine hX _ _ _ S' ?_
            have e1 : st1.nx = st.nx := by rw [g1]
            rw [e1] at h
            exact h
          · intro b hb
            rcases List.mem_cons.1 hb with rfl | hb
            · exact .inl ⟨Nat.le_refl _, by simp⟩
            · exact .inr (g3 b hb)
          · refine List.nodup_cons.2 ⟨fun hm => ?_, g4⟩
            obtain ⟨h, o, e1, _, e3⟩ := g3 _ hm
            have := (S.new h o e1 _ e3).2
            omega
          · have : xs.length ≤ xs.length * i.sz := Nat.le_mul_of_pos_right _ hpos
            simp only [maxLen]; omega
          · refine rowO_world g5 fun b hb => heap_alloc_old w _ b ?_
            obtain ⟨h, o, e1, _, e3⟩ := g3 _ hb
            exact (S.new h o e1 _ e3).2
        · cases h
      · cases h
    · cases h
  · cases h
theorem eff_store (hE : EnvOk E) (S : Sim G w0 st a w β Lf) {t : TypeId} {ad x : Operand} (ho : o.op = .store t ad x) (h : eff E call st o K = some r) (hX : ∀ st' a' w', SimE G w0 st' a' w' → K st' = some r → X a' w') : o.wp E.P a w X Q := by
  simp only [eff, ho] at h
  split at h
  · cases h
  rename_i hsome
  have hd : o.dst = none := by simpa using hsome
  have hput : ∀ u, a.put o.dst u = a := by intro u; rw [hd]; rfl
  split at h
  · rename_i i hh off v hi had hx
    have hT := hE.ty _ _ hi
    split at h
    · rename_i vs hvs
      split at h
      · rename_i cs hob
        split at h
        · rename_i hlen
          split at h
          · rename_i hfit
            obtain ⟨hxa, hxlt⟩ := S.ev hx
            have hal := cs_VA hxa hvs
            have hva : VC w (imm G st Lf) β (.ptr hh off) (a.eval ad) := (S.ev had).1
            obtain ⟨b, hb1, hb2⟩ := hva
            obtain ⟨b', ty, us, hb3, hb4, hb5, hb6⟩ := S.obs _ _ hob
            rw [hb1] at hb3
            injection hb3 with hb3
            injection hb3 with hb3
            injection hb3 with hb3
            subst hb3
            have hul := hb6.len
            have hvl := hal.len
            have hr := run_storeAt hT hb5 (all_one hal) (by rw [← hvl, hlen]) (by rw [← hul]; exact hfit)
            refine wp_skipped (w' := w.setRow b (fillAt us off (a.eval x).cells.toList).toArray) (by simp [execOp, ho, hb2, hr]) ?_
            rw [hput]
            have S' := S.mod (ob' := st.ob) (fun _ _ h => h) (w' := w.setRow b (fillAt us off (a.eval x).cells.toList).toArray) (h := hh) (o := .var (fillAt cs off vs)) (L := [b]) hob (by rw [hb4]; exact Chg.setRow w b _)
              (fun k hk => .inl (by rw [hb4]; exact hk)) (fun h' o ho' hne k hk => by rw [← hb4]; exact S.disj h' o hh _ ho' hob hne k hk) (by simp) ?_
              ⟨b, ty, _, hb1, rfl, setRow_heap w b _ _ ty _ hb5, ?_⟩
            · exact hX _ _ _ ⟨_, _, S'⟩ h
            · intro c hc
              unfold fillAt at hc
              simp only [List.mem_append] at hc
              rcases hc with (hc | hc) | hc
              · exact (S.olt _ _ hob).2 c (List.mem_of_mem_take hc)
              · exact cs_lt hxlt hvs c hc
              · exact (S.olt _ _ hob).2 c (List.mem_of_mem_drop hc)
            · have hstep : ∀ c ∈ cs ++ vs, ∀ u, VC w (imm G st Lf) β c u → VC (w.setRow b (fillAt us off (a.eval x).cells.toList).toArray) (imm G st Lf) β c u := by
                intro c _ u hu
                refine hu.step (fun k hk hlt => ⟨hk, setRow_other w b k _ ?_⟩) fun _ _ => rfl
                rintro rfl
                exact hk.2 _ _ hob (by rw [hb4]; simp)
              have h1 := hb6.imp fun c hc u hu => hstep c (List.mem_append_left _ hc) u hu
              have h2 := hal.imp fun c hc u hu => hstep c (List.mem_append_right _ hc) u hu
              unfold fillAt
              rw [hvl]
              exact ((h1.take off).append h2).append (h1.drop _)
          · cases h
        · cases h
      · cases h
    · cases h
  · rename_i i hh sz n j v hi had hx
    have hT := hE.ty _ _ hi
    split at h
    · rename_i vs hvs
      split at h
      · rename_i ws st1 hmv
        split at h
        · rename_i e sh xs hob
          split at h
          · rename_i y hy
            obtain ⟨hxa, hxlt⟩ := S.ev hx
            have hal := cs_VA hxa hvs
            have hva : VC w (imm G st Lf) β (.el hh sz n j) (a.eval ad) := (S.ev had).1
            obtain ⟨g, ln, cp, hb1, hb2⟩ := hva
            obtain ⟨Lw, m1, m2, m3, m4, m5⟩ := moved_sound vs ws _ st st1 S hal hmv
            have hob0 := m3 _ _ hob
            have hnl : n < xs.length := (List.getElem?_eq_some_iff.1 hy).1
            have hor : ownRow w e sh.n (ownT w sh) xs (β hh) (Lf hh) := S.obs _ _ hob0
            rcases hor with ⟨rfl, _⟩ | ⟨g', cap, cur, L', hg1, hg2, hg3, hg4, hg5, hg6, hg7⟩
            · simp at hnl
            rw [hb1] at hg1
            injection hg1 with hg1 hg1b hg1c
            injection hg1 with hg1
            injection hg1 with hg1
            subst hg1
            have hLw : ∀ b ∈ Lw, b ∉ Lf hh := fun b hb hm => by
              obtain ⟨h, o, e1, e2, e3⟩ := m4 b hb
              exact S.disj h o hh _ e1 hob0 (fun e => by rw [e, hob] at e2; cases e2) b e3 hm
            have hndf := S.nodup _ _ hob0
            have hcl : cur.toList.length = cap * sh.n := by rw [Array.length_toList]; exact hg5
            have hxl : xs.length * sh.n ≤ cur.toList.length := by rw [hcl]; exact Nat.mul_le_mul_right _ hg3
            have hnn : n * sh.n + sh.n ≤ xs.length * sh.n := by rw [← Nat.succ_mul]; exact Nat.mul_le_mul_right _ hnl
            -- the element, written anew
            have finish : ∀ (c : List Value) (z : Ty sh) (Lz : List Nat), c.length = sh.n → (∀ w', KeptL Lz w w' → ownT w' sh z c Lz) → (∀ b ∈ Lz, b ∈ Lw) → Lz.Nodup →
                K { st1 with ob := put hh (.arr e sh (xs.set n z)) st1.ob } = some r → X a (w.setRow g (cur.toList.take (n * sh.n) ++ c ++ cur.toList.drop (n * sh.n + sh.n)).toArray) := by
              intro c z Lz hcn hz hLz hndz hK
              have hk : ∀ L, (∀ b ∈ L, b ∈ L' ∨ b ∈ Lw) → KeptL L w (w.setRow g (cur.toList.take (n * sh.n) ++ c ++ cur.toList.drop (n * sh.n + sh.n)).toArray) := by
                intro L hL b hb
                refine setRow_other w g b _ ?_
                rintro rfl
                rcases hL _ hb with h1 | h1
                · rw [hg6] at hndf; exact (List.nodup_cons.1 hndf).1 h1
                · exact hLw _ h1 (by rw [hg6]; simp)
              have hrow' := rowO_world hg7 (hk L' fun b hb => .inl hb)
              obtain ⟨A, B, D, hABD, hset⟩ := rowO_set n hrow' hxl hnl hcn (hz _ (hk Lz fun b hb => .inr (hLz b hb)))
              have hsub : ∀ b ∈ A ++ Lz ++ D, b ∈ L' ∨ b ∈ Lz := by
                intro b hb
                simp only [List.mem_append] at hb
                rw [hABD]
                simp only [List.mem_append]
                rcases hb with (hb | hb) | hb <;> simp [hb]
              have hndL' : L'.Nodup := by rw [hg6] at hndf; exact (List.nodup_cons.1 hndf).2
              have hgL' : g ∉ L' := by rw [hg6] at hndf; exact (List.nodup_cons.1 hndf).1
              have hgLw : g ∉ Lw := fun hm => hLw _ hm (by rw [hg6]; simp)
              have hgm : g ∈ Lf hh := by rw [hg6]; exact List.mem_cons_self
              have hCh : Chg (Lf hh) w (w.setRow g (cur.toList.take (n * sh.n) ++ c ++ cur.toList.drop (n * sh.n + sh.n)).toArray) :=
                ⟨rfl, rfl, rfl, by simp, fun k _ hk => setRow_other w g k _ (fun e => hk (e ▸ hgm))⟩
              have S' := S.mod (ob' := st1.ob) m3 (w' := w.setRow g (cur.toList.take (n * sh.n) ++ c ++ cur.toList.drop (n * sh.n + sh.n)).toArray) (h := hh) (o := .arr e sh (xs.set n z)) (L := g :: (A ++ Lz ++ D)) hob
                hCh ?_ ?_ ?_ trivial
                (.inr ⟨g, cap, _, A ++ Lz ++ D, by rw [hb1, hg1b, hg1c]; simp, setRow_heap w g cur _ e _ hg2, by simpa using hg3, hg4, ?_, rfl, by simpa using hset⟩)
              · have e1 : st1.nt = st.nt := by rw [m2]
                have e2 : st1.nx = st.nx := by rw [m2]
                have e3 : st1.sl = st.sl := by rw [m2]
                rw [e1, e2, e3] at hK
                exact hX _ _ _ ⟨_, _, S'⟩ hK
              · intro b hb
                rcases List.mem_cons.1 hb with rfl | hb
                · exact .inl (by rw [hg6]; simp)
                · rcases hsub b hb with h1 | h1
                  · exact .inl (by rw [hg6]; exact List.mem_cons_of_mem _ h1)
                  · obtain ⟨h, o, e1, e2, e3⟩ := m4 b (hLz b h1)
                    exact .inr ⟨h, o, e1, (fun e => by rw [e, hob] at e2; cases e2), e3⟩
              · intro h' o' ho' hne b hb hm
                rcases List.mem_cons.1 hm with rfl | hm
                · exact S.disj h' o' hh _ (m3 _ _ ho') hob0 hne _ hb (by rw [hg6]; simp)
                · rcases hsub b hm with h1 | h1
                  · exact S.disj h' o' hh _ (m3 _ _ ho') hob0 hne _ hb (by rw [hg6]; exact List.mem_cons_of_mem _ h1)
                  · obtain ⟨h, o, e1, e2, e3⟩ := m4 b (hLz b h1)
                    exact S.disj h' o' h o (m3 _ _ ho') e1 (fun e => by rw [← e, ho'] at e2; cases e2) _ hb e3
              · refine List.nodup_cons.2 ⟨fun hm => ?_, ?_⟩
                · rcases hsub g hm with h1 | h1
                  · exact hgL' h1
                  · exact hgLw (hLz _ h1)
                · rw [hABD] at hndL'
                  have hAD : (A ++ D).Nodup := by
                    refine List.Nodup.sublist ?_ hndL'
                    simp only [List.append_assoc]
                    exact List.Sublist.append_left (List.sublist_append_right _ _) _
                  have hdis : ∀ b ∈ Lz, b ∉ A ++ D := by
                    intro b hb hm
                    refine hLw b (hLz b hb) ?_
                    rw [hg6, hABD]
                    simp only [List.mem_cons, List.mem_append] at hm ⊢
                    rcases hm with hm | hm <;> simp [hm]
                  rw [List.nodup_append] at hAD ⊢
                  rw [List.nodup_append]
                  obtain ⟨n1, n2, n3⟩ := hAD
                  refine ⟨⟨n1, hndz, ?_⟩, n2, ?_⟩
                  · rintro b hb b' hb' rfl
                    exact hdis b hb' (List.mem_append_left _ hb)
                  · rintro b hb b' hb' rfl
                    rcases List.mem_append.1 hb with hb | hb
                    · exact n3 b hb b hb' rfl
                    · exact hdis b hb (List.mem_append_right _ hb')
              · simp only [List.size_toArray, List.length_append, List.length_take, List.length_drop, hcn]
                rw [← hcl]
                omega
            split at h
            · rename_i hfull
              simp only [Bool.and_eq_true, decide_eq_true_eq] at hfull
              obtain ⟨hs1, hs2⟩ := hfull
              split at h
              · rename_i hj
                subst hj
                split at h
                · rename_i z hrd
                  have hown := rd_all hrd m1
                  have hlen := ownT_len hown
                  have hr := run_storeAt hT (off := n * sh.n) (us := cur.toList) (by simpa using hg2) (all_one hal) (by rw [hlen, hs2]) (by rw [hs2]; omega)
                  refine wp_skipped (by
                    show (execOp a.eval o).run E.P w = .ok .skip _
                    simp only [execOp, ho, hb2, hs1, Nat.add_zero, Sem.run_bind, hr, Result.andThen_ok, Sem.run_pure]
                    rfl) ?_
                  rw [hput]
                  have := finish _ z Lw hlen (fun w' hk => ownT_world sh z _ Lw hk hown) (fun _ h => h) m5 h
                  unfold fillAt
                  rw [hlen]
                  exact this
                · cases h
              · cases h
            · split at h
              · rename_i hfl
                simp only [Bool.and_eq_true, decide_eq_true_eq] at hfl
                obtain ⟨hs1, hflat⟩ := hfl
                split at h
                · rename_i hwl
                  split at h
                  · rename_i hjf
                    split at h
                    · rename_i z hrd
                      obtain ⟨Ly, _, hy1⟩ := rowO_at hg7 n y hy
                      have hmy := mv_avs sh y _ Ly hflat hy1
                      have hml := mvL_len m1
                      have hmfill : mvL w (fillAt (avs sh y) j ws) (fillAt ((cur.toList.drop (n * sh.n)).take sh.n) j (a.eval x).cells.toList) ([] ++ Lw ++ []) := by
                        unfold fillAt
                        rw [hml]
                        exact mvL_append (mvL_append (mvL_take _ hmy) m1) (mvL_drop _ hmy)
                      have hown := rd_all hrd hmfill
                      have hLn := ownT_flat sh z _ _ hflat hown
                      rw [hLn] at hown
                      have hlen := ownT_len hown
                      have hr := run_storeAt hT (off := n * sh.n + j) (us := cur.toList) (by simpa using hg2) (all_one hal) (by rw [hml, hwl]) (by omega)
                      refine wp_skipped (by
                        show (execOp a.eval o).run E.P w = .ok .skip _
                        simp only [execOp, ho, hb2, hs1, Sem.run_bind, hr, Result.andThen_ok, Sem.run_pure]
                        rfl) ?_
                      rw [hput]
                      have := finish _ z [] hlen (fun w' hk => ownT_world sh z _ [] hk hown) (by simp) List.nodup_nil h
                      rw [fill_part (us := []) (by rw [hml, hwl]; exact hjf) (by omega)]
                      exact this
                    · cases h
                  · cases h
                · cases h
              · cases h
          · cases h
        · cases h
      · cases h
    · cases h
  · cases h
end
end Go.V

namespace Go.V
open Go.RowKit (Below)
set_option linter.unusedVariables false
set_option linter.unusedSimpArgs false

/-! ### Calls -/
/-- Results: each a value of its shape. -/
def resO (w : World) : (fs : List Sh) → TyL fs → List Value → List Nat → Prop
  | [], _, us, L => us = [] ∧ L = []
  | [f], x, us, L => ∃ cs, us = [valOf f.agg cs] ∧ ownT w f x cs L
  | f :: g :: r, x, us, L => ∃ cs vs L1 L2, us = valOf f.agg cs :: vs ∧ L = L1 ++ L2 ∧ ownT w f x.1 cs L1 ∧ resO w (g :: r) x.2 vs L2
def resR (w : World) (ok : Nat → Prop) : (fs : List Sh) → TyL fs → List Value → Prop
  | [], _, us => us = []
  | [f], x, us => ∃ cs, us = [valOf f.agg cs] ∧ repT w ok f x cs
  | f :: g :: r, x, us => ∃ cs vs, us = valOf f.agg cs :: vs ∧ repT w ok f x.1 cs ∧ resR w ok (g :: r) x.2 vs
def RV (us : List Value) (v : Value) : Prop := match us with
  | [u] => v = u
  | us => v = .tuple us.toArray
def ResOk (G : Nat → Prop) (w w' : World) (r : RSh) (p : RTy r) (v : Value) : Prop :=
  ∃ us, RV us v ∧ if r.own then ∃ L, resO w' r.shs p us L ∧ L.Nodup ∧ ∀ b ∈ L, w.heap.size ≤ b ∧ b < w'.heap.size else resR w' (fun k => k < w.heap.size → G k) r.shs p us
def Enterable (P : Program) (f : Nat) : Prop := ∃ fn, P.funcs[f]? = some fn ∧ fn.name ≠ "runtime.NumGoroutine" ∧ fn.body.isNone = false
/-- What is told of a function is so. -/
def Sound1 (E : Env) (f : Nat) (g : List AV → Option (RTy (E.rs f))) : Prop :=
  ∀ xs p, g xs = some p → Enterable E.P f ∧ ∀ (G : Nat → Prop) (w : World) (us : List Value), (∀ x ∈ xs, AV.lt 0 x) → All2 (VA w G fun _ => undef) xs us →
    Calls E.P f us.toArray w fun e w' => ∃ v, e = .returned v ∧ Below w.heap.size w w' ∧ ResOk G w w' (E.rs f) p v
def CallOk (E : Env) (call : CallD E) : Prop := ∀ f, Sound1 E f (call f)

/-- A new object's cell. -/
def VS (β : Nat → Value) : C → Value → Prop
  | .ref h, u => u = β h ∧ ∃ A n c, u = .slice A n c
  | .v x, u => u = x ∧ x.oneCell' = true
  | _, _ => False
theorem VS.vc {w : World} {ok : Nat → Prop} {β : Nat → Value} {c : C} {u : Value} (h : VS β c u) : VC w ok β c u := by
  cases c <;> simp only [VS] at h
  case v x => show rep w ok (.v x) u; simpa only [rep] using h
  case ref => exact h
theorem VS.up {β β' : Nat → Value} {c : C} {u : Value} {n : Nat} (h : VS β c u) (hn : c.lt n) (hβ : ∀ h, h < n → β' h = β h) : VS β' c u := by
  cases c <;> simp only [VS] at h ⊢
  case v x => exact h
  case ref m => rw [hβ m (hn m (by simp [C.hs]))]; exact h
theorem ownRow_slice {α : Type} {w : World} {e n : Nat} {R : α → List Value → List Nat → Prop} {xs : List α} {u : Value} {L : List Nat} (h : ownRow w e n R xs u L) : ∃ A n c, u = .slice A n c := by
  rcases h with ⟨_, _, A, rfl⟩ | ⟨g, cap, cur, L', rfl, _⟩
  · exact ⟨A, 0, 0, rfl⟩
  · exact ⟨_, _, _, rfl⟩
theorem putAll_append {α : Type} : ∀ (xs ys l : List (Nat × α)), putAll (xs ++ ys) l = putAll ys (putAll xs l)
  | [], _, _ => rfl
  | (k, v) :: r, ys, l => putAll_append r ys (put k v l)
theorem valOf_cells {b : Bool} {cs : List Value} (h : b = false → cs.length = 1) : b = false → cs = [valOf b cs] := by
  intro hb
  subst hb
  match cs, h rfl with
  | [c], _ => rfl

section
variable {E : Env} {G : Nat → Prop} {w0 : World} {st : St} {a : Act} {w : World} {β : Nat → Value} {Lf : Nat → List Nat} {R : Type} {r : R} {o : Oper} {call : CallD E} {K : St → Option R} {X : Act → World → Prop} {Q : Exit → Act → World → Prop}
/-- Nothing that is there leads to these blocks. -/
structure Free (G : Nat → Prop) (st : St) (a : Act) (w : World) (β : Nat → Value) (Lf : Nat → List Nat) (L : List Nat) : Prop where
  sl : ∀ t v, look st.sl t = some v → VA w (fun k => imm G st Lf k ∧ k ∉ L) β v (a.tmps.getD t undef)
  ob : ∀ h o, look st.ob h = some o → OB w (fun k => imm G st Lf k ∧ k ∉ L) β o (β h) (Lf h)
  dj : ∀ h o, look st.ob h = some o → ∀ b ∈ Lf h, b ∉ L
theorem Sim.add_free (S : Sim G w0 st a w β Lf) {L1 L2 : List Nat} (F : Free G st a w β Lf (L1 ++ L2)) {e : Nat} {sh : Sh} {xs : List (Ty sh)} {u : Value} (hn : ∀ b ∈ L1, w0.heap.size ≤ b ∧ b < w.heap.size) (hnd : (L1 ++ L2).Nodup)
    (hO : ownRow w e sh.n (ownT w sh) xs u L1) :
    Sim G w0 { st with ob := put st.nx (.arr e sh xs) st.ob, nx := st.nx + 1 } a w (upd β st.nx u) (upd Lf st.nx L1) ∧ Free G { st with ob := put st.nx (.arr e sh xs) st.ob, nx := st.nx + 1 } a w (upd β st.nx u) (upd Lf st.nx L1) L2 := by
  have hnd' := List.nodup_append.1 hnd
  have himm1 : ∀ k, (imm G st Lf k ∧ k ∉ L1 ++ L2) → k < w.heap.size → (imm G st Lf k ∧ k ∉ L1) ∧ w.heap[k]? = w.heap[k]? := fun k hk _ => ⟨⟨hk.1, fun hm => hk.2 (List.mem_append_left _ hm)⟩, rfl⟩
  have key : ∀ h o', look (put st.nx (.arr e sh xs) st.ob) h = some o' → (h = st.nx ∧ o' = .arr e sh xs) ∨ (h < st.nx ∧ look st.ob h = some o') := by
    intro h o' ho
    by_cases e1 : h = st.nx
    · subst e1
      rw [look_put_same] at ho
      exact .inl ⟨rfl, (Option.some.inj ho).symm⟩
    · rw [look_put_ne _ _ e1] at ho
      exact .inr ⟨(S.olt h o' ho).1, ho⟩
  have himm2 : ∀ k, (imm G st Lf k ∧ k ∉ L1 ++ L2) → k < w.heap.size → (imm G { st with ob := put st.nx (.arr e sh xs) st.ob, nx := st.nx + 1 } (upd Lf st.nx L1) k ∧ k ∉ L2) ∧ w.heap[k]? = w.heap[k]? := by
    intro k hk _
    refine ⟨⟨⟨hk.1.1, fun h o' ho => ?_⟩, fun hm => hk.2 (List.mem_append_right _ hm)⟩, rfl⟩
    rcases key h o' ho with ⟨rfl, rfl⟩ | ⟨hl, ho⟩
    · rw [upd_same]; exact fun hm => hk.2 (List.mem_append_left _ hm)
    · rw [upd_lt _ _ hl]; exact hk.1.2 h o' ho
  have hβ : ∀ h, h < st.nx → upd β st.nx u h = β h := fun h hh => upd_lt _ _ hh
  refine ⟨S.add hn (fun h o ho b hb hm => F.dj h o ho b hb (List.mem_append_left _ hm)) hnd'.1 trivial (fun t v ht => (F.sl t v ht).step (S.slt t v ht) himm1 fun _ _ => rfl)
    (fun h o ho => (F.ob h o ho).step (S.olt h o ho).2 himm1 (fun _ _ => rfl) fun _ _ => rfl) hO, ?_, ?_, ?_⟩
  · exact fun t v ht => (F.sl t v ht).step (S.slt t v ht) himm2 hβ
  · intro h o' ho
    rcases key h o' ho with ⟨rfl, rfl⟩ | ⟨hl, ho⟩
    · rw [upd_same, upd_same]; exact hO
    · rw [upd_lt _ _ hl, upd_lt _ _ hl]; exact (F.ob h o' ho).step (S.olt h o' ho).2 himm2 (fun _ _ => rfl) hβ
  · intro h o' ho b hb
    rcases key h o' ho with ⟨rfl, rfl⟩ | ⟨hl, ho⟩
    · rw [upd_same] at hb; exact fun hm => hnd'.2.2 b hb b hm rfl
    · rw [upd_lt _ _ hl] at hb; exact fun hm => F.dj h o' ho b hb (List.mem_append_right _ hm)
/-- What is had after objects have been added. -/
def Added (G : Nat → Prop) (w0 : World) (st : St) (a : Act) (w : World) (β : Nat → Value) (cs : List C) (os : List (Nat × Ob)) (n : Nat) (us : List Value) (L2 : List Nat) : Prop :=
  ∃ β' Lf', Sim G w0 { st with ob := putAll os st.ob, nx := n } a w β' Lf' ∧ Free G { st with ob := putAll os st.ob, nx := n } a w β' Lf' L2 ∧ All2 (VS β') cs us ∧ (∀ c ∈ cs, C.lt n c) ∧ (∀ h, h < st.nx → β' h = β h) ∧ st.nx ≤ n
theorem Free.less {L1 L2 : List Nat} (F : Free G st a w β Lf L1) (S : Sim G w0 st a w β Lf) (h : ∀ b ∈ L2, b ∈ L1) : Free G st a w β Lf L2 := by
  have himm : ∀ k, (imm G st Lf k ∧ k ∉ L1) → k < w.heap.size → (imm G st Lf k ∧ k ∉ L2) ∧ w.heap[k]? = w.heap[k]? := fun k hk _ => ⟨⟨hk.1, fun hm => hk.2 (h k hm)⟩, rfl⟩
  exact ⟨fun t v ht => (F.sl t v ht).step (S.slt t v ht) himm fun _ _ => rfl, fun h o ho => (F.ob h o ho).step (S.olt h o ho).2 himm (fun _ _ => rfl) fun _ _ => rfl, fun h' o ho b hb hm => F.dj h' o ho b hb (h b hm)⟩
theorem added_none {L2 : List Nat} (S : Sim G w0 st a w β Lf) (F : Free G st a w β Lf L2) {cs : List C} {us : List Value} (h : All2 (VS β) cs us) (hl : ∀ c ∈ cs, C.lt st.nx c) : Added G w0 st a w β cs [] st.nx us L2 :=
  ⟨β, Lf, S, F, h, hl, fun _ _ => rfl, Nat.le_refl _⟩
theorem lt_v' (n : Nat) (x : Value) : C.lt n (.v x) := by intro h hh; simp [C.hs] at hh
theorem C.lt_up {c : C} {n m : Nat} (h : c.lt n) (hm : n ≤ m) : c.lt m := fun x hx => Nat.lt_of_lt_of_le (h x hx) hm
mutual
theorem oavs_sound : (sh : Sh) → (x : Ty sh) → (us : List Value) → (L1 L2 : List Nat) → (st : St) → (β : Nat → Value) → (Lf : Nat → List Nat) → Sim G w0 st a w β Lf → Free G st a w β Lf (L1 ++ L2) → (L1 ++ L2).Nodup → (∀ b ∈ L1, w0.heap.size ≤ b ∧ b < w.heap.size) →
    ownT w sh x us L1 → Added G w0 st a w β (oavs sh x st.nx).1 (oavs sh x st.nx).2.1 (oavs sh x st.nx).2.2 us L2
  | .b, x, us, L1, L2, st, β, Lf, S, F, hnd, hn, h => by
    simp only [ownT] at h
    obtain ⟨rfl, rfl⟩ := h
    exact added_none S F ⟨⟨rfl, rfl⟩, trivial⟩ (by simp [oavs, lt_v'])
  | .i k, x, us, L1, L2, st, β, Lf, S, F, hnd, hn, h => by
    simp only [ownT] at h
    obtain ⟨rfl, rfl⟩ := h
    exact added_none S F ⟨⟨rfl, rfl⟩, trivial⟩ (by simp [oavs, lt_v'])
  | .s, x, us, L1, L2, st, β, Lf, S, F, hnd, hn, h => by
    simp only [ownT] at h
    obtain ⟨rfl, rfl⟩ := h
    exact added_none S F ⟨⟨rfl, rfl⟩, trivial⟩ (by simp [oavs, lt_v'])
  | .l e sh, x, us, L1, L2, st, β, Lf, S, F, hnd, hn, h => by
    simp only [ownT] at h
    obtain ⟨u, rfl, h⟩ := h
    obtain ⟨S', F'⟩ := S.add_free F hn hnd h
    refine ⟨_, _, S', F', ⟨⟨(upd_same _ _ _).symm, ownRow_slice h⟩, trivial⟩, ?_, fun h hh => upd_lt _ _ hh, Nat.le_succ _⟩
    intro c hc
    simp only [oavs, List.mem_singleton] at hc
    subst hc
    intro h hh
    simp [C.hs] at hh
    subst hh
    exact Nat.lt_succ_self _
  | .a fs, x, us, L1, L2, st, β, Lf, S, F, hnd, hn, h => by
    simp only [ownT] at h
    simp only [oavs]
    exact oavsL_sound fs x us L1 L2 st β Lf S F hnd hn h
theorem oavsL_sound : (fs : List Sh) → (x : TyL fs) → (us : List Value) → (L1 L2 : List Nat) → (st : St) → (β : Nat → Value) → (Lf : Nat → List Nat) → Sim G w0 st a w β Lf → Free G st a w β Lf (L1 ++ L2) → (L1 ++ L2).Nodup → (∀ b ∈ L1, w0.heap.size ≤ b ∧ b < w.heap.size) →
    ownTL w fs x us L1 → Added G w0 st a w β (oavsL fs x st.nx).1 (oavsL fs x st.nx).2.1 (oavsL fs x st.nx).2.2 us L2
  | [], x, us, L1, L2, st, β, Lf, S, F, hnd, hn, h => by
    simp only [ownTL] at h
    obtain ⟨rfl, rfl⟩ := h
    exact added_none S F trivial (by simp [oavsL])
  | [f], x, us, L1, L2, st, β, Lf, S, F, hnd, hn, h => by
    simp only [ownTL] at h
    simp only [oavsL]
    exact oavs_sound f x us L1 L2 st β Lf S F hnd hn h
  | f :: g :: r, x, us, L1, L2, st, β, Lf, S, F, hnd, hn, h => by
    simp only [ownTL] at h
    obtain ⟨vs, ws, La, Lb, rfl, rfl, h1, h2⟩ := h
    rw [List.append_assoc] at F hnd
    obtain ⟨β1, Lf1, S1, F1, g1, g2, g3, g4⟩ := oavs_sound f x.1 vs La (Lb ++ L2) st β Lf S F hnd (fun b hb => hn b (List.mem_append_left _ hb)) h1
    obtain ⟨β2, Lf2, S2, F2, k1, k2, k3, k4⟩ := oavsL_sound (g :: r) x.2 ws Lb L2 _ β1 Lf1 S1 F1 (List.nodup_append.1 hnd).2.1 (fun b hb => hn b (List.mem_append_right _ hb)) h2
    simp only [oavsL]
    simp only at S2 F2 k1 k2 k3 k4
    refine ⟨β2, Lf2, ?_, ?_, (g1.imp fun c hc u hu => hu.up (g2 c hc) k3).append k1, ?_, fun h hh => (k3 h (Nat.lt_of_lt_of_le hh g4)).trans (g3 h hh), Nat.le_trans g4 k4⟩
    · rw [putAll_append]; exact S2
    · rw [putAll_append]; exact F2
    · intro c hc
      rcases List.mem_append.1 hc with hc | hc
      · exact C.lt_up (g2 c hc) k4
      · exact k2 c hc
end
end
end Go.V
