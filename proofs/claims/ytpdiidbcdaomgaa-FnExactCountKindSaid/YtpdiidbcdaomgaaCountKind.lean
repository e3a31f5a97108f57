/- 'laws.FnExactCountKind' returns true for every input: its functions' equations, the plain law, the row. No condition. -/
import Derived.Test.YtpdiidbcdaomgaaV3
import Derived.Test.YtpdiidbcdaomgaaRows
import Derived.Test.YtpdiidbcdaomgaaChecked
import Derived.KernelRfl
namespace Go.Proofs.Ytpdiidbcdaomgaa.CountKind
open Go Go.V Go.Proofs
set_option linter.unusedVariables false
set_option maxRecDepth 100000
set_option maxHeartbeats 4000000
abbrev s40 : Sh := (.a [(.i .i64), (.i .i64), (.i .i64), (.i .i64)])
abbrev s44 : Sh := (.a [(.i .i64), (.i .i64), s40, s40])
noncomputable def ty : Nat → Option TyI
  | 3 => some ⟨.one, 1, 8, [(.int .i64 0)], (.i .i64)⟩
  | 4 => some ⟨.one, 1, 1, [(.bool false)], .b⟩
  | 29 => some ⟨.slc 49, 1, 24, [(.slice none 0 0)], (.l 49 s44)⟩
  | 32 => some ⟨.slc 44, 1, 24, [(.slice none 0 0)], (.l 44 s44)⟩
  | 40 => some ⟨.agg [(0, 3), (1, 3), (2, 3), (3, 3)], 4, 32, [(.int .i64 0), (.int .i64 0), (.int .i64 0), (.int .i64 0)], s40⟩
  | 42 => some ⟨.agg [(0, 3), (1, 3), (2, 3), (3, 3)], 4, 32, [(.int .i64 0), (.int .i64 0), (.int .i64 0), (.int .i64 0)], s40⟩
  | 44 => some ⟨.agg [(0, 3), (1, 3), (2, 40), (6, 42)], 10, 80, [(.int .i64 0), (.int .i64 0), (.int .i64 0), (.int .i64 0), (.int .i64 0), (.int .i64 0), (.int .i64 0), (.int .i64 0), (.int .i64 0), (.int .i64 0)], s44⟩
  | 46 => some ⟨.agg [(0, 3), (1, 3), (2, 3), (3, 3)], 4, 32, [(.int .i64 0), (.int .i64 0), (.int .i64 0), (.int .i64 0)], s40⟩
  | 47 => some ⟨.agg [(0, 3), (1, 3), (2, 3), (3, 3)], 4, 32, [(.int .i64 0), (.int .i64 0), (.int .i64 0), (.int .i64 0)], s40⟩
  | 49 => some ⟨.agg [(0, 3), (1, 3), (2, 46), (6, 47)], 10, 80, [(.int .i64 0), (.int .i64 0), (.int .i64 0), (.int .i64 0), (.int .i64 0), (.int .i64 0), (.int .i64 0), (.int .i64 0), (.int .i64 0), (.int .i64 0)], s44⟩
  | _ => none
noncomputable def fn : Nat → Option Func
  | 5 => some Try.f5
  | 13 => some Try.f13
  | 14 => some Try.f14
  | 15 => some Try.f15
  | 16 => some Try.f16
  | 17 => some Try.f17
  | 20 => some Try.f20
  | 21 => some Try.f21
  | 23 => some Try.f23
  | 24 => some Try.f24
  | 25 => some Try.f25
  | 26 => some Try.f26
  | _ => none
def lv : Nat → List Nat
  | 14 => [0, 1, 5, 6]
  | 15 => [0, 3, 4]
  | 16 => [1, 5, 8, 9, 10]
  | 17 => [0, 1, 5]
  | _ => []
def rs : Nat → RSh
  | 5 => ⟨false, [.b]⟩
  | 13 => ⟨false, [(.i .i64)]⟩
  | 14 => ⟨false, [(.i .i64)]⟩
  | 15 => ⟨true, [(.l 44 s44)]⟩
  | 16 => ⟨false, [(.i .i64)]⟩
  | 17 => ⟨false, [.b]⟩
  | 20 => ⟨false, [s44]⟩
  | 21 => ⟨false, [.b]⟩
  | 23 => ⟨false, [s40]⟩
  | 24 => ⟨false, [s40]⟩
  | 25 => ⟨false, [.b]⟩
  | 26 => ⟨false, [.b]⟩
  | _ => ⟨false, []⟩
noncomputable def E : Env := { P := Try.prog, fn := fn, ty := ty, lv := lv, rs := rs, ext := fun _ => none }
/-! loop.example/g00599/laws.szEventS -/
noncomputable def F13 (k : Nat) (a0 : List (Int × Int × (Int × Int × Int × Int) × Int × Int × Int × Int)) (a1 : Int) : Option (Int) := den E k 13 [.c (.l 49 s44 a0), .c (.v (.int .i64 a1))]
theorem e13 (k : Nat) (a0 : List (Int × Int × (Int × Int × Int × Int) × Int × Int × Int × Int)) (a1 : Int) : F13 (k + 1) a0 a1 = if (decide ((IntKind.i64.wrap (a1 - (a0.length : Int))) < 0)) = true then some (-1) else some (IntKind.i64.wrap (a1 - (a0.length : Int))) := by kernel_rfl
/-! loop.example/g00599/spec.CountKind -/
noncomputable def F14 (k : Nat) (a0 : List (Int × Int × (Int × Int × Int × Int) × Int × Int × Int × Int)) (a1 : Int) : Option (Int) := den E k 14 [.c (.l 44 s44 a0), .c (.v (.int .i64 a1))]
abbrev V14_0 : Type := (List (Int × Int × (Int × Int × Int × Int) × Int × Int × Int × Int)) × Int × Int × Int
def St14_0 (v0 : V14_0) : St := ⟨23, 0, [(0, .c (.l 44 s44 v0.1)), (1, .c (.v (.int .i64 v0.2.1))), (5, .c (.v (.int .i64 v0.2.2.1))), (6, .c (.v (.int .i64 v0.2.2.2)))], []⟩
noncomputable def B14_0 {R : Type} (k : Nat) (X0 : ((List (Int × Int × (Int × Int × Int × Int) × Int × Int × Int × Int)) × Int × Int × Int) → Option R) (rec : V14_0 → Option R) (v0 : V14_0) : Option R := if (decide (v0.2.2.2 < (v0.1.length : Int))) = true then if 0 ≤ v0.2.2.2 then ix v0.1 v0.2.2.2.toNat fun x1 => if (x1.1 == v0.2.1) = true then rec (v0.1, v0.2.1, (IntKind.i64.wrap (v0.2.2.1 + 1)), (IntKind.i64.wrap (v0.2.2.2 + 1))) else rec (v0.1, v0.2.1, v0.2.2.1, (IntKind.i64.wrap (v0.2.2.2 + 1))) else none else X0 v0
noncomputable def L14_0 {R : Type} (k : Nat) (X0 : ((List (Int × Int × (Int × Int × Int × Int) × Int × Int × Int × Int)) × Int × Int × Int) → Option R) : Nat → V14_0 → Option R
  | 0, _ => none
  | n + 1, v => B14_0 k X0 (L14_0 k X0 n) v
theorem b14_0 {R : Type} (k n : Nat) (K : Ex → St → Option R) (v : V14_0) : loopRun [0, 1, 5, 6] (run E (den E k) (lv 14) k (nthLoop Try.f14 0)) (n + 1) (St14_0 v) K = B14_0 k (fun (v0 : (List (Int × Int × (Int × Int × Int × Int) × Int × Int × Int × Int)) × Int × Int × Int) => K (.exit 0) ⟨23, 0, [(0, .c (.l 44 s44 v0.1)), (1, .c (.v (.int .i64 v0.2.1))), (5, .c (.v (.int .i64 v0.2.2.1))), (6, .c (.v (.int .i64 v0.2.2.2))), (7, .c (.v (.int .i64 v0.2.2.2))), (8, .c (.l 44 s44 v0.1)), (9, .c (.v (.int .i64 (v0.1.length : Int)))), (10, .c (.v (.bool (decide (v0.2.2.2 < (v0.1.length : Int))))))], []⟩) (fun v => loopRun [0, 1, 5, 6] (run E (den E k) (lv 14) k (nthLoop Try.f14 0)) n (St14_0 v) K) v := by kernel_rfl
theorem l14_0 {R : Type} (k : Nat) (K : Ex → St → Option R) : ∀ (n : Nat) (v : V14_0), loopRun [0, 1, 5, 6] (run E (den E k) (lv 14) k (nthLoop Try.f14 0)) n (St14_0 v) K = L14_0 k (fun (v0 : (List (Int × Int × (Int × Int × Int × Int) × Int × Int × Int × Int)) × Int × Int × Int) => K (.exit 0) ⟨23, 0, [(0, .c (.l 44 s44 v0.1)), (1, .c (.v (.int .i64 v0.2.1))), (5, .c (.v (.int .i64 v0.2.2.1))), (6, .c (.v (.int .i64 v0.2.2.2))), (7, .c (.v (.int .i64 v0.2.2.2))), (8, .c (.l 44 s44 v0.1)), (9, .c (.v (.int .i64 (v0.1.length : Int)))), (10, .c (.v (.bool (decide (v0.2.2.2 < (v0.1.length : Int))))))], []⟩) n v
  | 0, _ => rfl
  | n + 1, v => (b14_0 k n K v).trans (congrArg (fun r => B14_0 k (fun (v0 : (List (Int × Int × (Int × Int × Int × Int) × Int × Int × Int × Int)) × Int × Int × Int) => K (.exit 0) ⟨23, 0, [(0, .c (.l 44 s44 v0.1)), (1, .c (.v (.int .i64 v0.2.1))), (5, .c (.v (.int .i64 v0.2.2.1))), (6, .c (.v (.int .i64 v0.2.2.2))), (7, .c (.v (.int .i64 v0.2.2.2))), (8, .c (.l 44 s44 v0.1)), (9, .c (.v (.int .i64 (v0.1.length : Int)))), (10, .c (.v (.bool (decide (v0.2.2.2 < (v0.1.length : Int))))))], []⟩) r v) (funext fun v => l14_0 k K n v))
theorem m14 (k : Nat) (a0 : List (Int × Int × (Int × Int × Int × Int) × Int × Int × Int × Int)) (a1 : Int) : F14 (k + 1) a0 a1 = loopRun [0, 1, 5, 6] (run E (den E k) (lv 14) k (nthLoop Try.f14 0)) k (St14_0 (a0, a1, 0, 0)) (kontAt E (den E k) (lv 14) k (bodyOf Try.f14) 0 [] (finish E (rs 14) Try.f14)) := by kernel_rfl
theorem e14 (k : Nat) (a0 : List (Int × Int × (Int × Int × Int × Int) × Int × Int × Int × Int)) (a1 : Int) : F14 (k + 1) a0 a1 = L14_0 k (fun (v0 : (List (Int × Int × (Int × Int × Int × Int) × Int × Int × Int × Int)) × Int × Int × Int) => some v0.2.2.1) k (a0, a1, 0, 0) := by
  rw [m14]
  simp only [l14_0]
  kernel_rfl
/-! loop.example/g00599/laws.toFlow -/
noncomputable def F23 (k : Nat) (a0 : Int × Int × Int × Int) : Option (Int × Int × Int × Int) := den E k 23 [.agg [.v (.int .i64 a0.1), .v (.int .i64 a0.2.1), .v (.int .i64 a0.2.2.1), .v (.int .i64 a0.2.2.2)]]
theorem e23 (k : Nat) (a0 : Int × Int × Int × Int) : F23 (k + 1) a0 = some a0 := by kernel_rfl
/-! loop.example/g00599/laws.toFault -/
noncomputable def F24 (k : Nat) (a0 : Int × Int × Int × Int) : Option (Int × Int × Int × Int) := den E k 24 [.agg [.v (.int .i64 a0.1), .v (.int .i64 a0.2.1), .v (.int .i64 a0.2.2.1), .v (.int .i64 a0.2.2.2)]]
theorem e24 (k : Nat) (a0 : Int × Int × Int × Int) : F24 (k + 1) a0 = some a0 := by kernel_rfl
/-! loop.example/g00599/laws.toEvent -/
noncomputable def F20 (k : Nat) (a0 : Int × Int × (Int × Int × Int × Int) × Int × Int × Int × Int) : Option (Int × Int × (Int × Int × Int × Int) × Int × Int × Int × Int) := den E k 20 [.agg [.v (.int .i64 a0.1), .v (.int .i64 a0.2.1), .v (.int .i64 a0.2.2.1.1), .v (.int .i64 a0.2.2.1.2.1), .v (.int .i64 a0.2.2.1.2.2.1), .v (.int .i64 a0.2.2.1.2.2.2), .v (.int .i64 a0.2.2.2.1), .v (.int .i64 a0.2.2.2.2.1), .v (.int .i64 a0.2.2.2.2.2.1), .v (.int .i64 a0.2.2.2.2.2.2)]]
theorem e20 (k : Nat) (a0 : Int × Int × (Int × Int × Int × Int) × Int × Int × Int × Int) : F20 (k + 1) a0 = (F23 k a0.2.2.1).bind fun p1 => (F24 k a0.2.2.2).bind fun p2 => some (a0.1, a0.2.1, p1, p2) := by kernel_rfl
/-! loop.example/g00599/laws.toEventS -/
noncomputable def F15 (k : Nat) (a0 : List (Int × Int × (Int × Int × Int × Int) × Int × Int × Int × Int)) : Option (List (Int × Int × (Int × Int × Int × Int) × Int × Int × Int × Int)) := den E k 15 [.c (.l 49 s44 a0)]
abbrev V15_0 : Type := (List (Int × Int × (Int × Int × Int × Int) × Int × Int × Int × Int)) × Int × (List (Int × Int × (Int × Int × Int × Int) × Int × Int × Int × Int))
def St15_0 (v0 : V15_0) : St := ⟨23, 1, [(0, .c (.l 49 s44 v0.1)), (3, .c (.ref 0)), (4, .c (.v (.int .i64 v0.2.1)))], [(0, .arr 44 s44 v0.2.2)]⟩
noncomputable def B15_0 {R : Type} (k : Nat) (X0 : ((List (Int × Int × (Int × Int × Int × Int) × Int × Int × Int × Int)) × Int × (List (Int × Int × (Int × Int × Int × Int) × Int × Int × Int × Int))) → Option R) (rec : V15_0 → Option R) (v0 : V15_0) : Option R := if (decide (v0.2.1 < (v0.1.length : Int))) = true then if 0 ≤ v0.2.1 then ix v0.1 v0.2.1.toNat fun x1 => (F20 k x1).bind fun p2 => if 0 ≤ v0.2.1 then if v0.2.1 < (v0.2.2.length : Int) then ix v0.2.2 v0.2.1.toNat fun y3 => rec (v0.1, (IntKind.i64.wrap (v0.2.1 + 1)), (v0.2.2.set v0.2.1.toNat p2)) else none else none else none else X0 v0
noncomputable def L15_0 {R : Type} (k : Nat) (X0 : ((List (Int × Int × (Int × Int × Int × Int) × Int × Int × Int × Int)) × Int × (List (Int × Int × (Int × Int × Int × Int) × Int × Int × Int × Int))) → Option R) : Nat → V15_0 → Option R
  | 0, _ => none
  | n + 1, v => B15_0 k X0 (L15_0 k X0 n) v
theorem b15_0 {R : Type} (k n : Nat) (K : Ex → St → Option R) (v : V15_0) : loopRun [0, 3, 4] (run E (den E k) (lv 15) k (nthLoop Try.f15 0)) (n + 1) (St15_0 v) K = B15_0 k (fun (v0 : (List (Int × Int × (Int × Int × Int × Int) × Int × Int × Int × Int)) × Int × (List (Int × Int × (Int × Int × Int × Int) × Int × Int × Int × Int))) => K (.exit 0) ⟨23, 1, [(0, .c (.l 49 s44 v0.1)), (3, .c (.ref 0)), (4, .c (.v (.int .i64 v0.2.1))), (8, .c (.v (.int .i64 v0.2.1))), (9, .c (.l 49 s44 v0.1)), (10, .c (.v (.int .i64 (v0.1.length : Int)))), (11, .c (.v (.bool (decide (v0.2.1 < (v0.1.length : Int))))))], [(0, .arr 44 s44 v0.2.2)]⟩) (fun v => loopRun [0, 3, 4] (run E (den E k) (lv 15) k (nthLoop Try.f15 0)) n (St15_0 v) K) v := by kernel_rfl
theorem l15_0 {R : Type} (k : Nat) (K : Ex → St → Option R) : ∀ (n : Nat) (v : V15_0), loopRun [0, 3, 4] (run E (den E k) (lv 15) k (nthLoop Try.f15 0)) n (St15_0 v) K = L15_0 k (fun (v0 : (List (Int × Int × (Int × Int × Int × Int) × Int × Int × Int × Int)) × Int × (List (Int × Int × (Int × Int × Int × Int) × Int × Int × Int × Int))) => K (.exit 0) ⟨23, 1, [(0, .c (.l 49 s44 v0.1)), (3, .c (.ref 0)), (4, .c (.v (.int .i64 v0.2.1))), (8, .c (.v (.int .i64 v0.2.1))), (9, .c (.l 49 s44 v0.1)), (10, .c (.v (.int .i64 (v0.1.length : Int)))), (11, .c (.v (.bool (decide (v0.2.1 < (v0.1.length : Int))))))], [(0, .arr 44 s44 v0.2.2)]⟩) n v
  | 0, _ => rfl
  | n + 1, v => (b15_0 k n K v).trans (congrArg (fun r => B15_0 k (fun (v0 : (List (Int × Int × (Int × Int × Int × Int) × Int × Int × Int × Int)) × Int × (List (Int × Int × (Int × Int × Int × Int) × Int × Int × Int × Int))) => K (.exit 0) ⟨23, 1, [(0, .c (.l 49 s44 v0.1)), (3, .c (.ref 0)), (4, .c (.v (.int .i64 v0.2.1))), (8, .c (.v (.int .i64 v0.2.1))), (9, .c (.l 49 s44 v0.1)), (10, .c (.v (.int .i64 (v0.1.length : Int)))), (11, .c (.v (.bool (decide (v0.2.1 < (v0.1.length : Int))))))], [(0, .arr 44 s44 v0.2.2)]⟩) r v) (funext fun v => l15_0 k K n v))
theorem m15 (k : Nat) (a0 : List (Int × Int × (Int × Int × Int × Int) × Int × Int × Int × Int)) : F15 (k + 1) a0 = if (a0.length : Int) = (a0.length : Int) then if 0 ≤ (a0.length : Int) then if 80 * (a0.length : Int).toNat ≤ 281474976710656 then loopRun [0, 3, 4] (run E (den E k) (lv 15) k (nthLoop Try.f15 0)) k (St15_0 (a0, 0, (List.replicate (a0.length : Int).toNat ((0, 0, (0, 0, 0, 0), (0, 0, 0, 0)) : Int × Int × (Int × Int × Int × Int) × Int × Int × Int × Int)))) (kontAt E (den E k) (lv 15) k (bodyOf Try.f15) 0 [] (finish E (rs 15) Try.f15)) else none else none else none := by kernel_rfl
theorem e15 (k : Nat) (a0 : List (Int × Int × (Int × Int × Int × Int) × Int × Int × Int × Int)) : F15 (k + 1) a0 = if (a0.length : Int) = (a0.length : Int) then if 0 ≤ (a0.length : Int) then if 80 * (a0.length : Int).toNat ≤ 281474976710656 then L15_0 k (fun (v0 : (List (Int × Int × (Int × Int × Int × Int) × Int × Int × Int × Int)) × Int × (List (Int × Int × (Int × Int × Int × Int) × Int × Int × Int × Int))) => some v0.2.2) k (a0, 0, (List.replicate (a0.length : Int).toNat ((0, 0, (0, 0, 0, 0), (0, 0, 0, 0)) : Int × Int × (Int × Int × Int × Int) × Int × Int × Int × Int))) else none else none else none := by
  rw [m15]
  simp only [l15_0]
  kernel_rfl
/-! loop.example/g00599/impl.CountKind -/
noncomputable def F16 (k : Nat) (a0 : List (Int × Int × (Int × Int × Int × Int) × Int × Int × Int × Int)) (a1 : Int) : Option (Int) := den E k 16 [.c (.l 44 s44 a0), .c (.v (.int .i64 a1))]
abbrev V16_0 : Type := Int × Int × (List (Int × Int × (Int × Int × Int × Int) × Int × Int × Int × Int)) × Int × Int
def St16_0 (v0 : V16_0) : St := ⟨22, 0, [(1, .c (.v (.int .i64 v0.1))), (5, .c (.v (.int .i64 v0.2.1))), (8, .c (.l 44 s44 v0.2.2.1)), (9, .c (.v (.int .i64 v0.2.2.2.1))), (10, .c (.v (.int .i64 v0.2.2.2.2)))], []⟩
noncomputable def B16_0 {R : Type} (k : Nat) (X0 : (Int × Int × (List (Int × Int × (Int × Int × Int × Int) × Int × Int × Int × Int)) × Int × Int) → Option R) (rec : V16_0 → Option R) (v0 : V16_0) : Option R := if (decide (v0.2.2.2.2 < v0.2.2.2.1)) = true then if 0 ≤ v0.2.2.2.2 then ix v0.2.2.1 v0.2.2.2.2.toNat fun x1 => if (x1.1 == v0.1) = true then rec (v0.1, (IntKind.i64.wrap (v0.2.1 + 1)), v0.2.2.1, v0.2.2.2.1, (IntKind.i64.wrap (v0.2.2.2.2 + 1))) else rec (v0.1, v0.2.1, v0.2.2.1, v0.2.2.2.1, (IntKind.i64.wrap (v0.2.2.2.2 + 1))) else none else X0 v0
noncomputable def L16_0 {R : Type} (k : Nat) (X0 : (Int × Int × (List (Int × Int × (Int × Int × Int × Int) × Int × Int × Int × Int)) × Int × Int) → Option R) : Nat → V16_0 → Option R
  | 0, _ => none
  | n + 1, v => B16_0 k X0 (L16_0 k X0 n) v
theorem b16_0 {R : Type} (k n : Nat) (K : Ex → St → Option R) (v : V16_0) : loopRun [1, 5, 8, 9, 10] (run E (den E k) (lv 16) k (nthLoop Try.f16 0)) (n + 1) (St16_0 v) K = B16_0 k (fun (v0 : Int × Int × (List (Int × Int × (Int × Int × Int × Int) × Int × Int × Int × Int)) × Int × Int) => K (.exit 0) ⟨22, 0, [(1, .c (.v (.int .i64 v0.1))), (5, .c (.v (.int .i64 v0.2.1))), (8, .c (.l 44 s44 v0.2.2.1)), (9, .c (.v (.int .i64 v0.2.2.2.1))), (10, .c (.v (.int .i64 v0.2.2.2.2))), (11, .c (.v (.bool (decide (v0.2.2.2.2 < v0.2.2.2.1)))))], []⟩) (fun v => loopRun [1, 5, 8, 9, 10] (run E (den E k) (lv 16) k (nthLoop Try.f16 0)) n (St16_0 v) K) v := by kernel_rfl
theorem l16_0 {R : Type} (k : Nat) (K : Ex → St → Option R) : ∀ (n : Nat) (v : V16_0), loopRun [1, 5, 8, 9, 10] (run E (den E k) (lv 16) k (nthLoop Try.f16 0)) n (St16_0 v) K = L16_0 k (fun (v0 : Int × Int × (List (Int × Int × (Int × Int × Int × Int) × Int × Int × Int × Int)) × Int × Int) => K (.exit 0) ⟨22, 0, [(1, .c (.v (.int .i64 v0.1))), (5, .c (.v (.int .i64 v0.2.1))), (8, .c (.l 44 s44 v0.2.2.1)), (9, .c (.v (.int .i64 v0.2.2.2.1))), (10, .c (.v (.int .i64 v0.2.2.2.2))), (11, .c (.v (.bool (decide (v0.2.2.2.2 < v0.2.2.2.1)))))], []⟩) n v
  | 0, _ => rfl
  | n + 1, v => (b16_0 k n K v).trans (congrArg (fun r => B16_0 k (fun (v0 : Int × Int × (List (Int × Int × (Int × Int × Int × Int) × Int × Int × Int × Int)) × Int × Int) => K (.exit 0) ⟨22, 0, [(1, .c (.v (.int .i64 v0.1))), (5, .c (.v (.int .i64 v0.2.1))), (8, .c (.l 44 s44 v0.2.2.1)), (9, .c (.v (.int .i64 v0.2.2.2.1))), (10, .c (.v (.int .i64 v0.2.2.2.2))), (11, .c (.v (.bool (decide (v0.2.2.2.2 < v0.2.2.2.1)))))], []⟩) r v) (funext fun v => l16_0 k K n v))
theorem m16 (k : Nat) (a0 : List (Int × Int × (Int × Int × Int × Int) × Int × Int × Int × Int)) (a1 : Int) : F16 (k + 1) a0 a1 = loopRun [1, 5, 8, 9, 10] (run E (den E k) (lv 16) k (nthLoop Try.f16 0)) k (St16_0 (a1, 0, a0, (a0.length : Int), 0)) (kontAt E (den E k) (lv 16) k (bodyOf Try.f16) 0 [] (finish E (rs 16) Try.f16)) := by kernel_rfl
theorem e16 (k : Nat) (a0 : List (Int × Int × (Int × Int × Int × Int) × Int × Int × Int × Int)) (a1 : Int) : F16 (k + 1) a0 a1 = L16_0 k (fun (v0 : Int × Int × (List (Int × Int × (Int × Int × Int × Int) × Int × Int × Int × Int)) × Int × Int) => some v0.2.1) k (a1, 0, a0, (a0.length : Int), 0) := by
  rw [m16]
  simp only [l16_0]
  kernel_rfl
/-! loop.example/g00599/laws.eqFlow -/
noncomputable def F25 (k : Nat) (a0 : Int × Int × Int × Int) (a1 : Int × Int × Int × Int) : Option (Bool) := den E k 25 [.agg [.v (.int .i64 a0.1), .v (.int .i64 a0.2.1), .v (.int .i64 a0.2.2.1), .v (.int .i64 a0.2.2.2)], .agg [.v (.int .i64 a1.1), .v (.int .i64 a1.2.1), .v (.int .i64 a1.2.2.1), .v (.int .i64 a1.2.2.2)]]
theorem e25 (k : Nat) (a0 : Int × Int × Int × Int) (a1 : Int × Int × Int × Int) : F25 (k + 1) a0 a1 = if (a0.1 != a1.1) = true then some false else if (a0.2.1 != a1.2.1) = true then some false else if (a0.2.2.1 != a1.2.2.1) = true then some false else if (a0.2.2.2 != a1.2.2.2) = true then some false else some true := by kernel_rfl
/-! loop.example/g00599/laws.eqFault -/
noncomputable def F26 (k : Nat) (a0 : Int × Int × Int × Int) (a1 : Int × Int × Int × Int) : Option (Bool) := den E k 26 [.agg [.v (.int .i64 a0.1), .v (.int .i64 a0.2.1), .v (.int .i64 a0.2.2.1), .v (.int .i64 a0.2.2.2)], .agg [.v (.int .i64 a1.1), .v (.int .i64 a1.2.1), .v (.int .i64 a1.2.2.1), .v (.int .i64 a1.2.2.2)]]
theorem e26 (k : Nat) (a0 : Int × Int × Int × Int) (a1 : Int × Int × Int × Int) : F26 (k + 1) a0 a1 = if (a0.1 != a1.1) = true then some false else if (a0.2.1 != a1.2.1) = true then some false else if (a0.2.2.1 != a1.2.2.1) = true then some false else if (a0.2.2.2 != a1.2.2.2) = true then some false else some true := by kernel_rfl
/-! loop.example/g00599/laws.eqEvent -/
noncomputable def F21 (k : Nat) (a0 : Int × Int × (Int × Int × Int × Int) × Int × Int × Int × Int) (a1 : Int × Int × (Int × Int × Int × Int) × Int × Int × Int × Int) : Option (Bool) := den E k 21 [.agg [.v (.int .i64 a0.1), .v (.int .i64 a0.2.1), .v (.int .i64 a0.2.2.1.1), .v (.int .i64 a0.2.2.1.2.1), .v (.int .i64 a0.2.2.1.2.2.1), .v (.int .i64 a0.2.2.1.2.2.2), .v (.int .i64 a0.2.2.2.1), .v (.int .i64 a0.2.2.2.2.1), .v (.int .i64 a0.2.2.2.2.2.1), .v (.int .i64 a0.2.2.2.2.2.2)], .agg [.v (.int .i64 a1.1), .v (.int .i64 a1.2.1), .v (.int .i64 a1.2.2.1.1), .v (.int .i64 a1.2.2.1.2.1), .v (.int .i64 a1.2.2.1.2.2.1), .v (.int .i64 a1.2.2.1.2.2.2), .v (.int .i64 a1.2.2.2.1), .v (.int .i64 a1.2.2.2.2.1), .v (.int .i64 a1.2.2.2.2.2.1), .v (.int .i64 a1.2.2.2.2.2.2)]]
theorem e21 (k : Nat) (a0 : Int × Int × (Int × Int × Int × Int) × Int × Int × Int × Int) (a1 : Int × Int × (Int × Int × Int × Int) × Int × Int × Int × Int) : F21 (k + 1) a0 a1 = if (a0.1 != a1.1) = true then some false else if (a0.2.1 != a1.2.1) = true then some false else (F25 k a0.2.2.1 a1.2.2.1).bind fun p1 => if (!p1) = true then some false else (F26 k a0.2.2.2 a1.2.2.2).bind fun p2 => if (!p2) = true then some false else some true := by kernel_rfl
/-! loop.example/g00599/laws.eqEventS -/
noncomputable def F17 (k : Nat) (a0 : List (Int × Int × (Int × Int × Int × Int) × Int × Int × Int × Int)) (a1 : List (Int × Int × (Int × Int × Int × Int) × Int × Int × Int × Int)) : Option (Bool) := den E k 17 [.c (.l 44 s44 a0), .c (.l 44 s44 a1)]
abbrev V17_0 : Type := (List (Int × Int × (Int × Int × Int × Int) × Int × Int × Int × Int)) × (List (Int × Int × (Int × Int × Int × Int) × Int × Int × Int × Int)) × Int
def St17_0 (v0 : V17_0) : St := ⟨27, 0, [(0, .c (.l 44 s44 v0.1)), (1, .c (.l 44 s44 v0.2.1)), (5, .c (.v (.int .i64 v0.2.2)))], []⟩
noncomputable def B17_0 {R : Type} (k : Nat) (X0 : ((List (Int × Int × (Int × Int × Int × Int) × Int × Int × Int × Int)) × (List (Int × Int × (Int × Int × Int × Int) × Int × Int × Int × Int)) × Int) → (Int × Int × (Int × Int × Int × Int) × Int × Int × Int × Int) → (Int × Int × (Int × Int × Int × Int) × Int × Int × Int × Int) → Bool → Option R) (X1 : ((List (Int × Int × (Int × Int × Int × Int) × Int × Int × Int × Int)) × (List (Int × Int × (Int × Int × Int × Int) × Int × Int × Int × Int)) × Int) → Option R) (rec : V17_0 → Option R) (v0 : V17_0) : Option R := if (decide (v0.2.2 < (v0.1.length : Int))) = true then if 0 ≤ v0.2.2 then ix v0.1 v0.2.2.toNat fun x1 => if 0 ≤ v0.2.2 then ix v0.2.1 v0.2.2.toNat fun x2 => (F21 k x1 x2).bind fun p3 => if (!p3) = true then X0 v0 x1 x2 p3 else rec (v0.1, v0.2.1, (IntKind.i64.wrap (v0.2.2 + 1))) else none else none else X1 v0
noncomputable def L17_0 {R : Type} (k : Nat) (X0 : ((List (Int × Int × (Int × Int × Int × Int) × Int × Int × Int × Int)) × (List (Int × Int × (Int × Int × Int × Int) × Int × Int × Int × Int)) × Int) → (Int × Int × (Int × Int × Int × Int) × Int × Int × Int × Int) → (Int × Int × (Int × Int × Int × Int) × Int × Int × Int × Int) → Bool → Option R) (X1 : ((List (Int × Int × (Int × Int × Int × Int) × Int × Int × Int × Int)) × (List (Int × Int × (Int × Int × Int × Int) × Int × Int × Int × Int)) × Int) → Option R) : Nat → V17_0 → Option R
  | 0, _ => none
  | n + 1, v => B17_0 k X0 X1 (L17_0 k X0 X1 n) v
theorem b17_0 {R : Type} (k n : Nat) (K : Ex → St → Option R) (v : V17_0) : loopRun [0, 1, 5] (run E (den E k) (lv 17) k (nthLoop Try.f17 0)) (n + 1) (St17_0 v) K = B17_0 k (fun (v0 : (List (Int × Int × (Int × Int × Int × Int) × Int × Int × Int × Int)) × (List (Int × Int × (Int × Int × Int × Int) × Int × Int × Int × Int)) × Int) (x1 : Int × Int × (Int × Int × Int × Int) × Int × Int × Int × Int) (x2 : Int × Int × (Int × Int × Int × Int) × Int × Int × Int × Int) (p3 : Bool) => K .ret ⟨27, 0, [(0, .c (.l 44 s44 v0.1)), (1, .c (.l 44 s44 v0.2.1)), (4, .c (.v (.bool false))), (5, .c (.v (.int .i64 v0.2.2))), (11, .c (.v (.int .i64 v0.2.2))), (12, .c (.l 44 s44 v0.1)), (13, .c (.v (.int .i64 (v0.1.length : Int)))), (14, .c (.v (.bool (decide (v0.2.2 < (v0.1.length : Int)))))), (17, .c (.l 44 s44 v0.1)), (18, .c (.v (.int .i64 v0.2.2))), (19, .c (.at_ [.v (.int .i64 x1.1), .v (.int .i64 x1.2.1), .v (.int .i64 x1.2.2.1.1), .v (.int .i64 x1.2.2.1.2.1), .v (.int .i64 x1.2.2.1.2.2.1), .v (.int .i64 x1.2.2.1.2.2.2), .v (.int .i64 x1.2.2.2.1), .v (.int .i64 x1.2.2.2.2.1), .v (.int .i64 x1.2.2.2.2.2.1), .v (.int .i64 x1.2.2.2.2.2.2)])), (20, .agg [.v (.int .i64 x1.1), .v (.int .i64 x1.2.1), .v (.int .i64 x1.2.2.1.1), .v (.int .i64 x1.2.2.1.2.1), .v (.int .i64 x1.2.2.1.2.2.1), .v (.int .i64 x1.2.2.1.2.2.2), .v (.int .i64 x1.2.2.2.1), .v (.int .i64 x1.2.2.2.2.1), .v (.int .i64 x1.2.2.2.2.2.1), .v (.int .i64 x1.2.2.2.2.2.2)]), (21, .c (.l 44 s44 v0.2.1)), (22, .c (.v (.int .i64 v0.2.2))), (23, .c (.at_ [.v (.int .i64 x2.1), .v (.int .i64 x2.2.1), .v (.int .i64 x2.2.2.1.1), .v (.int .i64 x2.2.2.1.2.1), .v (.int .i64 x2.2.2.1.2.2.1), .v (.int .i64 x2.2.2.1.2.2.2), .v (.int .i64 x2.2.2.2.1), .v (.int .i64 x2.2.2.2.2.1), .v (.int .i64 x2.2.2.2.2.2.1), .v (.int .i64 x2.2.2.2.2.2.2)])), (24, .agg [.v (.int .i64 x2.1), .v (.int .i64 x2.2.1), .v (.int .i64 x2.2.2.1.1), .v (.int .i64 x2.2.2.1.2.1), .v (.int .i64 x2.2.2.1.2.2.1), .v (.int .i64 x2.2.2.1.2.2.2), .v (.int .i64 x2.2.2.2.1), .v (.int .i64 x2.2.2.2.2.1), .v (.int .i64 x2.2.2.2.2.2.1), .v (.int .i64 x2.2.2.2.2.2.2)]), (25, .c (.v (.bool p3))), (26, .c (.v (.bool (!p3))))], []⟩) (fun (v0 : (List (Int × Int × (Int × Int × Int × Int) × Int × Int × Int × Int)) × (List (Int × Int × (Int × Int × Int × Int) × Int × Int × Int × Int)) × Int) => K (.exit 0) ⟨27, 0, [(0, .c (.l 44 s44 v0.1)), (1, .c (.l 44 s44 v0.2.1)), (5, .c (.v (.int .i64 v0.2.2))), (11, .c (.v (.int .i64 v0.2.2))), (12, .c (.l 44 s44 v0.1)), (13, .c (.v (.int .i64 (v0.1.length : Int)))), (14, .c (.v (.bool (decide (v0.2.2 < (v0.1.length : Int))))))], []⟩) (fun v => loopRun [0, 1, 5] (run E (den E k) (lv 17) k (nthLoop Try.f17 0)) n (St17_0 v) K) v := by kernel_rfl
theorem l17_0 {R : Type} (k : Nat) (K : Ex → St → Option R) : ∀ (n : Nat) (v : V17_0), loopRun [0, 1, 5] (run E (den E k) (lv 17) k (nthLoop Try.f17 0)) n (St17_0 v) K = L17_0 k (fun (v0 : (List (Int × Int × (Int × Int × Int × Int) × Int × Int × Int × Int)) × (List (Int × Int × (Int × Int × Int × Int) × Int × Int × Int × Int)) × Int) (x1 : Int × Int × (Int × Int × Int × Int) × Int × Int × Int × Int) (x2 : Int × Int × (Int × Int × Int × Int) × Int × Int × Int × Int) (p3 : Bool) => K .ret ⟨27, 0, [(0, .c (.l 44 s44 v0.1)), (1, .c (.l 44 s44 v0.2.1)), (4, .c (.v (.bool false))), (5, .c (.v (.int .i64 v0.2.2))), (11, .c (.v (.int .i64 v0.2.2))), (12, .c (.l 44 s44 v0.1)), (13, .c (.v (.int .i64 (v0.1.length : Int)))), (14, .c (.v (.bool (decide (v0.2.2 < (v0.1.length : Int)))))), (17, .c (.l 44 s44 v0.1)), (18, .c (.v (.int .i64 v0.2.2))), (19, .c (.at_ [.v (.int .i64 x1.1), .v (.int .i64 x1.2.1), .v (.int .i64 x1.2.2.1.1), .v (.int .i64 x1.2.2.1.2.1), .v (.int .i64 x1.2.2.1.2.2.1), .v (.int .i64 x1.2.2.1.2.2.2), .v (.int .i64 x1.2.2.2.1), .v (.int .i64 x1.2.2.2.2.1), .v (.int .i64 x1.2.2.2.2.2.1), .v (.int .i64 x1.2.2.2.2.2.2)])), (20, .agg [.v (.int .i64 x1.1), .v (.int .i64 x1.2.1), .v (.int .i64 x1.2.2.1.1), .v (.int .i64 x1.2.2.1.2.1), .v (.int .i64 x1.2.2.1.2.2.1), .v (.int .i64 x1.2.2.1.2.2.2), .v (.int .i64 x1.2.2.2.1), .v (.int .i64 x1.2.2.2.2.1), .v (.int .i64 x1.2.2.2.2.2.1), .v (.int .i64 x1.2.2.2.2.2.2)]), (21, .c (.l 44 s44 v0.2.1)), (22, .c (.v (.int .i64 v0.2.2))), (23, .c (.at_ [.v (.int .i64 x2.1), .v (.int .i64 x2.2.1), .v (.int .i64 x2.2.2.1.1), .v (.int .i64 x2.2.2.1.2.1), .v (.int .i64 x2.2.2.1.2.2.1), .v (.int .i64 x2.2.2.1.2.2.2), .v (.int .i64 x2.2.2.2.1), .v (.int .i64 x2.2.2.2.2.1), .v (.int .i64 x2.2.2.2.2.2.1), .v (.int .i64 x2.2.2.2.2.2.2)])), (24, .agg [.v (.int .i64 x2.1), .v (.int .i64 x2.2.1), .v (.int .i64 x2.2.2.1.1), .v (.int .i64 x2.2.2.1.2.1), .v (.int .i64 x2.2.2.1.2.2.1), .v (.int .i64 x2.2.2.1.2.2.2), .v (.int .i64 x2.2.2.2.1), .v (.int .i64 x2.2.2.2.2.1), .v (.int .i64 x2.2.2.2.2.2.1), .v (.int .i64 x2.2.2.2.2.2.2)]), (25, .c (.v (.bool p3))), (26, .c (.v (.bool (!p3))))], []⟩) (fun (v0 : (List (Int × Int × (Int × Int × Int × Int) × Int × Int × Int × Int)) × (List (Int × Int × (Int × Int × Int × Int) × Int × Int × Int × Int)) × Int) => K (.exit 0) ⟨27, 0, [(0, .c (.l 44 s44 v0.1)), (1, .c (.l 44 s44 v0.2.1)), (5, .c (.v (.int .i64 v0.2.2))), (11, .c (.v (.int .i64 v0.2.2))), (12, .c (.l 44 s44 v0.1)), (13, .c (.v (.int .i64 (v0.1.length : Int)))), (14, .c (.v (.bool (decide (v0.2.2 < (v0.1.length : Int))))))], []⟩) n v
  | 0, _ => rfl
  | n + 1, v => (b17_0 k n K v).trans (congrArg (fun r => B17_0 k (fun (v0 : (List (Int × Int × (Int × Int × Int × Int) × Int × Int × Int × Int)) × (List (Int × Int × (Int × Int × Int × Int) × Int × Int × Int × Int)) × Int) (x1 : Int × Int × (Int × Int × Int × Int) × Int × Int × Int × Int) (x2 : Int × Int × (Int × Int × Int × Int) × Int × Int × Int × Int) (p3 : Bool) => K .ret ⟨27, 0, [(0, .c (.l 44 s44 v0.1)), (1, .c (.l 44 s44 v0.2.1)), (4, .c (.v (.bool false))), (5, .c (.v (.int .i64 v0.2.2))), (11, .c (.v (.int .i64 v0.2.2))), (12, .c (.l 44 s44 v0.1)), (13, .c (.v (.int .i64 (v0.1.length : Int)))), (14, .c (.v (.bool (decide (v0.2.2 < (v0.1.length : Int)))))), (17, .c (.l 44 s44 v0.1)), (18, .c (.v (.int .i64 v0.2.2))), (19, .c (.at_ [.v (.int .i64 x1.1), .v (.int .i64 x1.2.1), .v (.int .i64 x1.2.2.1.1), .v (.int .i64 x1.2.2.1.2.1), .v (.int .i64 x1.2.2.1.2.2.1), .v (.int .i64 x1.2.2.1.2.2.2), .v (.int .i64 x1.2.2.2.1), .v (.int .i64 x1.2.2.2.2.1), .v (.int .i64 x1.2.2.2.2.2.1), .v (.int .i64 x1.2.2.2.2.2.2)])), (20, .agg [.v (.int .i64 x1.1), .v (.int .i64 x1.2.1), .v (.int .i64 x1.2.2.1.1), .v (.int .i64 x1.2.2.1.2.1), .v (.int .i64 x1.2.2.1.2.2.1), .v (.int .i64 x1.2.2.1.2.2.2), .v (.int .i64 x1.2.2.2.1), .v (.int .i64 x1.2.2.2.2.1), .v (.int .i64 x1.2.2.2.2.2.1), .v (.int .i64 x1.2.2.2.2.2.2)]), (21, .c (.l 44 s44 v0.2.1)), (22, .c (.v (.int .i64 v0.2.2))), (23, .c (.at_ [.v (.int .i64 x2.1), .v (.int .i64 x2.2.1), .v (.int .i64 x2.2.2.1.1), .v (.int .i64 x2.2.2.1.2.1), .v (.int .i64 x2.2.2.1.2.2.1), .v (.int .i64 x2.2.2.1.2.2.2), .v (.int .i64 x2.2.2.2.1), .v (.int .i64 x2.2.2.2.2.1), .v (.int .i64 x2.2.2.2.2.2.1), .v (.int .i64 x2.2.2.2.2.2.2)])), (24, .agg [.v (.int .i64 x2.1), .v (.int .i64 x2.2.1), .v (.int .i64 x2.2.2.1.1), .v (.int .i64 x2.2.2.1.2.1), .v (.int .i64 x2.2.2.1.2.2.1), .v (.int .i64 x2.2.2.1.2.2.2), .v (.int .i64 x2.2.2.2.1), .v (.int .i64 x2.2.2.2.2.1), .v (.int .i64 x2.2.2.2.2.2.1), .v (.int .i64 x2.2.2.2.2.2.2)]), (25, .c (.v (.bool p3))), (26, .c (.v (.bool (!p3))))], []⟩) (fun (v0 : (List (Int × Int × (Int × Int × Int × Int) × Int × Int × Int × Int)) × (List (Int × Int × (Int × Int × Int × Int) × Int × Int × Int × Int)) × Int) => K (.exit 0) ⟨27, 0, [(0, .c (.l 44 s44 v0.1)), (1, .c (.l 44 s44 v0.2.1)), (5, .c (.v (.int .i64 v0.2.2))), (11, .c (.v (.int .i64 v0.2.2))), (12, .c (.l 44 s44 v0.1)), (13, .c (.v (.int .i64 (v0.1.length : Int)))), (14, .c (.v (.bool (decide (v0.2.2 < (v0.1.length : Int))))))], []⟩) r v) (funext fun v => l17_0 k K n v))
theorem m17 (k : Nat) (a0 : List (Int × Int × (Int × Int × Int × Int) × Int × Int × Int × Int)) (a1 : List (Int × Int × (Int × Int × Int × Int) × Int × Int × Int × Int)) : F17 (k + 1) a0 a1 = if ((a0.length : Int) != (a1.length : Int)) = true then some false else loopRun [0, 1, 5] (run E (den E k) (lv 17) k (nthLoop Try.f17 0)) k (St17_0 (a0, a1, 0)) (kontAt E (den E k) (lv 17) k (bodyOf Try.f17) 0 [] (finish E (rs 17) Try.f17)) := by kernel_rfl
theorem e17 (k : Nat) (a0 : List (Int × Int × (Int × Int × Int × Int) × Int × Int × Int × Int)) (a1 : List (Int × Int × (Int × Int × Int × Int) × Int × Int × Int × Int)) : F17 (k + 1) a0 a1 = if ((a0.length : Int) != (a1.length : Int)) = true then some false else L17_0 k (fun (v0 : (List (Int × Int × (Int × Int × Int × Int) × Int × Int × Int × Int)) × (List (Int × Int × (Int × Int × Int × Int) × Int × Int × Int × Int)) × Int) (x1 : Int × Int × (Int × Int × Int × Int) × Int × Int × Int × Int) (x2 : Int × Int × (Int × Int × Int × Int) × Int × Int × Int × Int) (p3 : Bool) => some false) (fun (v0 : (List (Int × Int × (Int × Int × Int × Int) × Int × Int × Int × Int)) × (List (Int × Int × (Int × Int × Int × Int) × Int × Int × Int × Int)) × Int) => some true) k (a0, a1, 0) := by
  rw [m17]
  simp only [l17_0]
  kernel_rfl
/-! loop.example/g00599/laws.FnExactCountKind -/
noncomputable def F5 (k : Nat) (a0 : List (Int × Int × (Int × Int × Int × Int) × Int × Int × Int × Int)) (a1 : Int) : Option (Bool) := den E k 5 [.c (.l 49 s44 a0), .c (.v (.int .i64 a1))]
theorem e5 (k : Nat) (a0 : List (Int × Int × (Int × Int × Int × Int) × Int × Int × Int × Int)) (a1 : Int) : F5 (k + 1) a0 a1 = (F13 k a0 1048576).bind fun p1 => if (decide (p1 < 0)) = true then some true else (F15 k a0).bind fun p2 => (F14 k p2 a1).bind fun p3 => (F15 k a0).bind fun p4 => (F16 k p4 a1).bind fun p5 => if (p5 != p3) = true then some false else (F15 k a0).bind fun p6 => (F17 k p4 p6).bind fun p7 => if (!p7) = true then some false else some true := by kernel_rfl
end Go.Proofs.Ytpdiidbcdaomgaa.CountKind
namespace Go.Proofs.Ytpdiidbcdaomgaa.CountKind
open Go Go.V Go.Proofs
set_option linter.unusedVariables false
abbrev TE := Int × Int × (Int × Int × Int × Int) × Int × Int × Int × Int
theorem f20 (k : Nat) (x : TE) : F20 (k + 2) x = some x := by rw [e20, e23, Option.bind_some, e24, Option.bind_some]
theorem l15 {R : Type} (k : Nat) (X : V15_0 → Option R) (a : List TE) (hl : a.length ≤ 1048576) : ∀ (m n i : Nat) (out : List TE), i + m = a.length → m < n → out.length = a.length → out.take i = a.take i → L15_0 (k + 2) X n (a, (i : Int), out) = X (a, (a.length : Int), a)
  | 0, n + 1, i, out, h, _, ho, ht => by
    have hi : i = a.length := by omega
    subst hi
    rw [List.take_length, List.take_of_length_le (by omega)] at ht
    subst ht
    simp [L15_0, B15_0]
  | m + 1, n + 1, i, out, h, hn, ho, ht => by
    have hi : i < a.length := by omega
    have hin : (i : Int).toNat = i := by simp
    have h1 : decide ((i : Int) < (a.length : Int)) = true := by simp; omega
    have h2 : (0 : Int) ≤ i := by omega
    have h3 : (i : Int) < (out.length : Int) := by omega
    simp only [L15_0, B15_0]
    rw [if_pos h1, if_pos h2, hin, ix_at hi, f20]
    simp only [Option.bind_some]
    rw [if_pos h2, if_pos h3, ix_at (by omega), wrap_succ hi (by omega)]
    exact l15 k X a hl m n (i + 1) _ (by omega) (by omega) (by simp [ho]) (set_take ho hi ht)
theorem f15 (k : Nat) (a : List TE) (hl : a.length ≤ 1048576) (hk : a.length < k + 2) : F15 (k + 3) a = some a := by
  rw [e15, if_pos rfl, if_pos (by omega), if_pos (by simp; omega)]
  have := l15 k (fun v0 => some v0.2.2) a hl a.length (k + 2) 0 (List.replicate a.length (0, 0, (0, 0, 0, 0), (0, 0, 0, 0))) (by omega) hk (by simp) (by simp)
  simpa using this
/-- How many of this kind. -/
def cnt (kind : Int) : List TE → Int
  | [] => 0
  | x :: r => (if (x.1 == kind) = true then 1 else 0) + cnt kind r
theorem cnt_nonneg (kind : Int) (l : List TE) : 0 ≤ cnt kind l ∧ cnt kind l ≤ l.length := by
  induction l with
  | nil => simp [cnt]
  | cons x r ih => simp only [cnt, List.length_cons]; split <;> omega
theorem l14 {R : Type} (k : Nat) (X : V14_0 → Option R) (a : List TE) (kind : Int) (hl : a.length ≤ 1048576) : ∀ (m n i : Nat) (c : Int), i + m = a.length → m < n → 0 ≤ c → c ≤ i → L14_0 k X n (a, kind, c, (i : Int)) = X (a, kind, c + cnt kind (a.drop i), (a.length : Int))
  | 0, n + 1, i, c, h, _, h0, hc => by
    have hi : i = a.length := by omega
    subst hi
    simp [L14_0, B14_0, cnt]
  | m + 1, n + 1, i, c, h, hn, h0, hc => by
    have hi : i < a.length := by omega
    have hin : (i : Int).toNat = i := by simp
    have h1 : decide ((i : Int) < (a.length : Int)) = true := by simp; omega
    have h2 : (0 : Int) ≤ i := by omega
    simp only [L14_0, B14_0]
    rw [if_pos h1, if_pos h2, hin, ix_at hi, List.drop_eq_getElem_cons hi]
    simp only [cnt]
    split
    · rename_i hx
      rw [wrap_id (by omega) (by omega), wrap_succ hi (by omega), l14 k X a kind hl m n (i + 1) (c + 1) (by omega) (by omega) (by omega) (by omega), Int.add_assoc]
    · rename_i hx
      rw [wrap_succ hi (by omega), l14 k X a kind hl m n (i + 1) c (by omega) (by omega) (by omega) (by omega), Int.zero_add]
theorem l16 {R : Type} (k : Nat) (X : V16_0 → Option R) (a : List TE) (kind : Int) (hl : a.length ≤ 1048576) : ∀ (m n i : Nat) (c : Int), i + m = a.length → m < n → 0 ≤ c → c ≤ i → L16_0 k X n (kind, c, a, (a.length : Int), (i : Int)) = X (kind, c + cnt kind (a.drop i), a, (a.length : Int), (a.length : Int))
  | 0, n + 1, i, c, h, _, h0, hc => by
    have hi : i = a.length := by omega
    subst hi
    simp [L16_0, B16_0, cnt]
  | m + 1, n + 1, i, c, h, hn, h0, hc => by
    have hi : i < a.length := by omega
    have hin : (i : Int).toNat = i := by simp
    have h1 : decide ((i : Int) < (a.length : Int)) = true := by simp; omega
    have h2 : (0 : Int) ≤ i := by omega
    simp only [L16_0, B16_0]
    rw [if_pos h1, if_pos h2, hin, ix_at hi, List.drop_eq_getElem_cons hi]
    simp only [cnt]
    split
    · rename_i hx
      rw [wrap_id (by omega) (by omega), wrap_succ hi (by omega), l16 k X a kind hl m n (i + 1) (c + 1) (by omega) (by omega) (by omega) (by omega), Int.add_assoc]
    · rename_i hx
      rw [wrap_succ hi (by omega), l16 k X a kind hl m n (i + 1) c (by omega) (by omega) (by omega) (by omega), Int.zero_add]
theorem f14 (k : Nat) (a : List TE) (kind : Int) (hl : a.length ≤ 1048576) (hk : a.length < k) : F14 (k + 1) a kind = some (cnt kind a) := by
  rw [e14]
  have := l14 k (fun v0 => some v0.2.2.1) a kind hl a.length k 0 0 (by omega) hk (by omega) (by omega)
  simpa using this
theorem f16 (k : Nat) (a : List TE) (kind : Int) (hl : a.length ≤ 1048576) (hk : a.length < k) : F16 (k + 1) a kind = some (cnt kind a) := by
  rw [e16]
  have := l16 k (fun v0 => some v0.2.1) a kind hl a.length k 0 0 (by omega) hk (by omega) (by omega)
  simpa using this
theorem f21 (k : Nat) (x : TE) : F21 (k + 2) x x = some true := by rw [e21, e25]; simp [e26]
theorem l17 {R : Type} (k : Nat) (X0 : V17_0 → TE → TE → Bool → Option R) (X1 : V17_0 → Option R) (a : List TE) (hl : a.length ≤ 1048576) : ∀ (m n i : Nat), i + m = a.length → m < n → L17_0 (k + 2) X0 X1 n (a, a, (i : Int)) = X1 (a, a, (a.length : Int))
  | 0, n + 1, i, h, _ => by
    have hi : i = a.length := by omega
    subst hi
    simp [L17_0, B17_0]
  | m + 1, n + 1, i, h, hn => by
    have hi : i < a.length := by omega
    have hin : (i : Int).toNat = i := by simp
    have h1 : decide ((i : Int) < (a.length : Int)) = true := by simp; omega
    have h2 : (0 : Int) ≤ i := by omega
    simp only [L17_0, B17_0]
    rw [if_pos h1, if_pos h2, hin, ix_at hi, if_pos h2, ix_at hi, f21]
    simp only [Option.bind_some, Bool.not_true, Bool.false_eq_true, if_false]
    rw [wrap_succ hi (by omega)]
    exact l17 k X0 X1 a hl m n (i + 1) (by omega) (by omega)
theorem f17 (k : Nat) (a : List TE) (hl : a.length ≤ 1048576) (hk : a.length < k + 2) : F17 (k + 3) a a = some true := by
  rw [e17]
  simp only [bne_self_eq_false, Bool.false_eq_true, if_false]
  have := l17 k (fun _ _ _ _ => some false) (fun _ => some true) a hl a.length (k + 2) 0 (by omega) hk
  simpa using this
theorem f5 (a : List TE) (kind : Int) (ha : a.length * 80 ≤ 140737488351232) : ∃ k, F5 k a kind = some true := by
  refine ⟨a.length + 10, ?_⟩
  rw [e5, e13]
  have hw : IntKind.i64.wrap (1048576 - (a.length : Int)) = 1048576 - (a.length : Int) := wrap_id (by omega) (by omega)
  rw [hw]
  by_cases hl : a.length ≤ 1048576
  · have h1 : decide ((1048576 - (a.length : Int)) < 0) = false := by simp; omega
    rw [h1]
    simp only [Bool.false_eq_true, if_false, Option.bind_some, h1]
    rw [f15 (a.length + 6) a hl (by omega)]
    simp only [Option.bind_some]
    rw [f14 (a.length + 8) a kind hl (by omega)]
    simp only [Option.bind_some]
    rw [f16 (a.length + 8) a kind hl (by omega)]
    simp only [Option.bind_some, bne_self_eq_false, Bool.false_eq_true, if_false]
    rw [f17 (a.length + 6) a hl (by omega)]
    rfl
  · have h1 : decide ((1048576 - (a.length : Int)) < 0) = true := by simp; omega
    rw [h1]
    simp
end Go.Proofs.Ytpdiidbcdaomgaa.CountKind
namespace Go.Proofs.Ytpdiidbcdaomgaa.CountKind
open Go Go.V Go.Proofs
open Go.ChangeShapes Go.WideShapes Go.ChangeAt Go.RowKit
set_option linter.unusedVariables false
set_option maxRecDepth 100000
theorem tyOk : ∀ t i, E.ty t = some i → TyOk E.P t i := by
  intro t i h
  replace h : ty t = some i := h
  unfold ty at h
  split at h <;> first | (cases h; done) | (cases h; exact ⟨by kernel_rfl, by kernel_rfl⟩)
theorem fnOk : ∀ f F, E.fn f = some F → E.P.funcs[f]? = some F ∧ F.name ≠ "runtime.NumGoroutine" ∧ ∀ c, F.body = some c → codeOk c = true := by
  intro f F h
  replace h : fn f = some F := h
  unfold fn at h
  split at h <;> first | (cases h; done) | (cases h; exact ⟨by kernel_rfl, of_decide_eq_true (by kernel_rfl), fun c hc => by cases hc; kernel_rfl⟩)
theorem envOk : EnvOk E := ⟨tyOk, fun f F h => (fnOk f F h).1, fun f F h => (fnOk f F h).2.1, by kernel_rfl⟩
theorem sound (k : Nat) : CallOk E (den E k) := den_sound envOk (fun f F c h => (fnOk f F h).2.2 c) (fun f g h => by cases h) k
end Go.Proofs.Ytpdiidbcdaomgaa.CountKind
namespace Go.Proofs.Ytpdiidbcdaomgaa.CountKind
open Go Go.V Go.Proofs
open Go.ChangeShapes Go.WideShapes Go.ChangeAt Go.RowKit
set_option linter.unusedVariables false
set_option maxRecDepth 100000
theorem walk5 {k : Nat} {y0 : List TE} {y1 : Int} (h : F5 k y0 y1 = some true) {W : World} {v0 v1 : Value} (h0 : VA W (fun _ => True) (fun _ => undef) (argAV (.l 49 s44) y0) v0) (l0 : (argAV (.l 49 s44) y0).lt 0)
    (h1 : VA W (fun _ => True) (fun _ => undef) (argAV (.i .i64) y1) v1) (l1 : (argAV (.i .i64) y1).lt 0) :
    Calls Try.prog 5 #[v0, v1] W fun e W' => e = .returned (.bool true) ∧ Go.RowKit.Below W.heap.size W W' := by
  have hs := (sound k) 5 [argAV (.l 49 s44) y0, argAV (.i .i64) y1] true h
  refine (hs.2 (fun _ => True) W [v0, v1] (by intro x hx; simp at hx; rcases hx with rfl | rfl; exact l0; exact l1) ⟨h0, h1, trivial⟩).mono ?_
  rintro e W' ⟨v, rfl, hb, hr⟩
  exact ⟨by rw [resOk_bool hr], hb⟩
theorem own : ownKnob Try.prog.godebug = none := by kernel_rfl
theorem lifted (os : Os) (started : os.Started) (H : Type) (enc : TypeId × Value → H) :
    ReturnsInHanded {} Try.checked os 5 .any (Ytpdiidbcdaomgaa.Rows.fnExactCountKindSpec.pre6 enc Try.prog Try.f5 Ytpdiidbcdaomgaa.Rows.fnExactCountKindRow.domain false) (Ytpdiidbcdaomgaa.Rows.fnExactCountKindSpec.post enc Try.prog Try.f5 false true false false) := by
  refine returnsInHanded_of_change_sized (C := Try.checked) own started (by kernel_rfl) Try.func5
    (ChangeSpec.witness6 (enc := enc) (C := Try.checked) false ⟨#[], #[.slice none 0 0, .int .i64 0], []⟩ 8 (by kernel_rfl) (by kernel_rfl) (by kernel_rfl) (by kernel_rfl)) ?_
  intro W base args ds gs before hval0 hW hcnd hsz0 _
  have hsz : (DataW.weightsEach Try.prog (Try.f5.params.toList ++ Ytpdiidbcdaomgaa.Rows.fnExactCountKindSpec.plain.varTypes Try.prog) (ds ++ gs)).all (· ≤ reachBytes) = true := hsz0
  have hval : ∀ (j : Nat) t v, Try.f5.params[j]? = some t → args[j]? = some v → Value.okWide Try.prog W .any base t v := hval0
  have hW' := hW
  obtain ⟨p, q, hA0, hV, rfl, hfz, hnd⟩ := hW
  have hA : DataW.TrodAll enc Try.prog W 0 (fun _ => true) true Try.f5.params.toList args.toList ds p := hA0
  have hAA := hA
  rw [Try.params5] at hA hval hsz
  obtain ⟨v0, vs0, d0, ds0, p0, q0, hargs, rfl, rfl, h0, r0⟩ := trodAll_cons hA
  obtain ⟨v1, vs1, d1, ds1, p1, q1, rfl, rfl, rfl, h1, r1⟩ := trodAll_cons r0
  obtain ⟨rfl, rfl, rfl⟩ := trodAll_nil r1
  obtain rfl : args = #[v0, v1] := by cases args; simp_all
  obtain ⟨rfl, rfl⟩ := trodVars_none hV
  have hwt : ∀ n ∈ d0.weights Try.prog 29, n ≤ reachBytes := by
    intro n hn
    have := List.all_eq_true.1 hsz n (by simp [DataW.weightsEach, hn])
    simpa using this
  have hwt1 : ∀ n ∈ d1.weights Try.prog 3, n ≤ reachBytes := by
    intro n hn
    have := List.all_eq_true.1 hsz n (by simp [DataW.weightsEach, hn])
    simpa using this
  obtain ⟨y0, a0, b0, w0⟩ := arg_VA (sh := .l 49 s44) (by kernel_rfl) (hval 0 29 v0 rfl rfl) h0 hwt
  obtain ⟨y1, a1, b1, w1⟩ := arg_VA (sh := .i .i64) (by kernel_rfl) (hval 1 3 v1 rfl rfl) h1 hwt1
  obtain ⟨k, hk⟩ := f5 y0 y1 (by
    have := w0.1
    have hb : Try.prog.bytesOf 49 = 80 := by kernel_rfl
    rw [hb] at this
    exact this)
  have hlt : ∀ x ∈ p0 ++ (p1 ++ []), x.block < W.heap.size := fun x hx => hW'.lt x (by simpa using hx)
  refine (walk5 hk a0 b0 a1 b1).mono fun e W' ⟨he, bel⟩ => ?_
  subst he
  exact ⟨_, rfl, _, _, _, [], _, [], hW', trodAll_mk1 (shut_bool Try.underlying4 _), below_trodAll (by kernel_rfl) bel _ _ _ _ (by kernel_rfl) hAA hlt, rfl, bel.frame _, fun h => by cases h⟩
theorem over : Ytpdiidbcdaomgaa.Rows.fnExactCountKindRow.holds Ytpdiidbcdaomgaa.Try.pinned (OpenSpec.ofChange Ytpdiidbcdaomgaa.Rows.fnExactCountKindSpec) :=
  OpenClaim.holds_of_wide 5 Try.f5 rfl rfl rfl rfl rfl rfl rfl ⟨rfl, rfl, rfl, rfl, rfl⟩ rfl rfl rfl rfl rfl (by kernel_rfl) Try.func5 (by kernel_rfl)
    (of_decide_eq_true (by kernel_rfl)) (by unfold Func.isWrapper; first | (rw [if_pos (by decide +kernel)]; kernel_rfl) | (rw [if_neg (by decide +kernel)]; exact ⟨rfl, rfl⟩))
    (fun os started H enc _ => lifted os started H enc)
end Go.Proofs.Ytpdiidbcdaomgaa.CountKind
namespace Go.Proofs.Ytpdiidbcdaomgaa
/-- The row, under a short name. -/
theorem fnExactCountKind_holds : Rows.FnExactCountKindSaid := CountKind.over
end Go.Proofs.Ytpdiidbcdaomgaa
