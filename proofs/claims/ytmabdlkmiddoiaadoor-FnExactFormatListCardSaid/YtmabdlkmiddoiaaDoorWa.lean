/- The equations of the functions that a law reaches, part 1. No condition. -/
import Derived.Test.YtmabdlkmiddoiaaDoorV3
import Derived.Test.YtmabdlkmiddoiaaDoorProg
import Derived.KernelRfl
namespace Go.Proofs.YtmabdlkmiddoiaaDoor.World
open Go Go.V Go.Proofs
set_option linter.unusedVariables false
set_option linter.unusedSimpArgs false
set_option maxRecDepth 100000
set_option maxHeartbeats 4000000
abbrev TLPiece : Type := (Int × Int) × (List (Int × Int)) × List (Int × (List Int) × List Int)
abbrev TPiece : Type := (Int × Int) × (List (Int × Int)) × List (Int × (List Int) × List Int)
abbrev sTable : Sh := (.a [(.i .i64), (.l 3 (.i .i64)), (.l 3 (.i .i64))])
abbrev sI2 : Sh := (.a [(.i .i64), (.i .i64)])
abbrev sLPiece : Sh := (.a [sI2, (.l 75 sI2), (.l 24 sTable)])
abbrev sPiece : Sh := (.a [sI2, (.l 68 sI2), (.l 27 sTable)])
noncomputable def ty : Nat → Option TyI
  | 3 => some ⟨.one, 1, 8, [(.int .i64 0)], (.i .i64)⟩
  | 4 => some ⟨.one, 1, 1, [(.bool false)], .b⟩
  | 5 => some ⟨.one, 1, 1, [(.int .u8 0)], (.i .u8)⟩
  | 9 => some ⟨.one, 1, 16, [(.string (⟨#[]⟩ : ByteArray))], .s⟩
  | 22 => some ⟨.slc 3, 1, 24, [(.slice none 0 0)], (.l 3 (.i .i64))⟩
  | 24 => some ⟨.agg [(0, 3), (1, 22), (2, 22)], 3, 56, [(.int .i64 0), (.slice none 0 0), (.slice none 0 0)], sTable⟩
  | 27 => some ⟨.agg [(0, 3), (1, 22), (2, 22)], 3, 56, [(.int .i64 0), (.slice none 0 0), (.slice none 0 0)], sTable⟩
  | 35 => some ⟨.slc 43, 1, 24, [(.slice none 0 0)], (.l 43 sI2)⟩
  | 38 => some ⟨.slc 50, 1, 24, [(.slice none 0 0)], (.l 50 sI2)⟩
  | 43 => some ⟨.agg [(0, 3), (1, 3)], 2, 16, [(.int .i64 0), (.int .i64 0)], sI2⟩
  | 44 => some ⟨.slc 75, 1, 24, [(.slice none 0 0)], (.l 75 sI2)⟩
  | 45 => some ⟨.slc 24, 1, 24, [(.slice none 0 0)], (.l 24 sTable)⟩
  | 47 => some ⟨.agg [(0, 43), (2, 44), (3, 45)], 4, 64, [(.int .i64 0), (.int .i64 0), (.slice none 0 0), (.slice none 0 0)], sLPiece⟩
  | 50 => some ⟨.agg [(0, 3), (1, 3)], 2, 16, [(.int .i64 0), (.int .i64 0)], sI2⟩
  | 51 => some ⟨.slc 68, 1, 24, [(.slice none 0 0)], (.l 68 sI2)⟩
  | 52 => some ⟨.slc 27, 1, 24, [(.slice none 0 0)], (.l 27 sTable)⟩
  | 54 => some ⟨.agg [(0, 50), (2, 51), (3, 52)], 4, 64, [(.int .i64 0), (.int .i64 0), (.slice none 0 0), (.slice none 0 0)], sPiece⟩
  | 61 => some ⟨.slc 9, 1, 24, [(.slice none 0 0)], (.l 9 .s)⟩
  | 68 => some ⟨.agg [(0, 3), (1, 3)], 2, 16, [(.int .i64 0), (.int .i64 0)], sI2⟩
  | 73 => some ⟨.slc 5, 1, 24, [(.slice none 0 0)], (.l 5 (.i .u8))⟩
  | 75 => some ⟨.agg [(0, 3), (1, 3)], 2, 16, [(.int .i64 0), (.int .i64 0)], sI2⟩
  | _ => none
noncomputable def fn0 : Nat → Option Func
  | 3 => some Tryd.f3
  | 4 => some Tryd.f4
  | 5 => some Tryd.f5
  | 6 => some Tryd.f6
  | 7 => some Tryd.f7
  | 8 => some Tryd.f8
  | 9 => some Tryd.f9
  | 10 => some Tryd.f10
  | 11 => some Tryd.f11
  | 12 => some Tryd.f12
  | 13 => some Tryd.f13
  | 14 => some Tryd.f14
  | 15 => some Tryd.f15
  | 16 => some Tryd.f16
  | 17 => some Tryd.f17
  | 18 => some Tryd.f18
  | 19 => some Tryd.f19
  | 20 => some Tryd.f20
  | 21 => some Tryd.f21
  | 22 => some Tryd.f22
  | 23 => some Tryd.f23
  | 24 => some Tryd.f24
  | 25 => some Tryd.f25
  | 26 => some Tryd.f26
  | 27 => some Tryd.f27
  | 28 => some Tryd.f28
  | 29 => some Tryd.f29
  | 30 => some Tryd.f30
  | 31 => some Tryd.f31
  | 32 => some Tryd.f32
  | 33 => some Tryd.f33
  | 34 => some Tryd.f34
  | 35 => some Tryd.f35
  | 36 => some Tryd.f36
  | 37 => some Tryd.f37
  | 38 => some Tryd.f38
  | 39 => some Tryd.f39
  | 40 => some Tryd.f40
  | 43 => some Tryd.f43
  | 44 => some Tryd.f44
  | _ => none
noncomputable def fn (f : Nat) : Option Func := fn0 f
def lv : Nat → List Nat
  | 8 => [0, 1, 3, 4]
  | 10 => [0, 1, 3, 13, 14, 15]
  | 13 => [0, 0, 3, 4]
  | 14 => [0, 3, 7, 8, 9]
  | 15 => [0, 0, 1, 5]
  | 17 => [0, 0, 3, 4]
  | 18 => [0, 0, 3, 4]
  | 19 => [0, 3, 7, 8, 9]
  | 20 => [0, 0, 1, 5]
  | 22 => [0, 1, 3, 4]
  | 24 => [0, 3, 18, 19, 20]
  | 27 => [0, 0, 3, 4]
  | 31 => [0, 0, 1, 5, 6]
  | 36 => [0, 0, 1, 5]
  | 37 => [0, 0, 3, 4]
  | 38 => [0, 0, 3, 4]
  | 39 => [0, 0, 1, 5]
  | 40 => [0, 0, 1, 5]
  | _ => []
def rs : Nat → RSh
  | 3 => ⟨false, [.b], 0⟩
  | 4 => ⟨false, [.b], 0⟩
  | 5 => ⟨false, [.b], 0⟩
  | 6 => ⟨false, [.b], 0⟩
  | 7 => ⟨false, [(.i .i64)], 0⟩
  | 8 => ⟨false, [.s], 0⟩
  | 9 => ⟨true, [sTable], 0⟩
  | 10 => ⟨false, [.s], 0⟩
  | 11 => ⟨false, [.b], 0⟩
  | 12 => ⟨false, [.s], 0⟩
  | 13 => ⟨true, [(.l 3 (.i .i64))], 0⟩
  | 14 => ⟨false, [.s], 0⟩
  | 15 => ⟨false, [.b], 0⟩
  | 16 => ⟨false, [(.i .i64)], 0⟩
  | 17 => ⟨false, [.s], 0⟩
  | 18 => ⟨true, [(.l 50 sI2)], 0⟩
  | 19 => ⟨false, [.s], 0⟩
  | 20 => ⟨false, [.b], 0⟩
  | 21 => ⟨false, [(.i .i64)], 0⟩
  | 22 => ⟨false, [.s], 0⟩
  | 23 => ⟨true, [sPiece], 0⟩
  | 24 => ⟨false, [.s], 0⟩
  | 25 => ⟨false, [.b], 0⟩
  | 26 => ⟨false, [(.i .i64)], 0⟩
  | 27 => ⟨false, [.s], 0⟩
  | 28 => ⟨false, [.s], 0⟩
  | 29 => ⟨false, [.s], 0⟩
  | 30 => ⟨false, [.s], 0⟩
  | 31 => ⟨false, [.s], 0⟩
  | 32 => ⟨false, [.s], 0⟩
  | 33 => ⟨false, [sI2], 0⟩
  | 34 => ⟨false, [.b], 0⟩
  | 35 => ⟨false, [(.i .i64)], 0⟩
  | 36 => ⟨false, [(.i .i64)], 0⟩
  | 37 => ⟨true, [(.l 68 sI2)], 0⟩
  | 38 => ⟨true, [(.l 27 sTable)], 0⟩
  | 39 => ⟨false, [.b], 0⟩
  | 40 => ⟨false, [.b], 0⟩
  | 41 => ⟨false, [.s], 0⟩
  | 42 => ⟨false, [.s], 0⟩
  | 43 => ⟨false, [sI2], 0⟩
  | 44 => ⟨false, [.b], 0⟩
  | _ => ⟨false, [], 0⟩
def tk : Nat → List (Option Sh)
  | _ => []
def ext : (f : Nat) → Option (List AV → Option (RTy (rs f)))
  | 41 => some extItoa
  | 42 => some extJoin
  | _ => none
noncomputable def E : Env := { P := Tryd.prog, fn := fn, ty := ty, lv := lv, rs := rs, tk := tk, ext := ext, tab := [(0, (Lib.pow10Tab.map fun z => Value.int .u64 z).toArray)] }
/-! strconv.Itoa -/
noncomputable def FgItoa (k : Nat) (a0 : Int) : Option (ByteArray) := den E k 41 [.c (.v (.int .i64 a0))]
theorem egItoa (k : Nat) (a0 : Int) : FgItoa (k + 1) a0 = if -9223372036854775808 ≤ a0 then if a0 ≤ 9223372036854775807 then some (itoaB a0) else none else none := by kernel_rfl
/-! loop.example/g00599/impl.FormatInt -/
noncomputable def FiFormatInt (k : Nat) (a0 : Int) : Option (ByteArray) := den E k 29 [.c (.v (.int .i64 a0))]
theorem eiFormatInt (k : Nat) (a0 : Int) : FiFormatInt (k + 1) a0 = (FgItoa k a0).bind fun p1 => some p1 := by kernel_rfl
/-! loop.example/g00599/impl.orPoint -/
noncomputable def FiorPoint (k : Nat) (a0 : Int) : Option (ByteArray) := den E k 30 [.c (.v (.int .i64 a0))]
theorem eiorPoint (k : Nat) (a0 : Int) : FiorPoint (k + 1) a0 = if (a0 == -1) = true then some (⟨#[46]⟩ : ByteArray) else (FiFormatInt k a0).bind fun p1 => some p1 := by kernel_rfl
/-! loop.example/g00599/impl.FormatTable -/
noncomputable def FiFormatTable (k : Nat) (a0 : Int × (List Int) × List Int) : Option (ByteArray) := den E k 10 [.agg [.v (.int .i64 a0.1), .l 3 (.i .i64) a0.2.1, .l 3 (.i .i64) a0.2.2]]
abbrev CiFormatTable_0 : Type := (List Int) × Int × (Int × (List Int) × List Int)
abbrev ViFormatTable_0 : Type := ByteArray × Int
def StiFormatTable_0 (c0 : CiFormatTable_0) (v0 : ViFormatTable_0) : St := ⟨41, 1, [(1, .c (.ptr 0 0)), (3, .c (.v (.string v0.1))), (13, .c (.l 3 (.i .i64) c0.1)), (14, .c (.v (.int .i64 c0.2.1))), (15, .c (.v (.int .i64 v0.2)))], [(0, .var [.v (.int .i64 c0.2.2.1), .l 3 (.i .i64) c0.2.2.2.1, .l 3 (.i .i64) c0.2.2.2.2])]⟩
noncomputable def BiFormatTable_0 {R : Type} (k : Nat) (X0 : ViFormatTable_0 → Option R) (c0 : CiFormatTable_0) (rec : ViFormatTable_0 → Option R) (v0 : ViFormatTable_0) : Option R := if (decide (v0.2 < c0.2.1)) = true then if 0 ≤ v0.2 then ix c0.1 v0.2.toNat fun x2 => if (decide (v0.2 < (c0.2.2.2.1.length : Int))) = true then if 0 ≤ v0.2 then ix c0.2.2.2.1 v0.2.toNat fun x3 => (FiorPoint k x2).bind fun p4 => if ((⟨#[32]⟩ : ByteArray)).size + (p4).size ≤ 9223372036854775807 then if (((⟨#[32]⟩ : ByteArray) ++ p4)).size + ((⟨#[47]⟩ : ByteArray)).size ≤ 9223372036854775807 then (FiorPoint k x3).bind fun p5 => if ((((⟨#[32]⟩ : ByteArray) ++ p4) ++ (⟨#[47]⟩ : ByteArray))).size + (p5).size ≤ 9223372036854775807 then if (v0.1).size + (((((⟨#[32]⟩ : ByteArray) ++ p4) ++ (⟨#[47]⟩ : ByteArray)) ++ p5)).size ≤ 9223372036854775807 then rec ((v0.1 ++ ((((⟨#[32]⟩ : ByteArray) ++ p4) ++ (⟨#[47]⟩ : ByteArray)) ++ p5)), (IntKind.i64.wrap (v0.2 + 1))) else none else none else none else none else none else (FiorPoint k x2).bind fun p6 => if ((⟨#[32]⟩ : ByteArray)).size + (p6).size ≤ 9223372036854775807 then if (((⟨#[32]⟩ : ByteArray) ++ p6)).size + ((⟨#[47]⟩ : ByteArray)).size ≤ 9223372036854775807 then (FiorPoint k (-1)).bind fun p7 => if ((((⟨#[32]⟩ : ByteArray) ++ p6) ++ (⟨#[47]⟩ : ByteArray))).size + (p7).size ≤ 9223372036854775807 then if (v0.1).size + (((((⟨#[32]⟩ : ByteArray) ++ p6) ++ (⟨#[47]⟩ : ByteArray)) ++ p7)).size ≤ 9223372036854775807 then rec ((v0.1 ++ ((((⟨#[32]⟩ : ByteArray) ++ p6) ++ (⟨#[47]⟩ : ByteArray)) ++ p7)), (IntKind.i64.wrap (v0.2 + 1))) else none else none else none else none else none else X0 v0
noncomputable def LiFormatTable_0 {R : Type} (k : Nat) (X0 : ViFormatTable_0 → Option R) (c : CiFormatTable_0) : Nat → ViFormatTable_0 → Option R
  | 0, _ => none
  | n + 1, v => BiFormatTable_0 k X0 c (LiFormatTable_0 k X0 c n) v
theorem biFormatTable_0 {R : Type} (k n : Nat) (K : Ex → St → Option R) (c0 : CiFormatTable_0) (v : ViFormatTable_0) : loopRun [0, 1, 3, 13, 14, 15] (run E (den E k) (lv 10) k (nthLoop Tryd.f10 0)) (n + 1) (StiFormatTable_0 c0 v) K = BiFormatTable_0 k (fun (v0 : ViFormatTable_0) => K (.exit 0) ⟨41, 1, [(1, .c (.ptr 0 0)), (3, .c (.v (.string v0.1))), (13, .c (.l 3 (.i .i64) c0.1)), (14, .c (.v (.int .i64 c0.2.1))), (15, .c (.v (.int .i64 v0.2))), (16, .c (.v (.bool (decide (v0.2 < c0.2.1)))))], [(0, .var [.v (.int .i64 c0.2.2.1), .l 3 (.i .i64) c0.2.2.2.1, .l 3 (.i .i64) c0.2.2.2.2])]⟩) c0 (fun v => loopRun [0, 1, 3, 13, 14, 15] (run E (den E k) (lv 10) k (nthLoop Tryd.f10 0)) n (StiFormatTable_0 c0 v) K) v := by kernel_rfl
theorem liFormatTable_0 {R : Type} (k : Nat) (K : Ex → St → Option R) (c0 : CiFormatTable_0) : ∀ (n : Nat) (v : ViFormatTable_0), loopRun [0, 1, 3, 13, 14, 15] (run E (den E k) (lv 10) k (nthLoop Tryd.f10 0)) n (StiFormatTable_0 c0 v) K = LiFormatTable_0 k (fun (v0 : ViFormatTable_0) => K (.exit 0) ⟨41, 1, [(1, .c (.ptr 0 0)), (3, .c (.v (.string v0.1))), (13, .c (.l 3 (.i .i64) c0.1)), (14, .c (.v (.int .i64 c0.2.1))), (15, .c (.v (.int .i64 v0.2))), (16, .c (.v (.bool (decide (v0.2 < c0.2.1)))))], [(0, .var [.v (.int .i64 c0.2.2.1), .l 3 (.i .i64) c0.2.2.2.1, .l 3 (.i .i64) c0.2.2.2.2])]⟩) c0 n v := by
  intro n
  induction n with
  | zero => intro v; rfl
  | succ n ih =>
    intro v
    refine (biFormatTable_0 k n K c0 v).trans ?_
    rw [funext ih]
    kernel_rfl
theorem miFormatTable_0 (k : Nat) (a0 : Int × (List Int) × List Int) : FiFormatTable (k + 1) a0 = (FiFormatInt k a0.1).bind fun p1 => if ((⟨#[116, 111, 32]⟩ : ByteArray)).size + (p1).size ≤ 9223372036854775807 then if (((⟨#[116, 111, 32]⟩ : ByteArray) ++ p1)).size + ((⟨#[58]⟩ : ByteArray)).size ≤ 9223372036854775807 then loopRun (R := ByteArray) [0, 1, 3, 13, 14, 15] (run E (den E k) (lv 10) k (nthLoop Tryd.f10 0)) k (StiFormatTable_0 (a0.2.2, (a0.2.2.length : Int), a0) ((((⟨#[116, 111, 32]⟩ : ByteArray) ++ p1) ++ (⟨#[58]⟩ : ByteArray)), 0)) (kontAt E (den E k) (lv 10) k (bodyOf Tryd.f10) 0 [] (finish E (rs 10) Tryd.f10 : Ex → St → Option (ByteArray))) else none else none := by kernel_rfl
theorem eiFormatTable (k : Nat) (a0 : Int × (List Int) × List Int) : FiFormatTable (k + 1) a0 = (FiFormatInt k a0.1).bind fun p1 => if ((⟨#[116, 111, 32]⟩ : ByteArray)).size + (p1).size ≤ 9223372036854775807 then if (((⟨#[116, 111, 32]⟩ : ByteArray) ++ p1)).size + ((⟨#[58]⟩ : ByteArray)).size ≤ 9223372036854775807 then LiFormatTable_0 k (fun (v0 : ByteArray × Int) => some v0.1) (a0.2.2, (a0.2.2.length : Int), a0) k ((((⟨#[116, 111, 32]⟩ : ByteArray) ++ p1) ++ (⟨#[58]⟩ : ByteArray)), 0) else none else none := by
  rw [miFormatTable_0]
  simp only [liFormatTable_0]
  kernel_rfl
/-! loop.example/g00599/laws.eqIntS -/
noncomputable def FleqIntS (k : Nat) (a0 : List Int) (a1 : List Int) : Option (Bool) := den E k 15 [.c (.l 3 (.i .i64) a0), .c (.l 3 (.i .i64) a1)]
abbrev CleqIntS_0 : Type := (List Int) × (List Int)
abbrev VleqIntS_0 : Type := Int
def StleqIntS_0 (c0 : CleqIntS_0) (v0 : VleqIntS_0) : St := ⟨26, 0, [(0, .c (.l 3 (.i .i64) c0.1)), (1, .c (.l 3 (.i .i64) c0.2)), (5, .c (.v (.int .i64 v0)))], []⟩
noncomputable def BleqIntS_0 {R : Type} (k : Nat) (X0 : VleqIntS_0 → Int → Int → Option R) (X1 : VleqIntS_0 → Option R) (c0 : CleqIntS_0) (rec : VleqIntS_0 → Option R) (v0 : VleqIntS_0) : Option R := if (decide (v0 < (c0.1.length : Int))) = true then if 0 ≤ v0 then ix c0.1 v0.toNat fun x1 => if 0 ≤ v0 then ix c0.2 v0.toNat fun x2 => if (x1 != x2) = true then X0 v0 x1 x2 else rec (IntKind.i64.wrap (v0 + 1)) else none else none else X1 v0
noncomputable def LleqIntS_0 {R : Type} (k : Nat) (X0 : VleqIntS_0 → Int → Int → Option R) (X1 : VleqIntS_0 → Option R) (c : CleqIntS_0) : Nat → VleqIntS_0 → Option R
  | 0, _ => none
  | n + 1, v => BleqIntS_0 k X0 X1 c (LleqIntS_0 k X0 X1 c n) v
theorem bleqIntS_0 {R : Type} (k n : Nat) (K : Ex → St → Option R) (c0 : CleqIntS_0) (v : VleqIntS_0) : loopRun [0, 0, 1, 5] (run E (den E k) (lv 15) k (nthLoop Tryd.f15 0)) (n + 1) (StleqIntS_0 c0 v) K = BleqIntS_0 k (fun (v0 : VleqIntS_0) (x1 : Int) (x2 : Int) => K .ret ⟨26, 0, [(0, .c (.l 3 (.i .i64) c0.1)), (1, .c (.l 3 (.i .i64) c0.2)), (4, .c (.v (.bool false))), (5, .c (.v (.int .i64 v0))), (11, .c (.v (.int .i64 v0))), (12, .c (.l 3 (.i .i64) c0.1)), (13, .c (.v (.int .i64 (c0.1.length : Int)))), (14, .c (.v (.bool (decide (v0 < (c0.1.length : Int)))))), (17, .c (.l 3 (.i .i64) c0.1)), (18, .c (.v (.int .i64 v0))), (19, .c (.at_ [.v (.int .i64 x1)])), (20, .c (.v (.int .i64 x1))), (21, .c (.l 3 (.i .i64) c0.2)), (22, .c (.v (.int .i64 v0))), (23, .c (.at_ [.v (.int .i64 x2)])), (24, .c (.v (.int .i64 x2))), (25, .c (.v (.bool (x1 != x2))))], []⟩) (fun (v0 : VleqIntS_0) => K (.exit 0) ⟨26, 0, [(0, .c (.l 3 (.i .i64) c0.1)), (1, .c (.l 3 (.i .i64) c0.2)), (5, .c (.v (.int .i64 v0))), (11, .c (.v (.int .i64 v0))), (12, .c (.l 3 (.i .i64) c0.1)), (13, .c (.v (.int .i64 (c0.1.length : Int)))), (14, .c (.v (.bool (decide (v0 < (c0.1.length : Int))))))], []⟩) c0 (fun v => loopRun [0, 0, 1, 5] (run E (den E k) (lv 15) k (nthLoop Tryd.f15 0)) n (StleqIntS_0 c0 v) K) v := by kernel_rfl
theorem lleqIntS_0 {R : Type} (k : Nat) (K : Ex → St → Option R) (c0 : CleqIntS_0) : ∀ (n : Nat) (v : VleqIntS_0), loopRun [0, 0, 1, 5] (run E (den E k) (lv 15) k (nthLoop Tryd.f15 0)) n (StleqIntS_0 c0 v) K = LleqIntS_0 k (fun (v0 : VleqIntS_0) (x1 : Int) (x2 : Int) => K .ret ⟨26, 0, [(0, .c (.l 3 (.i .i64) c0.1)), (1, .c (.l 3 (.i .i64) c0.2)), (4, .c (.v (.bool false))), (5, .c (.v (.int .i64 v0))), (11, .c (.v (.int .i64 v0))), (12, .c (.l 3 (.i .i64) c0.1)), (13, .c (.v (.int .i64 (c0.1.length : Int)))), (14, .c (.v (.bool (decide (v0 < (c0.1.length : Int)))))), (17, .c (.l 3 (.i .i64) c0.1)), (18, .c (.v (.int .i64 v0))), (19, .c (.at_ [.v (.int .i64 x1)])), (20, .c (.v (.int .i64 x1))), (21, .c (.l 3 (.i .i64) c0.2)), (22, .c (.v (.int .i64 v0))), (23, .c (.at_ [.v (.int .i64 x2)])), (24, .c (.v (.int .i64 x2))), (25, .c (.v (.bool (x1 != x2))))], []⟩) (fun (v0 : VleqIntS_0) => K (.exit 0) ⟨26, 0, [(0, .c (.l 3 (.i .i64) c0.1)), (1, .c (.l 3 (.i .i64) c0.2)), (5, .c (.v (.int .i64 v0))), (11, .c (.v (.int .i64 v0))), (12, .c (.l 3 (.i .i64) c0.1)), (13, .c (.v (.int .i64 (c0.1.length : Int)))), (14, .c (.v (.bool (decide (v0 < (c0.1.length : Int))))))], []⟩) c0 n v := by
  intro n
  induction n with
  | zero => intro v; rfl
  | succ n ih =>
    intro v
    refine (bleqIntS_0 k n K c0 v).trans ?_
    rw [funext ih]
    kernel_rfl
theorem mleqIntS_0 (k : Nat) (a0 : List Int) (a1 : List Int) : FleqIntS (k + 1) a0 a1 = if ((a0.length : Int) != (a1.length : Int)) = true then some false else loopRun (R := Bool) [0, 0, 1, 5] (run E (den E k) (lv 15) k (nthLoop Tryd.f15 0)) k (StleqIntS_0 (a0, a1) 0) (kontAt E (den E k) (lv 15) k (bodyOf Tryd.f15) 0 [] (finish E (rs 15) Tryd.f15 : Ex → St → Option (Bool))) := by kernel_rfl
theorem eleqIntS (k : Nat) (a0 : List Int) (a1 : List Int) : FleqIntS (k + 1) a0 a1 = if ((a0.length : Int) != (a1.length : Int)) = true then some false else LleqIntS_0 k (fun (v0 : Int) (x1 : Int) (x2 : Int) => some false) (fun (v0 : Int) => some true) (a0, a1) k 0 := by
  rw [mleqIntS_0]
  simp only [lleqIntS_0]
  kernel_rfl
/-! loop.example/g00599/laws.eqTable -/
noncomputable def FleqTable (k : Nat) (a0 : Int × (List Int) × List Int) (a1 : Int × (List Int) × List Int) : Option (Bool) := den E k 11 [.agg [.v (.int .i64 a0.1), .l 3 (.i .i64) a0.2.1, .l 3 (.i .i64) a0.2.2], .agg [.v (.int .i64 a1.1), .l 3 (.i .i64) a1.2.1, .l 3 (.i .i64) a1.2.2]]
theorem eleqTable (k : Nat) (a0 : Int × (List Int) × List Int) (a1 : Int × (List Int) × List Int) : FleqTable (k + 1) a0 a1 = if (a0.1 != a1.1) = true then some false else (FleqIntS k a0.2.1 a1.2.1).bind fun p1 => if (!p1) = true then some false else (FleqIntS k a0.2.2 a1.2.2).bind fun p2 => if (!p2) = true then some false else some true := by kernel_rfl
/-! loop.example/g00599/laws.szIntS -/
noncomputable def FlszIntS (k : Nat) (a0 : List Int) (a1 : Int) : Option (Int) := den E k 26 [.c (.l 3 (.i .i64) a0), .c (.v (.int .i64 a1))]
theorem elszIntS (k : Nat) (a0 : List Int) (a1 : Int) : FlszIntS (k + 1) a0 a1 = if (decide ((IntKind.i64.wrap (a1 - (a0.length : Int))) < 0)) = true then some (-1) else some (IntKind.i64.wrap (a1 - (a0.length : Int))) := by kernel_rfl
/-! loop.example/g00599/laws.szTable -/
noncomputable def FlszTable (k : Nat) (a0 : Int × (List Int) × List Int) (a1 : Int) : Option (Int) := den E k 7 [.agg [.v (.int .i64 a0.1), .l 3 (.i .i64) a0.2.1, .l 3 (.i .i64) a0.2.2], .c (.v (.int .i64 a1))]
theorem elszTable (k : Nat) (a0 : Int × (List Int) × List Int) (a1 : Int) : FlszTable (k + 1) a0 a1 = (FlszIntS k a0.2.1 a1).bind fun p1 => if (decide (p1 < 0)) = true then some (-1) else (FlszIntS k a0.2.2 p1).bind fun p2 => if (decide (p2 < 0)) = true then some (-1) else some p2 := by kernel_rfl
/-! loop.example/g00599/laws.toIntS -/
noncomputable def FltoIntS (k : Nat) (a0 : List Int) : Option (List Int) := den E k 13 [.c (.l 3 (.i .i64) a0)]
abbrev CltoIntS_0 : Type := (List Int)
abbrev VltoIntS_0 : Type := Int × (List Int)
def StltoIntS_0 (c0 : CltoIntS_0) (v0 : VltoIntS_0) : St := ⟨22, 1, [(0, .c (.l 3 (.i .i64) c0)), (3, .c (.ref 0)), (4, .c (.v (.int .i64 v0.1)))], [(0, .arr 3 (.i .i64) v0.2)]⟩
noncomputable def BltoIntS_0 {R : Type} (k : Nat) (X0 : VltoIntS_0 → Option R) (c0 : CltoIntS_0) (rec : VltoIntS_0 → Option R) (v0 : VltoIntS_0) : Option R := if (decide (v0.1 < (c0.length : Int))) = true then if 0 ≤ v0.1 then ix c0 v0.1.toNat fun x1 => if 0 ≤ v0.1 then if v0.1 < (v0.2.length : Int) then ix v0.2 v0.1.toNat fun y2 => rec ((IntKind.i64.wrap (v0.1 + 1)), (v0.2.set v0.1.toNat x1)) else none else none else none else X0 v0
noncomputable def LltoIntS_0 {R : Type} (k : Nat) (X0 : VltoIntS_0 → Option R) (c : CltoIntS_0) : Nat → VltoIntS_0 → Option R
  | 0, _ => none
  | n + 1, v => BltoIntS_0 k X0 c (LltoIntS_0 k X0 c n) v
theorem bltoIntS_0 {R : Type} (k n : Nat) (K : Ex → St → Option R) (c0 : CltoIntS_0) (v : VltoIntS_0) : loopRun [0, 0, 3, 4] (run E (den E k) (lv 13) k (nthLoop Tryd.f13 0)) (n + 1) (StltoIntS_0 c0 v) K = BltoIntS_0 k (fun (v0 : VltoIntS_0) => K (.exit 0) ⟨22, 1, [(0, .c (.l 3 (.i .i64) c0)), (3, .c (.ref 0)), (4, .c (.v (.int .i64 v0.1))), (8, .c (.v (.int .i64 v0.1))), (9, .c (.l 3 (.i .i64) c0)), (10, .c (.v (.int .i64 (c0.length : Int)))), (11, .c (.v (.bool (decide (v0.1 < (c0.length : Int))))))], [(0, .arr 3 (.i .i64) v0.2)]⟩) c0 (fun v => loopRun [0, 0, 3, 4] (run E (den E k) (lv 13) k (nthLoop Tryd.f13 0)) n (StltoIntS_0 c0 v) K) v := by kernel_rfl
theorem lltoIntS_0 {R : Type} (k : Nat) (K : Ex → St → Option R) (c0 : CltoIntS_0) : ∀ (n : Nat) (v : VltoIntS_0), loopRun [0, 0, 3, 4] (run E (den E k) (lv 13) k (nthLoop Tryd.f13 0)) n (StltoIntS_0 c0 v) K = LltoIntS_0 k (fun (v0 : VltoIntS_0) => K (.exit 0) ⟨22, 1, [(0, .c (.l 3 (.i .i64) c0)), (3, .c (.ref 0)), (4, .c (.v (.int .i64 v0.1))), (8, .c (.v (.int .i64 v0.1))), (9, .c (.l 3 (.i .i64) c0)), (10, .c (.v (.int .i64 (c0.length : Int)))), (11, .c (.v (.bool (decide (v0.1 < (c0.length : Int))))))], [(0, .arr 3 (.i .i64) v0.2)]⟩) c0 n v := by
  intro n
  induction n with
  | zero => intro v; rfl
  | succ n ih =>
    intro v
    refine (bltoIntS_0 k n K c0 v).trans ?_
    rw [funext ih]
    kernel_rfl
theorem mltoIntS_0 (k : Nat) (a0 : List Int) : FltoIntS (k + 1) a0 = if (a0.length : Int) = (a0.length : Int) then if 0 ≤ (a0.length : Int) then if 8 * (a0.length : Int).toNat ≤ 281474976710656 then loopRun (R := List Int) [0, 0, 3, 4] (run E (den E k) (lv 13) k (nthLoop Tryd.f13 0)) k (StltoIntS_0 a0 (0, (List.replicate (a0.length : Int).toNat (0 : Int)))) (kontAt E (den E k) (lv 13) k (bodyOf Tryd.f13) 0 [] (finish E (rs 13) Tryd.f13 : Ex → St → Option (List Int))) else none else none else none := by kernel_rfl
theorem eltoIntS (k : Nat) (a0 : List Int) : FltoIntS (k + 1) a0 = if (a0.length : Int) = (a0.length : Int) then if 0 ≤ (a0.length : Int) then if 8 * (a0.length : Int).toNat ≤ 281474976710656 then LltoIntS_0 k (fun (v0 : Int × (List Int)) => some v0.2) a0 k (0, (List.replicate (a0.length : Int).toNat (0 : Int))) else none else none else none := by
  rw [mltoIntS_0]
  simp only [lltoIntS_0]
  kernel_rfl
/-! loop.example/g00599/laws.toTable -/
noncomputable def FltoTable (k : Nat) (a0 : Int × (List Int) × List Int) : Option (Int × (List Int) × List Int) := den E k 9 [.agg [.v (.int .i64 a0.1), .l 3 (.i .i64) a0.2.1, .l 3 (.i .i64) a0.2.2]]
theorem eltoTable (k : Nat) (a0 : Int × (List Int) × List Int) : FltoTable (k + 1) a0 = (FltoIntS k a0.2.1).bind fun p1 => (FltoIntS k a0.2.2).bind fun p2 => some (a0.1, p1, p2) := by kernel_rfl
/-! loop.example/g00599/spec.FormatInt -/
noncomputable def FsFormatInt (k : Nat) (a0 : Int) : Option (ByteArray) := den E k 27 [.c (.v (.int .i64 a0))]
abbrev CsFormatInt_0 : Type := Int
abbrev VsFormatInt_0 : Type := ByteArray × Int
def StsFormatInt_0 (c0 : CsFormatInt_0) (v0 : VsFormatInt_0) : St := ⟨31, 0, [(0, .c (.v (.int .i64 c0))), (3, .c (.v (.string v0.1))), (4, .c (.v (.int .i64 v0.2)))], []⟩
noncomputable def BsFormatInt_0 {R : Type} (k : Nat) (X0 : VsFormatInt_0 → Option R) (c0 : CsFormatInt_0) (rec : VsFormatInt_0 → Option R) (v0 : VsFormatInt_0) : Option R := if (v0.2 != 0) = true then if (decide (((v0.2).tmod 10) < 0)) = true then if ((bytesOf [(IntKind.u8.wrap (IntKind.i64.wrap (48 + (IntKind.i64.wrap (0 - ((v0.2).tmod 10))))))])).size + (v0.1).size ≤ 9223372036854775807 then rec (((bytesOf [(IntKind.u8.wrap (IntKind.i64.wrap (48 + (IntKind.i64.wrap (0 - ((v0.2).tmod 10))))))]) ++ v0.1), (IntKind.i64.wrap ((v0.2).tdiv 10))) else none else if ((bytesOf [(IntKind.u8.wrap (IntKind.i64.wrap (48 + ((v0.2).tmod 10))))])).size + (v0.1).size ≤ 9223372036854775807 then rec (((bytesOf [(IntKind.u8.wrap (IntKind.i64.wrap (48 + ((v0.2).tmod 10))))]) ++ v0.1), (IntKind.i64.wrap ((v0.2).tdiv 10))) else none else X0 v0
noncomputable def LsFormatInt_0 {R : Type} (k : Nat) (X0 : VsFormatInt_0 → Option R) (c : CsFormatInt_0) : Nat → VsFormatInt_0 → Option R
  | 0, _ => none
  | n + 1, v => BsFormatInt_0 k X0 c (LsFormatInt_0 k X0 c n) v
theorem bsFormatInt_0 {R : Type} (k n : Nat) (K : Ex → St → Option R) (c0 : CsFormatInt_0) (v : VsFormatInt_0) : loopRun [0, 0, 3, 4] (run E (den E k) (lv 27) k (nthLoop Tryd.f27 0)) (n + 1) (StsFormatInt_0 c0 v) K = BsFormatInt_0 k (fun (v0 : VsFormatInt_0) => K (.exit 0) ⟨31, 0, [(0, .c (.v (.int .i64 c0))), (3, .c (.v (.string v0.1))), (4, .c (.v (.int .i64 v0.2))), (9, .c (.v (.int .i64 v0.2))), (10, .c (.v (.bool (v0.2 != 0))))], []⟩) c0 (fun v => loopRun [0, 0, 3, 4] (run E (den E k) (lv 27) k (nthLoop Tryd.f27 0)) n (StsFormatInt_0 c0 v) K) v := by kernel_rfl
theorem lsFormatInt_0 {R : Type} (k : Nat) (K : Ex → St → Option R) (c0 : CsFormatInt_0) : ∀ (n : Nat) (v : VsFormatInt_0), loopRun [0, 0, 3, 4] (run E (den E k) (lv 27) k (nthLoop Tryd.f27 0)) n (StsFormatInt_0 c0 v) K = LsFormatInt_0 k (fun (v0 : VsFormatInt_0) => K (.exit 0) ⟨31, 0, [(0, .c (.v (.int .i64 c0))), (3, .c (.v (.string v0.1))), (4, .c (.v (.int .i64 v0.2))), (9, .c (.v (.int .i64 v0.2))), (10, .c (.v (.bool (v0.2 != 0))))], []⟩) c0 n v := by
  intro n
  induction n with
  | zero => intro v; rfl
  | succ n ih =>
    intro v
    refine (bsFormatInt_0 k n K c0 v).trans ?_
    rw [funext ih]
    kernel_rfl
theorem msFormatInt_0 (k : Nat) (a0 : Int) : FsFormatInt (k + 1) a0 = if (a0 == 0) = true then some (⟨#[48]⟩ : ByteArray) else loopRun (R := ByteArray) [0, 0, 3, 4] (run E (den E k) (lv 27) k (nthLoop Tryd.f27 0)) k (StsFormatInt_0 a0 ((⟨#[]⟩ : ByteArray), a0)) (kontAt E (den E k) (lv 27) k (bodyOf Tryd.f27) 0 [] (finish E (rs 27) Tryd.f27 : Ex → St → Option (ByteArray))) := by kernel_rfl
theorem esFormatInt (k : Nat) (a0 : Int) : FsFormatInt (k + 1) a0 = if (a0 == 0) = true then some (⟨#[48]⟩ : ByteArray) else LsFormatInt_0 k (fun (v0 : ByteArray × Int) => if (decide (a0 < 0)) = true then if ((⟨#[45]⟩ : ByteArray)).size + (v0.1).size ≤ 9223372036854775807 then some ((⟨#[45]⟩ : ByteArray) ++ v0.1) else none else some v0.1) a0 k ((⟨#[]⟩ : ByteArray), a0) := by
  rw [msFormatInt_0]
  simp only [lsFormatInt_0]
  kernel_rfl
/-! loop.example/g00599/spec.l39Dot -/
noncomputable def Fsl39Dot (k : Nat) (a0 : Int) : Option (ByteArray) := den E k 28 [.c (.v (.int .i64 a0))]
theorem esl39Dot (k : Nat) (a0 : Int) : Fsl39Dot (k + 1) a0 = if (a0 == -1) = true then some (⟨#[46]⟩ : ByteArray) else (FsFormatInt k a0).bind fun p1 => some p1 := by kernel_rfl
/-! loop.example/g00599/spec.FormatTable -/
noncomputable def FsFormatTable (k : Nat) (a0 : Int × (List Int) × List Int) : Option (ByteArray) := den E k 8 [.agg [.v (.int .i64 a0.1), .l 3 (.i .i64) a0.2.1, .l 3 (.i .i64) a0.2.2]]
abbrev CsFormatTable_0 : Type := (Int × (List Int) × List Int)
abbrev VsFormatTable_0 : Type := ByteArray × Int
def StsFormatTable_0 (c0 : CsFormatTable_0) (v0 : VsFormatTable_0) : St := ⟨42, 1, [(1, .c (.ptr 0 0)), (3, .c (.v (.string v0.1))), (4, .c (.v (.int .i64 v0.2)))], [(0, .var [.v (.int .i64 c0.1), .l 3 (.i .i64) c0.2.1, .l 3 (.i .i64) c0.2.2])]⟩
noncomputable def BsFormatTable_0 {R : Type} (k : Nat) (X0 : VsFormatTable_0 → Option R) (c0 : CsFormatTable_0) (rec : VsFormatTable_0 → Option R) (v0 : VsFormatTable_0) : Option R := if (decide (v0.2 < (c0.2.2.length : Int))) = true then if (decide (v0.2 < (c0.2.1.length : Int))) = true then if 0 ≤ v0.2 then ix c0.2.1 v0.2.toNat fun x2 => if (v0.1).size + ((⟨#[32]⟩ : ByteArray)).size ≤ 9223372036854775807 then if 0 ≤ v0.2 then ix c0.2.2 v0.2.toNat fun x3 => (Fsl39Dot k x3).bind fun p4 => if ((v0.1 ++ (⟨#[32]⟩ : ByteArray))).size + (p4).size ≤ 9223372036854775807 then if (((v0.1 ++ (⟨#[32]⟩ : ByteArray)) ++ p4)).size + ((⟨#[47]⟩ : ByteArray)).size ≤ 9223372036854775807 then (Fsl39Dot k x2).bind fun p5 => if ((((v0.1 ++ (⟨#[32]⟩ : ByteArray)) ++ p4) ++ (⟨#[47]⟩ : ByteArray))).size + (p5).size ≤ 9223372036854775807 then rec (((((v0.1 ++ (⟨#[32]⟩ : ByteArray)) ++ p4) ++ (⟨#[47]⟩ : ByteArray)) ++ p5), (IntKind.i64.wrap (v0.2 + 1))) else none else none else none else none else none else none else if (v0.1).size + ((⟨#[32]⟩ : ByteArray)).size ≤ 9223372036854775807 then if 0 ≤ v0.2 then ix c0.2.2 v0.2.toNat fun x6 => (Fsl39Dot k x6).bind fun p7 => if ((v0.1 ++ (⟨#[32]⟩ : ByteArray))).size + (p7).size ≤ 9223372036854775807 then if (((v0.1 ++ (⟨#[32]⟩ : ByteArray)) ++ p7)).size + ((⟨#[47]⟩ : ByteArray)).size ≤ 9223372036854775807 then (Fsl39Dot k (-1)).bind fun p8 => if ((((v0.1 ++ (⟨#[32]⟩ : ByteArray)) ++ p7) ++ (⟨#[47]⟩ : ByteArray))).size + (p8).size ≤ 9223372036854775807 then rec (((((v0.1 ++ (⟨#[32]⟩ : ByteArray)) ++ p7) ++ (⟨#[47]⟩ : ByteArray)) ++ p8), (IntKind.i64.wrap (v0.2 + 1))) else none else none else none else none else none else X0 v0
noncomputable def LsFormatTable_0 {R : Type} (k : Nat) (X0 : VsFormatTable_0 → Option R) (c : CsFormatTable_0) : Nat → VsFormatTable_0 → Option R
  | 0, _ => none
  | n + 1, v => BsFormatTable_0 k X0 c (LsFormatTable_0 k X0 c n) v
theorem bsFormatTable_0 {R : Type} (k n : Nat) (K : Ex → St → Option R) (c0 : CsFormatTable_0) (v : VsFormatTable_0) : loopRun [0, 1, 3, 4] (run E (den E k) (lv 8) k (nthLoop Tryd.f8 0)) (n + 1) (StsFormatTable_0 c0 v) K = BsFormatTable_0 k (fun (v0 : VsFormatTable_0) => K (.exit 0) ⟨42, 1, [(1, .c (.ptr 0 0)), (3, .c (.v (.string v0.1))), (4, .c (.v (.int .i64 v0.2))), (11, .c (.v (.int .i64 v0.2))), (12, .c (.ptr 0 2)), (13, .c (.l 3 (.i .i64) c0.2.2)), (14, .c (.v (.int .i64 (c0.2.2.length : Int)))), (15, .c (.v (.bool (decide (v0.2 < (c0.2.2.length : Int))))))], [(0, .var [.v (.int .i64 c0.1), .l 3 (.i .i64) c0.2.1, .l 3 (.i .i64) c0.2.2])]⟩) c0 (fun v => loopRun [0, 1, 3, 4] (run E (den E k) (lv 8) k (nthLoop Tryd.f8 0)) n (StsFormatTable_0 c0 v) K) v := by kernel_rfl
theorem lsFormatTable_0 {R : Type} (k : Nat) (K : Ex → St → Option R) (c0 : CsFormatTable_0) : ∀ (n : Nat) (v : VsFormatTable_0), loopRun [0, 1, 3, 4] (run E (den E k) (lv 8) k (nthLoop Tryd.f8 0)) n (StsFormatTable_0 c0 v) K = LsFormatTable_0 k (fun (v0 : VsFormatTable_0) => K (.exit 0) ⟨42, 1, [(1, .c (.ptr 0 0)), (3, .c (.v (.string v0.1))), (4, .c (.v (.int .i64 v0.2))), (11, .c (.v (.int .i64 v0.2))), (12, .c (.ptr 0 2)), (13, .c (.l 3 (.i .i64) c0.2.2)), (14, .c (.v (.int .i64 (c0.2.2.length : Int)))), (15, .c (.v (.bool (decide (v0.2 < (c0.2.2.length : Int))))))], [(0, .var [.v (.int .i64 c0.1), .l 3 (.i .i64) c0.2.1, .l 3 (.i .i64) c0.2.2])]⟩) c0 n v := by
  intro n
  induction n with
  | zero => intro v; rfl
  | succ n ih =>
    intro v
    refine (bsFormatTable_0 k n K c0 v).trans ?_
    rw [funext ih]
    kernel_rfl
theorem msFormatTable_0 (k : Nat) (a0 : Int × (List Int) × List Int) : FsFormatTable (k + 1) a0 = (FsFormatInt k a0.1).bind fun p1 => if ((⟨#[116, 111, 32]⟩ : ByteArray)).size + (p1).size ≤ 9223372036854775807 then if (((⟨#[116, 111, 32]⟩ : ByteArray) ++ p1)).size + ((⟨#[58]⟩ : ByteArray)).size ≤ 9223372036854775807 then loopRun (R := ByteArray) [0, 1, 3, 4] (run E (den E k) (lv 8) k (nthLoop Tryd.f8 0)) k (StsFormatTable_0 a0 ((((⟨#[116, 111, 32]⟩ : ByteArray) ++ p1) ++ (⟨#[58]⟩ : ByteArray)), 0)) (kontAt E (den E k) (lv 8) k (bodyOf Tryd.f8) 0 [] (finish E (rs 8) Tryd.f8 : Ex → St → Option (ByteArray))) else none else none := by kernel_rfl
theorem esFormatTable (k : Nat) (a0 : Int × (List Int) × List Int) : FsFormatTable (k + 1) a0 = (FsFormatInt k a0.1).bind fun p1 => if ((⟨#[116, 111, 32]⟩ : ByteArray)).size + (p1).size ≤ 9223372036854775807 then if (((⟨#[116, 111, 32]⟩ : ByteArray) ++ p1)).size + ((⟨#[58]⟩ : ByteArray)).size ≤ 9223372036854775807 then LsFormatTable_0 k (fun (v0 : ByteArray × Int) => some v0.1) a0 k ((((⟨#[116, 111, 32]⟩ : ByteArray) ++ p1) ++ (⟨#[58]⟩ : ByteArray)), 0) else none else none := by
  rw [msFormatTable_0]
  simp only [lsFormatTable_0]
  kernel_rfl
/-! loop.example/g00599/laws.FnExactFormatTable -/
noncomputable def FlFnExactFormatTable (k : Nat) (a0 : Int × (List Int) × List Int) : Option (Bool) := den E k 3 [.agg [.v (.int .i64 a0.1), .l 3 (.i .i64) a0.2.1, .l 3 (.i .i64) a0.2.2]]
theorem elFnExactFormatTable (k : Nat) (a0 : Int × (List Int) × List Int) : FlFnExactFormatTable (k + 1) a0 = (FlszTable k a0 1048576).bind fun p1 => if (decide (p1 < 0)) = true then some true else (FltoTable k a0).bind fun p2 => (FsFormatTable k p2).bind fun p3 => (FltoTable k a0).bind fun p4 => (FiFormatTable k p4).bind fun p5 => if (!((p5).toList == (p3).toList)) = true then some false else (FltoTable k a0).bind fun p6 => (FleqTable k p4 p6).bind fun p7 => if (!p7) = true then some false else some true := by kernel_rfl
/-! loop.example/g00599/impl.FormatPiece -/
noncomputable def FiFormatPiece (k : Nat) (a0 : TPiece) : Option (ByteArray) := den E k 24 [.agg [.v (.int .i64 a0.1.1), .v (.int .i64 a0.1.2), .l 68 sI2 a0.2.1, .l 27 sTable a0.2.2]]
abbrev CiFormatPiece_0 : Type := (List (Int × Int)) × Int
abbrev ViFormatPiece_0 : Type := ByteArray × Int
def StiFormatPiece_0 (c0 : CiFormatPiece_0) (v0 : ViFormatPiece_0) : St := ⟨37, 0, [(3, .c (.v (.string v0.1))), (18, .c (.l 68 sI2 c0.1)), (19, .c (.v (.int .i64 c0.2))), (20, .c (.v (.int .i64 v0.2)))], []⟩
noncomputable def BiFormatPiece_0 {R : Type} (k : Nat) (X0 : ViFormatPiece_0 → Option R) (c0 : CiFormatPiece_0) (rec : ViFormatPiece_0 → Option R) (v0 : ViFormatPiece_0) : Option R := if (decide (v0.2 < c0.2)) = true then if 0 ≤ v0.2 then ix c0.1 v0.2.toNat fun x3 => (FiFormatInt k x3.1).bind fun p4 => if ((⟨#[32]⟩ : ByteArray)).size + (p4).size ≤ 9223372036854775807 then if (((⟨#[32]⟩ : ByteArray) ++ p4)).size + ((⟨#[43]⟩ : ByteArray)).size ≤ 9223372036854775807 then (FiFormatInt k x3.2).bind fun p5 => if ((((⟨#[32]⟩ : ByteArray) ++ p4) ++ (⟨#[43]⟩ : ByteArray))).size + (p5).size ≤ 9223372036854775807 then if (v0.1).size + (((((⟨#[32]⟩ : ByteArray) ++ p4) ++ (⟨#[43]⟩ : ByteArray)) ++ p5)).size ≤ 9223372036854775807 then rec ((v0.1 ++ ((((⟨#[32]⟩ : ByteArray) ++ p4) ++ (⟨#[43]⟩ : ByteArray)) ++ p5)), (IntKind.i64.wrap (v0.2 + 1))) else none else none else none else none else none else X0 v0
noncomputable def LiFormatPiece_0 {R : Type} (k : Nat) (X0 : ViFormatPiece_0 → Option R) (c : CiFormatPiece_0) : Nat → ViFormatPiece_0 → Option R
  | 0, _ => none
  | n + 1, v => BiFormatPiece_0 k X0 c (LiFormatPiece_0 k X0 c n) v
theorem biFormatPiece_0 {R : Type} (k n : Nat) (K : Ex → St → Option R) (c0 : CiFormatPiece_0) (v : ViFormatPiece_0) : loopRun [0, 3, 18, 19, 20] (run E (den E k) (lv 24) k (nthLoop Tryd.f24 0)) (n + 1) (StiFormatPiece_0 c0 v) K = BiFormatPiece_0 k (fun (v0 : ViFormatPiece_0) => K (.exit 0) ⟨37, 0, [(3, .c (.v (.string v0.1))), (18, .c (.l 68 sI2 c0.1)), (19, .c (.v (.int .i64 c0.2))), (20, .c (.v (.int .i64 v0.2))), (21, .c (.v (.bool (decide (v0.2 < c0.2)))))], []⟩) c0 (fun v => loopRun [0, 3, 18, 19, 20] (run E (den E k) (lv 24) k (nthLoop Tryd.f24 0)) n (StiFormatPiece_0 c0 v) K) v := by kernel_rfl
theorem liFormatPiece_0 {R : Type} (k : Nat) (K : Ex → St → Option R) (c0 : CiFormatPiece_0) : ∀ (n : Nat) (v : ViFormatPiece_0), loopRun [0, 3, 18, 19, 20] (run E (den E k) (lv 24) k (nthLoop Tryd.f24 0)) n (StiFormatPiece_0 c0 v) K = LiFormatPiece_0 k (fun (v0 : ViFormatPiece_0) => K (.exit 0) ⟨37, 0, [(3, .c (.v (.string v0.1))), (18, .c (.l 68 sI2 c0.1)), (19, .c (.v (.int .i64 c0.2))), (20, .c (.v (.int .i64 v0.2))), (21, .c (.v (.bool (decide (v0.2 < c0.2)))))], []⟩) c0 n v := by
  intro n
  induction n with
  | zero => intro v; rfl
  | succ n ih =>
    intro v
    refine (biFormatPiece_0 k n K c0 v).trans ?_
    rw [funext ih]
    kernel_rfl
theorem miFormatPiece_0 (k : Nat) (a0 : TPiece) : FiFormatPiece (k + 1) a0 = (FiFormatInt k a0.1.1).bind fun p1 => if (p1).size + ((⟨#[45]⟩ : ByteArray)).size ≤ 9223372036854775807 then (FiFormatInt k a0.1.2).bind fun p2 => if ((p1 ++ (⟨#[45]⟩ : ByteArray))).size + (p2).size ≤ 9223372036854775807 then if (((p1 ++ (⟨#[45]⟩ : ByteArray)) ++ p2)).size + ((⟨#[58]⟩ : ByteArray)).size ≤ 9223372036854775807 then loopRun (R := ByteArray) [0, 3, 18, 19, 20] (run E (den E k) (lv 24) k (nthLoop Tryd.f24 0)) k (StiFormatPiece_0 (a0.2.1, (a0.2.1.length : Int)) ((((p1 ++ (⟨#[45]⟩ : ByteArray)) ++ p2) ++ (⟨#[58]⟩ : ByteArray)), 0)) (kontAt E (den E k) (lv 24) k (bodyOf Tryd.f24) 0 [] (finish E (rs 24) Tryd.f24 : Ex → St → Option (ByteArray))) else none else none else none := by kernel_rfl
theorem eiFormatPiece (k : Nat) (a0 : TPiece) : FiFormatPiece (k + 1) a0 = (FiFormatInt k a0.1.1).bind fun p1 => if (p1).size + ((⟨#[45]⟩ : ByteArray)).size ≤ 9223372036854775807 then (FiFormatInt k a0.1.2).bind fun p2 => if ((p1 ++ (⟨#[45]⟩ : ByteArray))).size + (p2).size ≤ 9223372036854775807 then if (((p1 ++ (⟨#[45]⟩ : ByteArray)) ++ p2)).size + ((⟨#[58]⟩ : ByteArray)).size ≤ 9223372036854775807 then LiFormatPiece_0 k (fun (v0 : ByteArray × Int) => some v0.1) (a0.2.1, (a0.2.1.length : Int)) k ((((p1 ++ (⟨#[45]⟩ : ByteArray)) ++ p2) ++ (⟨#[58]⟩ : ByteArray)), 0) else none else none else none := by
  rw [miFormatPiece_0]
  simp only [liFormatPiece_0]
  kernel_rfl
/-! loop.example/g00599/laws.eqLink -/
noncomputable def FleqLink (k : Nat) (a0 : Int × Int) (a1 : Int × Int) : Option (Bool) := den E k 44 [.agg [.v (.int .i64 a0.1), .v (.int .i64 a0.2)], .agg [.v (.int .i64 a1.1), .v (.int .i64 a1.2)]]
theorem eleqLink (k : Nat) (a0 : Int × Int) (a1 : Int × Int) : FleqLink (k + 1) a0 a1 = if (a0.1 != a1.1) = true then some false else if (a0.2 != a1.2) = true then some false else some true := by kernel_rfl
/-! loop.example/g00599/laws.eqLinkS -/
noncomputable def FleqLinkS (k : Nat) (a0 : List (Int × Int)) (a1 : List (Int × Int)) : Option (Bool) := den E k 39 [.c (.l 68 sI2 a0), .c (.l 68 sI2 a1)]
abbrev CleqLinkS_0 : Type := (List (Int × Int)) × (List (Int × Int))
abbrev VleqLinkS_0 : Type := Int
def StleqLinkS_0 (c0 : CleqLinkS_0) (v0 : VleqLinkS_0) : St := ⟨27, 0, [(0, .c (.l 68 sI2 c0.1)), (1, .c (.l 68 sI2 c0.2)), (5, .c (.v (.int .i64 v0)))], []⟩
noncomputable def BleqLinkS_0 {R : Type} (k : Nat) (X0 : VleqLinkS_0 → (Int × Int) → (Int × Int) → Bool → Option R) (X1 : VleqLinkS_0 → Option R) (c0 : CleqLinkS_0) (rec : VleqLinkS_0 → Option R) (v0 : VleqLinkS_0) : Option R := if (decide (v0 < (c0.1.length : Int))) = true then if 0 ≤ v0 then ix c0.1 v0.toNat fun x1 => if 0 ≤ v0 then ix c0.2 v0.toNat fun x2 => (FleqLink k x1 x2).bind fun p3 => if (!p3) = true then X0 v0 x1 x2 p3 else rec (IntKind.i64.wrap (v0 + 1)) else none else none else X1 v0
noncomputable def LleqLinkS_0 {R : Type} (k : Nat) (X0 : VleqLinkS_0 → (Int × Int) → (Int × Int) → Bool → Option R) (X1 : VleqLinkS_0 → Option R) (c : CleqLinkS_0) : Nat → VleqLinkS_0 → Option R
  | 0, _ => none
  | n + 1, v => BleqLinkS_0 k X0 X1 c (LleqLinkS_0 k X0 X1 c n) v
theorem bleqLinkS_0 {R : Type} (k n : Nat) (K : Ex → St → Option R) (c0 : CleqLinkS_0) (v : VleqLinkS_0) : loopRun [0, 0, 1, 5] (run E (den E k) (lv 39) k (nthLoop Tryd.f39 0)) (n + 1) (StleqLinkS_0 c0 v) K = BleqLinkS_0 k (fun (v0 : VleqLinkS_0) (x1 : Int × Int) (x2 : Int × Int) (p3 : Bool) => K .ret ⟨27, 0, [(0, .c (.l 68 sI2 c0.1)), (1, .c (.l 68 sI2 c0.2)), (4, .c (.v (.bool false))), (5, .c (.v (.int .i64 v0))), (11, .c (.v (.int .i64 v0))), (12, .c (.l 68 sI2 c0.1)), (13, .c (.v (.int .i64 (c0.1.length : Int)))), (14, .c (.v (.bool (decide (v0 < (c0.1.length : Int)))))), (17, .c (.l 68 sI2 c0.1)), (18, .c (.v (.int .i64 v0))), (19, .c (.at_ [.v (.int .i64 x1.1), .v (.int .i64 x1.2)])), (20, .agg [.v (.int .i64 x1.1), .v (.int .i64 x1.2)]), (21, .c (.l 68 sI2 c0.2)), (22, .c (.v (.int .i64 v0))), (23, .c (.at_ [.v (.int .i64 x2.1), .v (.int .i64 x2.2)])), (24, .agg [.v (.int .i64 x2.1), .v (.int .i64 x2.2)]), (25, .c (.v (.bool p3))), (26, .c (.v (.bool (!p3))))], []⟩) (fun (v0 : VleqLinkS_0) => K (.exit 0) ⟨27, 0, [(0, .c (.l 68 sI2 c0.1)), (1, .c (.l 68 sI2 c0.2)), (5, .c (.v (.int .i64 v0))), (11, .c (.v (.int .i64 v0))), (12, .c (.l 68 sI2 c0.1)), (13, .c (.v (.int .i64 (c0.1.length : Int)))), (14, .c (.v (.bool (decide (v0 < (c0.1.length : Int))))))], []⟩) c0 (fun v => loopRun [0, 0, 1, 5] (run E (den E k) (lv 39) k (nthLoop Tryd.f39 0)) n (StleqLinkS_0 c0 v) K) v := by kernel_rfl
theorem lleqLinkS_0 {R : Type} (k : Nat) (K : Ex → St → Option R) (c0 : CleqLinkS_0) : ∀ (n : Nat) (v : VleqLinkS_0), loopRun [0, 0, 1, 5] (run E (den E k) (lv 39) k (nthLoop Tryd.f39 0)) n (StleqLinkS_0 c0 v) K = LleqLinkS_0 k (fun (v0 : VleqLinkS_0) (x1 : Int × Int) (x2 : Int × Int) (p3 : Bool) => K .ret ⟨27, 0, [(0, .c (.l 68 sI2 c0.1)), (1, .c (.l 68 sI2 c0.2)), (4, .c (.v (.bool false))), (5, .c (.v (.int .i64 v0))), (11, .c (.v (.int .i64 v0))), (12, .c (.l 68 sI2 c0.1)), (13, .c (.v (.int .i64 (c0.1.length : Int)))), (14, .c (.v (.bool (decide (v0 < (c0.1.length : Int)))))), (17, .c (.l 68 sI2 c0.1)), (18, .c (.v (.int .i64 v0))), (19, .c (.at_ [.v (.int .i64 x1.1), .v (.int .i64 x1.2)])), (20, .agg [.v (.int .i64 x1.1), .v (.int .i64 x1.2)]), (21, .c (.l 68 sI2 c0.2)), (22, .c (.v (.int .i64 v0))), (23, .c (.at_ [.v (.int .i64 x2.1), .v (.int .i64 x2.2)])), (24, .agg [.v (.int .i64 x2.1), .v (.int .i64 x2.2)]), (25, .c (.v (.bool p3))), (26, .c (.v (.bool (!p3))))], []⟩) (fun (v0 : VleqLinkS_0) => K (.exit 0) ⟨27, 0, [(0, .c (.l 68 sI2 c0.1)), (1, .c (.l 68 sI2 c0.2)), (5, .c (.v (.int .i64 v0))), (11, .c (.v (.int .i64 v0))), (12, .c (.l 68 sI2 c0.1)), (13, .c (.v (.int .i64 (c0.1.length : Int)))), (14, .c (.v (.bool (decide (v0 < (c0.1.length : Int))))))], []⟩) c0 n v := by
  intro n
  induction n with
  | zero => intro v; rfl
  | succ n ih =>
    intro v
    refine (bleqLinkS_0 k n K c0 v).trans ?_
    rw [funext ih]
    kernel_rfl
theorem mleqLinkS_0 (k : Nat) (a0 : List (Int × Int)) (a1 : List (Int × Int)) : FleqLinkS (k + 1) a0 a1 = if ((a0.length : Int) != (a1.length : Int)) = true then some false else loopRun (R := Bool) [0, 0, 1, 5] (run E (den E k) (lv 39) k (nthLoop Tryd.f39 0)) k (StleqLinkS_0 (a0, a1) 0) (kontAt E (den E k) (lv 39) k (bodyOf Tryd.f39) 0 [] (finish E (rs 39) Tryd.f39 : Ex → St → Option (Bool))) := by kernel_rfl
theorem eleqLinkS (k : Nat) (a0 : List (Int × Int)) (a1 : List (Int × Int)) : FleqLinkS (k + 1) a0 a1 = if ((a0.length : Int) != (a1.length : Int)) = true then some false else LleqLinkS_0 k (fun (v0 : Int) (x1 : Int × Int) (x2 : Int × Int) (p3 : Bool) => some false) (fun (v0 : Int) => some true) (a0, a1) k 0 := by
  rw [mleqLinkS_0]
  simp only [lleqLinkS_0]
  kernel_rfl
/-! loop.example/g00599/laws.eqSpan -/
noncomputable def FleqSpan (k : Nat) (a0 : Int × Int) (a1 : Int × Int) : Option (Bool) := den E k 34 [.agg [.v (.int .i64 a0.1), .v (.int .i64 a0.2)], .agg [.v (.int .i64 a1.1), .v (.int .i64 a1.2)]]
theorem eleqSpan (k : Nat) (a0 : Int × Int) (a1 : Int × Int) : FleqSpan (k + 1) a0 a1 = if (a0.1 != a1.1) = true then some false else if (a0.2 != a1.2) = true then some false else some true := by kernel_rfl
/-! loop.example/g00599/laws.eqTableS -/
noncomputable def FleqTableS (k : Nat) (a0 : List (Int × (List Int) × List Int)) (a1 : List (Int × (List Int) × List Int)) : Option (Bool) := den E k 40 [.c (.l 27 sTable a0), .c (.l 27 sTable a1)]
abbrev CleqTableS_0 : Type := (List (Int × (List Int) × List Int)) × (List (Int × (List Int) × List Int))
abbrev VleqTableS_0 : Type := Int
def StleqTableS_0 (c0 : CleqTableS_0) (v0 : VleqTableS_0) : St := ⟨27, 0, [(0, .c (.l 27 sTable c0.1)), (1, .c (.l 27 sTable c0.2)), (5, .c (.v (.int .i64 v0)))], []⟩
noncomputable def BleqTableS_0 {R : Type} (k : Nat) (X0 : VleqTableS_0 → (Int × (List Int) × List Int) → (Int × (List Int) × List Int) → Bool → Option R) (X1 : VleqTableS_0 → Option R) (c0 : CleqTableS_0) (rec : VleqTableS_0 → Option R) (v0 : VleqTableS_0) : Option R := if (decide (v0 < (c0.1.length : Int))) = true then if 0 ≤ v0 then ix c0.1 v0.toNat fun x1 => if 0 ≤ v0 then ix c0.2 v0.toNat fun x2 => (FleqTable k x1 x2).bind fun p3 => if (!p3) = true then X0 v0 x1 x2 p3 else rec (IntKind.i64.wrap (v0 + 1)) else none else none else X1 v0
noncomputable def LleqTableS_0 {R : Type} (k : Nat) (X0 : VleqTableS_0 → (Int × (List Int) × List Int) → (Int × (List Int) × List Int) → Bool → Option R) (X1 : VleqTableS_0 → Option R) (c : CleqTableS_0) : Nat → VleqTableS_0 → Option R
  | 0, _ => none
  | n + 1, v => BleqTableS_0 k X0 X1 c (LleqTableS_0 k X0 X1 c n) v
theorem bleqTableS_0 {R : Type} (k n : Nat) (K : Ex → St → Option R) (c0 : CleqTableS_0) (v : VleqTableS_0) : loopRun [0, 0, 1, 5] (run E (den E k) (lv 40) k (nthLoop Tryd.f40 0)) (n + 1) (StleqTableS_0 c0 v) K = BleqTableS_0 k (fun (v0 : VleqTableS_0) (x1 : Int × (List Int) × List Int) (x2 : Int × (List Int) × List Int) (p3 : Bool) => K .ret ⟨27, 0, [(0, .c (.l 27 sTable c0.1)), (1, .c (.l 27 sTable c0.2)), (4, .c (.v (.bool false))), (5, .c (.v (.int .i64 v0))), (11, .c (.v (.int .i64 v0))), (12, .c (.l 27 sTable c0.1)), (13, .c (.v (.int .i64 (c0.1.length : Int)))), (14, .c (.v (.bool (decide (v0 < (c0.1.length : Int)))))), (17, .c (.l 27 sTable c0.1)), (18, .c (.v (.int .i64 v0))), (19, .c (.at_ [.v (.int .i64 x1.1), .l 3 (.i .i64) x1.2.1, .l 3 (.i .i64) x1.2.2])), (20, .agg [.v (.int .i64 x1.1), .l 3 (.i .i64) x1.2.1, .l 3 (.i .i64) x1.2.2]), (21, .c (.l 27 sTable c0.2)), (22, .c (.v (.int .i64 v0))), (23, .c (.at_ [.v (.int .i64 x2.1), .l 3 (.i .i64) x2.2.1, .l 3 (.i .i64) x2.2.2])), (24, .agg [.v (.int .i64 x2.1), .l 3 (.i .i64) x2.2.1, .l 3 (.i .i64) x2.2.2]), (25, .c (.v (.bool p3))), (26, .c (.v (.bool (!p3))))], []⟩) (fun (v0 : VleqTableS_0) => K (.exit 0) ⟨27, 0, [(0, .c (.l 27 sTable c0.1)), (1, .c (.l 27 sTable c0.2)), (5, .c (.v (.int .i64 v0))), (11, .c (.v (.int .i64 v0))), (12, .c (.l 27 sTable c0.1)), (13, .c (.v (.int .i64 (c0.1.length : Int)))), (14, .c (.v (.bool (decide (v0 < (c0.1.length : Int))))))], []⟩) c0 (fun v => loopRun [0, 0, 1, 5] (run E (den E k) (lv 40) k (nthLoop Tryd.f40 0)) n (StleqTableS_0 c0 v) K) v := by kernel_rfl
theorem lleqTableS_0 {R : Type} (k : Nat) (K : Ex → St → Option R) (c0 : CleqTableS_0) : ∀ (n : Nat) (v : VleqTableS_0), loopRun [0, 0, 1, 5] (run E (den E k) (lv 40) k (nthLoop Tryd.f40 0)) n (StleqTableS_0 c0 v) K = LleqTableS_0 k (fun (v0 : VleqTableS_0) (x1 : Int × (List Int) × List Int) (x2 : Int × (List Int) × List Int) (p3 : Bool) => K .ret ⟨27, 0, [(0, .c (.l 27 sTable c0.1)), (1, .c (.l 27 sTable c0.2)), (4, .c (.v (.bool false))), (5, .c (.v (.int .i64 v0))), (11, .c (.v (.int .i64 v0))), (12, .c (.l 27 sTable c0.1)), (13, .c (.v (.int .i64 (c0.1.length : Int)))), (14, .c (.v (.bool (decide (v0 < (c0.1.length : Int)))))), (17, .c (.l 27 sTable c0.1)), (18, .c (.v (.int .i64 v0))), (19, .c (.at_ [.v (.int .i64 x1.1), .l 3 (.i .i64) x1.2.1, .l 3 (.i .i64) x1.2.2])), (20, .agg [.v (.int .i64 x1.1), .l 3 (.i .i64) x1.2.1, .l 3 (.i .i64) x1.2.2]), (21, .c (.l 27 sTable c0.2)), (22, .c (.v (.int .i64 v0))), (23, .c (.at_ [.v (.int .i64 x2.1), .l 3 (.i .i64) x2.2.1, .l 3 (.i .i64) x2.2.2])), (24, .agg [.v (.int .i64 x2.1), .l 3 (.i .i64) x2.2.1, .l 3 (.i .i64) x2.2.2]), (25, .c (.v (.bool p3))), (26, .c (.v (.bool (!p3))))], []⟩) (fun (v0 : VleqTableS_0) => K (.exit 0) ⟨27, 0, [(0, .c (.l 27 sTable c0.1)), (1, .c (.l 27 sTable c0.2)), (5, .c (.v (.int .i64 v0))), (11, .c (.v (.int .i64 v0))), (12, .c (.l 27 sTable c0.1)), (13, .c (.v (.int .i64 (c0.1.length : Int)))), (14, .c (.v (.bool (decide (v0 < (c0.1.length : Int))))))], []⟩) c0 n v := by
  intro n
  induction n with
  | zero => intro v; rfl
  | succ n ih =>
    intro v
    refine (bleqTableS_0 k n K c0 v).trans ?_
    rw [funext ih]
    kernel_rfl
theorem mleqTableS_0 (k : Nat) (a0 : List (Int × (List Int) × List Int)) (a1 : List (Int × (List Int) × List Int)) : FleqTableS (k + 1) a0 a1 = if ((a0.length : Int) != (a1.length : Int)) = true then some false else loopRun (R := Bool) [0, 0, 1, 5] (run E (den E k) (lv 40) k (nthLoop Tryd.f40 0)) k (StleqTableS_0 (a0, a1) 0) (kontAt E (den E k) (lv 40) k (bodyOf Tryd.f40) 0 [] (finish E (rs 40) Tryd.f40 : Ex → St → Option (Bool))) := by kernel_rfl
theorem eleqTableS (k : Nat) (a0 : List (Int × (List Int) × List Int)) (a1 : List (Int × (List Int) × List Int)) : FleqTableS (k + 1) a0 a1 = if ((a0.length : Int) != (a1.length : Int)) = true then some false else LleqTableS_0 k (fun (v0 : Int) (x1 : Int × (List Int) × List Int) (x2 : Int × (List Int) × List Int) (p3 : Bool) => some false) (fun (v0 : Int) => some true) (a0, a1) k 0 := by
  rw [mleqTableS_0]
  simp only [lleqTableS_0]
  kernel_rfl
/-! loop.example/g00599/laws.eqPiece -/
noncomputable def FleqPiece (k : Nat) (a0 : TPiece) (a1 : TPiece) : Option (Bool) := den E k 25 [.agg [.v (.int .i64 a0.1.1), .v (.int .i64 a0.1.2), .l 68 sI2 a0.2.1, .l 27 sTable a0.2.2], .agg [.v (.int .i64 a1.1.1), .v (.int .i64 a1.1.2), .l 68 sI2 a1.2.1, .l 27 sTable a1.2.2]]
theorem eleqPiece (k : Nat) (a0 : TPiece) (a1 : TPiece) : FleqPiece (k + 1) a0 a1 = (FleqSpan k a0.1 a1.1).bind fun p1 => if (!p1) = true then some false else (FleqLinkS k a0.2.1 a1.2.1).bind fun p2 => if (!p2) = true then some false else (FleqTableS k a0.2.2 a1.2.2).bind fun p3 => if (!p3) = true then some false else some true := by kernel_rfl
/-! loop.example/g00599/laws.szLinkS -/
noncomputable def FlszLinkS (k : Nat) (a0 : List (Int × Int)) (a1 : Int) : Option (Int) := den E k 35 [.c (.l 75 sI2 a0), .c (.v (.int .i64 a1))]
theorem elszLinkS (k : Nat) (a0 : List (Int × Int)) (a1 : Int) : FlszLinkS (k + 1) a0 a1 = if (decide ((IntKind.i64.wrap (a1 - (a0.length : Int))) < 0)) = true then some (-1) else some (IntKind.i64.wrap (a1 - (a0.length : Int))) := by kernel_rfl
/-! loop.example/g00599/laws.szTableS -/
noncomputable def FlszTableS (k : Nat) (a0 : List (Int × (List Int) × List Int)) (a1 : Int) : Option (Int) := den E k 36 [.c (.l 24 sTable a0), .c (.v (.int .i64 a1))]
abbrev ClszTableS_0 : Type := (List (Int × (List Int) × List Int))
abbrev VlszTableS_0 : Type := Int × Int
def StlszTableS_0 (c0 : ClszTableS_0) (v0 : VlszTableS_0) : St := ⟨27, 0, [(0, .c (.l 24 sTable c0)), (1, .c (.v (.int .i64 v0.1))), (5, .c (.v (.int .i64 v0.2)))], []⟩
noncomputable def BlszTableS_0 {R : Type} (k : Nat) (X0 : VlszTableS_0 → (Int × (List Int) × List Int) → Int → Option R) (X1 : VlszTableS_0 → Option R) (c0 : ClszTableS_0) (rec : VlszTableS_0 → Option R) (v0 : VlszTableS_0) : Option R := if (decide (v0.2 < (c0.length : Int))) = true then if 0 ≤ v0.2 then ix c0 v0.2.toNat fun x1 => (FlszTable k x1 v0.1).bind fun p2 => if (decide (p2 < 0)) = true then X0 v0 x1 p2 else rec (p2, (IntKind.i64.wrap (v0.2 + 1))) else none else X1 v0
noncomputable def LlszTableS_0 {R : Type} (k : Nat) (X0 : VlszTableS_0 → (Int × (List Int) × List Int) → Int → Option R) (X1 : VlszTableS_0 → Option R) (c : ClszTableS_0) : Nat → VlszTableS_0 → Option R
  | 0, _ => none
  | n + 1, v => BlszTableS_0 k X0 X1 c (LlszTableS_0 k X0 X1 c n) v
theorem blszTableS_0 {R : Type} (k n : Nat) (K : Ex → St → Option R) (c0 : ClszTableS_0) (v : VlszTableS_0) : loopRun [0, 0, 1, 5] (run E (den E k) (lv 36) k (nthLoop Tryd.f36 0)) (n + 1) (StlszTableS_0 c0 v) K = BlszTableS_0 k (fun (v0 : VlszTableS_0) (x1 : Int × (List Int) × List Int) (p2 : Int) => K .ret ⟨27, 0, [(0, .c (.l 24 sTable c0)), (1, .c (.v (.int .i64 p2))), (4, .c (.v (.int .i64 (-1)))), (5, .c (.v (.int .i64 v0.2))), (12, .c (.v (.int .i64 v0.2))), (13, .c (.l 24 sTable c0)), (14, .c (.v (.int .i64 (c0.length : Int)))), (15, .c (.v (.bool (decide (v0.2 < (c0.length : Int)))))), (18, .c (.l 24 sTable c0)), (19, .c (.v (.int .i64 v0.2))), (20, .c (.at_ [.v (.int .i64 x1.1), .l 3 (.i .i64) x1.2.1, .l 3 (.i .i64) x1.2.2])), (21, .agg [.v (.int .i64 x1.1), .l 3 (.i .i64) x1.2.1, .l 3 (.i .i64) x1.2.2]), (22, .c (.v (.int .i64 v0.1))), (23, .c (.v (.int .i64 p2))), (24, .c (.v (.int .i64 p2))), (25, .c (.v (.bool (decide (p2 < 0)))))], []⟩) (fun (v0 : VlszTableS_0) => K (.exit 0) ⟨27, 0, [(0, .c (.l 24 sTable c0)), (1, .c (.v (.int .i64 v0.1))), (5, .c (.v (.int .i64 v0.2))), (12, .c (.v (.int .i64 v0.2))), (13, .c (.l 24 sTable c0)), (14, .c (.v (.int .i64 (c0.length : Int)))), (15, .c (.v (.bool (decide (v0.2 < (c0.length : Int))))))], []⟩) c0 (fun v => loopRun [0, 0, 1, 5] (run E (den E k) (lv 36) k (nthLoop Tryd.f36 0)) n (StlszTableS_0 c0 v) K) v := by kernel_rfl
theorem llszTableS_0 {R : Type} (k : Nat) (K : Ex → St → Option R) (c0 : ClszTableS_0) : ∀ (n : Nat) (v : VlszTableS_0), loopRun [0, 0, 1, 5] (run E (den E k) (lv 36) k (nthLoop Tryd.f36 0)) n (StlszTableS_0 c0 v) K = LlszTableS_0 k (fun (v0 : VlszTableS_0) (x1 : Int × (List Int) × List Int) (p2 : Int) => K .ret ⟨27, 0, [(0, .c (.l 24 sTable c0)), (1, .c (.v (.int .i64 p2))), (4, .c (.v (.int .i64 (-1)))), (5, .c (.v (.int .i64 v0.2))), (12, .c (.v (.int .i64 v0.2))), (13, .c (.l 24 sTable c0)), (14, .c (.v (.int .i64 (c0.length : Int)))), (15, .c (.v (.bool (decide (v0.2 < (c0.length : Int)))))), (18, .c (.l 24 sTable c0)), (19, .c (.v (.int .i64 v0.2))), (20, .c (.at_ [.v (.int .i64 x1.1), .l 3 (.i .i64) x1.2.1, .l 3 (.i .i64) x1.2.2])), (21, .agg [.v (.int .i64 x1.1), .l 3 (.i .i64) x1.2.1, .l 3 (.i .i64) x1.2.2]), (22, .c (.v (.int .i64 v0.1))), (23, .c (.v (.int .i64 p2))), (24, .c (.v (.int .i64 p2))), (25, .c (.v (.bool (decide (p2 < 0)))))], []⟩) (fun (v0 : VlszTableS_0) => K (.exit 0) ⟨27, 0, [(0, .c (.l 24 sTable c0)), (1, .c (.v (.int .i64 v0.1))), (5, .c (.v (.int .i64 v0.2))), (12, .c (.v (.int .i64 v0.2))), (13, .c (.l 24 sTable c0)), (14, .c (.v (.int .i64 (c0.length : Int)))), (15, .c (.v (.bool (decide (v0.2 < (c0.length : Int))))))], []⟩) c0 n v := by
  intro n
  induction n with
  | zero => intro v; rfl
  | succ n ih =>
    intro v
    refine (blszTableS_0 k n K c0 v).trans ?_
    rw [funext ih]
    kernel_rfl
theorem mlszTableS_0 (k : Nat) (a0 : List (Int × (List Int) × List Int)) (a1 : Int) : FlszTableS (k + 1) a0 a1 = if (decide ((IntKind.i64.wrap (a1 - (a0.length : Int))) < 0)) = true then some (-1) else loopRun (R := Int) [0, 0, 1, 5] (run E (den E k) (lv 36) k (nthLoop Tryd.f36 0)) k (StlszTableS_0 a0 ((IntKind.i64.wrap (a1 - (a0.length : Int))), 0)) (kontAt E (den E k) (lv 36) k (bodyOf Tryd.f36) 0 [] (finish E (rs 36) Tryd.f36 : Ex → St → Option (Int))) := by kernel_rfl
theorem elszTableS (k : Nat) (a0 : List (Int × (List Int) × List Int)) (a1 : Int) : FlszTableS (k + 1) a0 a1 = if (decide ((IntKind.i64.wrap (a1 - (a0.length : Int))) < 0)) = true then some (-1) else LlszTableS_0 k (fun (v0 : Int × Int) (x1 : Int × (List Int) × List Int) (p2 : Int) => some (-1)) (fun (v0 : Int × Int) => some v0.1) a0 k ((IntKind.i64.wrap (a1 - (a0.length : Int))), 0) := by
  rw [mlszTableS_0]
  simp only [llszTableS_0]
  kernel_rfl
/-! loop.example/g00599/laws.szPiece -/
noncomputable def FlszPiece (k : Nat) (a0 : TPiece) (a1 : Int) : Option (Int) := den E k 21 [.agg [.v (.int .i64 a0.1.1), .v (.int .i64 a0.1.2), .l 75 sI2 a0.2.1, .l 24 sTable a0.2.2], .c (.v (.int .i64 a1))]
theorem elszPiece (k : Nat) (a0 : TPiece) (a1 : Int) : FlszPiece (k + 1) a0 a1 = (FlszLinkS k a0.2.1 a1).bind fun p1 => if (decide (p1 < 0)) = true then some (-1) else (FlszTableS k a0.2.2 p1).bind fun p2 => if (decide (p2 < 0)) = true then some (-1) else some p2 := by kernel_rfl
/-! loop.example/g00599/laws.toLink -/
noncomputable def FltoLink (k : Nat) (a0 : Int × Int) : Option (Int × Int) := den E k 43 [.agg [.v (.int .i64 a0.1), .v (.int .i64 a0.2)]]
theorem eltoLink (k : Nat) (a0 : Int × Int) : FltoLink (k + 1) a0 = some a0 := by kernel_rfl
/-! loop.example/g00599/laws.toLinkS -/
noncomputable def FltoLinkS (k : Nat) (a0 : List (Int × Int)) : Option (List (Int × Int)) := den E k 37 [.c (.l 75 sI2 a0)]
abbrev CltoLinkS_0 : Type := (List (Int × Int))
abbrev VltoLinkS_0 : Type := Int × (List (Int × Int))
def StltoLinkS_0 (c0 : CltoLinkS_0) (v0 : VltoLinkS_0) : St := ⟨23, 1, [(0, .c (.l 75 sI2 c0)), (3, .c (.ref 0)), (4, .c (.v (.int .i64 v0.1)))], [(0, .arr 68 sI2 v0.2)]⟩
noncomputable def BltoLinkS_0 {R : Type} (k : Nat) (X0 : VltoLinkS_0 → Option R) (c0 : CltoLinkS_0) (rec : VltoLinkS_0 → Option R) (v0 : VltoLinkS_0) : Option R := if (decide (v0.1 < (c0.length : Int))) = true then if 0 ≤ v0.1 then ix c0 v0.1.toNat fun x1 => (FltoLink k x1).bind fun p2 => if 0 ≤ v0.1 then if v0.1 < (v0.2.length : Int) then ix v0.2 v0.1.toNat fun y3 => rec ((IntKind.i64.wrap (v0.1 + 1)), (v0.2.set v0.1.toNat p2)) else none else none else none else X0 v0
noncomputable def LltoLinkS_0 {R : Type} (k : Nat) (X0 : VltoLinkS_0 → Option R) (c : CltoLinkS_0) : Nat → VltoLinkS_0 → Option R
  | 0, _ => none
  | n + 1, v => BltoLinkS_0 k X0 c (LltoLinkS_0 k X0 c n) v
theorem bltoLinkS_0 {R : Type} (k n : Nat) (K : Ex → St → Option R) (c0 : CltoLinkS_0) (v : VltoLinkS_0) : loopRun [0, 0, 3, 4] (run E (den E k) (lv 37) k (nthLoop Tryd.f37 0)) (n + 1) (StltoLinkS_0 c0 v) K = BltoLinkS_0 k (fun (v0 : VltoLinkS_0) => K (.exit 0) ⟨23, 1, [(0, .c (.l 75 sI2 c0)), (3, .c (.ref 0)), (4, .c (.v (.int .i64 v0.1))), (8, .c (.v (.int .i64 v0.1))), (9, .c (.l 75 sI2 c0)), (10, .c (.v (.int .i64 (c0.length : Int)))), (11, .c (.v (.bool (decide (v0.1 < (c0.length : Int))))))], [(0, .arr 68 sI2 v0.2)]⟩) c0 (fun v => loopRun [0, 0, 3, 4] (run E (den E k) (lv 37) k (nthLoop Tryd.f37 0)) n (StltoLinkS_0 c0 v) K) v := by kernel_rfl
theorem lltoLinkS_0 {R : Type} (k : Nat) (K : Ex → St → Option R) (c0 : CltoLinkS_0) : ∀ (n : Nat) (v : VltoLinkS_0), loopRun [0, 0, 3, 4] (run E (den E k) (lv 37) k (nthLoop Tryd.f37 0)) n (StltoLinkS_0 c0 v) K = LltoLinkS_0 k (fun (v0 : VltoLinkS_0) => K (.exit 0) ⟨23, 1, [(0, .c (.l 75 sI2 c0)), (3, .c (.ref 0)), (4, .c (.v (.int .i64 v0.1))), (8, .c (.v (.int .i64 v0.1))), (9, .c (.l 75 sI2 c0)), (10, .c (.v (.int .i64 (c0.length : Int)))), (11, .c (.v (.bool (decide (v0.1 < (c0.length : Int))))))], [(0, .arr 68 sI2 v0.2)]⟩) c0 n v := by
  intro n
  induction n with
  | zero => intro v; rfl
  | succ n ih =>
    intro v
    refine (bltoLinkS_0 k n K c0 v).trans ?_
    rw [funext ih]
    kernel_rfl
theorem mltoLinkS_0 (k : Nat) (a0 : List (Int × Int)) : FltoLinkS (k + 1) a0 = if (a0.length : Int) = (a0.length : Int) then if 0 ≤ (a0.length : Int) then if 16 * (a0.length : Int).toNat ≤ 281474976710656 then loopRun (R := List (Int × Int)) [0, 0, 3, 4] (run E (den E k) (lv 37) k (nthLoop Tryd.f37 0)) k (StltoLinkS_0 a0 (0, (List.replicate (a0.length : Int).toNat ((0, 0) : Int × Int)))) (kontAt E (den E k) (lv 37) k (bodyOf Tryd.f37) 0 [] (finish E (rs 37) Tryd.f37 : Ex → St → Option (List (Int × Int)))) else none else none else none := by kernel_rfl
theorem eltoLinkS (k : Nat) (a0 : List (Int × Int)) : FltoLinkS (k + 1) a0 = if (a0.length : Int) = (a0.length : Int) then if 0 ≤ (a0.length : Int) then if 16 * (a0.length : Int).toNat ≤ 281474976710656 then LltoLinkS_0 k (fun (v0 : Int × (List (Int × Int))) => some v0.2) a0 k (0, (List.replicate (a0.length : Int).toNat ((0, 0) : Int × Int))) else none else none else none := by
  rw [mltoLinkS_0]
  simp only [lltoLinkS_0]
  kernel_rfl
/-! loop.example/g00599/laws.toSpan -/
noncomputable def FltoSpan (k : Nat) (a0 : Int × Int) : Option (Int × Int) := den E k 33 [.agg [.v (.int .i64 a0.1), .v (.int .i64 a0.2)]]
theorem eltoSpan (k : Nat) (a0 : Int × Int) : FltoSpan (k + 1) a0 = some a0 := by kernel_rfl
/-! loop.example/g00599/laws.toTableS -/
noncomputable def FltoTableS (k : Nat) (a0 : List (Int × (List Int) × List Int)) : Option (List (Int × (List Int) × List Int)) := den E k 38 [.c (.l 24 sTable a0)]
abbrev CltoTableS_0 : Type := (List (Int × (List Int) × List Int))
abbrev VltoTableS_0 : Type := Int × (List (Int × (List Int) × List Int))
def StltoTableS_0 (c0 : CltoTableS_0) (v0 : VltoTableS_0) : St := ⟨23, 1, [(0, .c (.l 24 sTable c0)), (3, .c (.ref 0)), (4, .c (.v (.int .i64 v0.1)))], [(0, .arr 27 sTable v0.2)]⟩
noncomputable def BltoTableS_0 {R : Type} (k : Nat) (X0 : VltoTableS_0 → Option R) (c0 : CltoTableS_0) (rec : VltoTableS_0 → Option R) (v0 : VltoTableS_0) : Option R := if (decide (v0.1 < (c0.length : Int))) = true then if 0 ≤ v0.1 then ix c0 v0.1.toNat fun x1 => (FltoTable k x1).bind fun p2 => if 0 ≤ v0.1 then if v0.1 < (v0.2.length : Int) then ix v0.2 v0.1.toNat fun y3 => rec ((IntKind.i64.wrap (v0.1 + 1)), (v0.2.set v0.1.toNat p2)) else none else none else none else X0 v0
noncomputable def LltoTableS_0 {R : Type} (k : Nat) (X0 : VltoTableS_0 → Option R) (c : CltoTableS_0) : Nat → VltoTableS_0 → Option R
  | 0, _ => none
  | n + 1, v => BltoTableS_0 k X0 c (LltoTableS_0 k X0 c n) v
theorem bltoTableS_0 {R : Type} (k n : Nat) (K : Ex → St → Option R) (c0 : CltoTableS_0) (v : VltoTableS_0) : loopRun [0, 0, 3, 4] (run E (den E k) (lv 38) k (nthLoop Tryd.f38 0)) (n + 1) (StltoTableS_0 c0 v) K = BltoTableS_0 k (fun (v0 : VltoTableS_0) => K (.exit 0) ⟨23, 1, [(0, .c (.l 24 sTable c0)), (3, .c (.ref 0)), (4, .c (.v (.int .i64 v0.1))), (8, .c (.v (.int .i64 v0.1))), (9, .c (.l 24 sTable c0)), (10, .c (.v (.int .i64 (c0.length : Int)))), (11, .c (.v (.bool (decide (v0.1 < (c0.length : Int))))))], [(0, .arr 27 sTable v0.2)]⟩) c0 (fun v => loopRun [0, 0, 3, 4] (run E (den E k) (lv 38) k (nthLoop Tryd.f38 0)) n (StltoTableS_0 c0 v) K) v := by kernel_rfl
theorem lltoTableS_0 {R : Type} (k : Nat) (K : Ex → St → Option R) (c0 : CltoTableS_0) : ∀ (n : Nat) (v : VltoTableS_0), loopRun [0, 0, 3, 4] (run E (den E k) (lv 38) k (nthLoop Tryd.f38 0)) n (StltoTableS_0 c0 v) K = LltoTableS_0 k (fun (v0 : VltoTableS_0) => K (.exit 0) ⟨23, 1, [(0, .c (.l 24 sTable c0)), (3, .c (.ref 0)), (4, .c (.v (.int .i64 v0.1))), (8, .c (.v (.int .i64 v0.1))), (9, .c (.l 24 sTable c0)), (10, .c (.v (.int .i64 (c0.length : Int)))), (11, .c (.v (.bool (decide (v0.1 < (c0.length : Int))))))], [(0, .arr 27 sTable v0.2)]⟩) c0 n v := by
  intro n
  induction n with
  | zero => intro v; rfl
  | succ n ih =>
    intro v
    refine (bltoTableS_0 k n K c0 v).trans ?_
    rw [funext ih]
    kernel_rfl
theorem mltoTableS_0 (k : Nat) (a0 : List (Int × (List Int) × List Int)) : FltoTableS (k + 1) a0 = if (a0.length : Int) = (a0.length : Int) then if 0 ≤ (a0.length : Int) then if 56 * (a0.length : Int).toNat ≤ 281474976710656 then loopRun (R := List (Int × (List Int) × List Int)) [0, 0, 3, 4] (run E (den E k) (lv 38) k (nthLoop Tryd.f38 0)) k (StltoTableS_0 a0 (0, (List.replicate (a0.length : Int).toNat ((0, [], []) : Int × (List Int) × List Int)))) (kontAt E (den E k) (lv 38) k (bodyOf Tryd.f38) 0 [] (finish E (rs 38) Tryd.f38 : Ex → St → Option (List (Int × (List Int) × List Int)))) else none else none else none := by kernel_rfl
theorem eltoTableS (k : Nat) (a0 : List (Int × (List Int) × List Int)) : FltoTableS (k + 1) a0 = if (a0.length : Int) = (a0.length : Int) then if 0 ≤ (a0.length : Int) then if 56 * (a0.length : Int).toNat ≤ 281474976710656 then LltoTableS_0 k (fun (v0 : Int × (List (Int × (List Int) × List Int))) => some v0.2) a0 k (0, (List.replicate (a0.length : Int).toNat ((0, [], []) : Int × (List Int) × List Int))) else none else none else none := by
  rw [mltoTableS_0]
  simp only [lltoTableS_0]
  kernel_rfl
/-! loop.example/g00599/laws.toPiece -/
noncomputable def FltoPiece (k : Nat) (a0 : TPiece) : Option TPiece := den E k 23 [.agg [.v (.int .i64 a0.1.1), .v (.int .i64 a0.1.2), .l 75 sI2 a0.2.1, .l 24 sTable a0.2.2]]
theorem eltoPiece (k : Nat) (a0 : TPiece) : FltoPiece (k + 1) a0 = (FltoSpan k a0.1).bind fun p1 => (FltoLinkS k a0.2.1).bind fun p2 => (FltoTableS k a0.2.2).bind fun p3 => some (p1, p2, p3) := by kernel_rfl
/-! loop.example/g00599/spec.FormatPiece -/
noncomputable def FsFormatPiece (k : Nat) (a0 : TPiece) : Option (ByteArray) := den E k 22 [.agg [.v (.int .i64 a0.1.1), .v (.int .i64 a0.1.2), .l 68 sI2 a0.2.1, .l 27 sTable a0.2.2]]
abbrev CsFormatPiece_0 : Type := TPiece
abbrev VsFormatPiece_0 : Type := ByteArray × Int
def StsFormatPiece_0 (c0 : CsFormatPiece_0) (v0 : VsFormatPiece_0) : St := ⟨43, 1, [(1, .c (.ptr 0 0)), (3, .c (.v (.string v0.1))), (4, .c (.v (.int .i64 v0.2)))], [(0, .var [.v (.int .i64 c0.1.1), .v (.int .i64 c0.1.2), .l 68 sI2 c0.2.1, .l 27 sTable c0.2.2])]⟩
noncomputable def BsFormatPiece_0 {R : Type} (k : Nat) (X0 : VsFormatPiece_0 → Option R) (c0 : CsFormatPiece_0) (rec : VsFormatPiece_0 → Option R) (v0 : VsFormatPiece_0) : Option R := if (decide (v0.2 < (c0.2.1.length : Int))) = true then if (v0.1).size + ((⟨#[32]⟩ : ByteArray)).size ≤ 9223372036854775807 then if 0 ≤ v0.2 then ix c0.2.1 v0.2.toNat fun x3 => (FsFormatInt k x3.1).bind fun p4 => if ((v0.1 ++ (⟨#[32]⟩ : ByteArray))).size + (p4).size ≤ 9223372036854775807 then if (((v0.1 ++ (⟨#[32]⟩ : ByteArray)) ++ p4)).size + ((⟨#[43]⟩ : ByteArray)).size ≤ 9223372036854775807 then if 0 ≤ v0.2 then ix c0.2.1 v0.2.toNat fun x5 => (FsFormatInt k x5.2).bind fun p6 => if ((((v0.1 ++ (⟨#[32]⟩ : ByteArray)) ++ p4) ++ (⟨#[43]⟩ : ByteArray))).size + (p6).size ≤ 9223372036854775807 then rec (((((v0.1 ++ (⟨#[32]⟩ : ByteArray)) ++ p4) ++ (⟨#[43]⟩ : ByteArray)) ++ p6), (IntKind.i64.wrap (v0.2 + 1))) else none else none else none else none else none else none else X0 v0
noncomputable def LsFormatPiece_0 {R : Type} (k : Nat) (X0 : VsFormatPiece_0 → Option R) (c : CsFormatPiece_0) : Nat → VsFormatPiece_0 → Option R
  | 0, _ => none
  | n + 1, v => BsFormatPiece_0 k X0 c (LsFormatPiece_0 k X0 c n) v
theorem bsFormatPiece_0 {R : Type} (k n : Nat) (K : Ex → St → Option R) (c0 : CsFormatPiece_0) (v : VsFormatPiece_0) : loopRun [0, 1, 3, 4] (run E (den E k) (lv 22) k (nthLoop Tryd.f22 0)) (n + 1) (StsFormatPiece_0 c0 v) K = BsFormatPiece_0 k (fun (v0 : VsFormatPiece_0) => K (.exit 0) ⟨43, 1, [(1, .c (.ptr 0 0)), (3, .c (.v (.string v0.1))), (4, .c (.v (.int .i64 v0.2))), (16, .c (.v (.int .i64 v0.2))), (17, .c (.ptr 0 2)), (18, .c (.l 68 sI2 c0.2.1)), (19, .c (.v (.int .i64 (c0.2.1.length : Int)))), (20, .c (.v (.bool (decide (v0.2 < (c0.2.1.length : Int))))))], [(0, .var [.v (.int .i64 c0.1.1), .v (.int .i64 c0.1.2), .l 68 sI2 c0.2.1, .l 27 sTable c0.2.2])]⟩) c0 (fun v => loopRun [0, 1, 3, 4] (run E (den E k) (lv 22) k (nthLoop Tryd.f22 0)) n (StsFormatPiece_0 c0 v) K) v := by kernel_rfl
theorem lsFormatPiece_0 {R : Type} (k : Nat) (K : Ex → St → Option R) (c0 : CsFormatPiece_0) : ∀ (n : Nat) (v : VsFormatPiece_0), loopRun [0, 1, 3, 4] (run E (den E k) (lv 22) k (nthLoop Tryd.f22 0)) n (StsFormatPiece_0 c0 v) K = LsFormatPiece_0 k (fun (v0 : VsFormatPiece_0) => K (.exit 0) ⟨43, 1, [(1, .c (.ptr 0 0)), (3, .c (.v (.string v0.1))), (4, .c (.v (.int .i64 v0.2))), (16, .c (.v (.int .i64 v0.2))), (17, .c (.ptr 0 2)), (18, .c (.l 68 sI2 c0.2.1)), (19, .c (.v (.int .i64 (c0.2.1.length : Int)))), (20, .c (.v (.bool (decide (v0.2 < (c0.2.1.length : Int))))))], [(0, .var [.v (.int .i64 c0.1.1), .v (.int .i64 c0.1.2), .l 68 sI2 c0.2.1, .l 27 sTable c0.2.2])]⟩) c0 n v := by
  intro n
  induction n with
  | zero => intro v; rfl
  | succ n ih =>
    intro v
    refine (bsFormatPiece_0 k n K c0 v).trans ?_
    rw [funext ih]
    kernel_rfl
theorem msFormatPiece_0 (k : Nat) (a0 : TPiece) : FsFormatPiece (k + 1) a0 = (FsFormatInt k a0.1.1).bind fun p1 => if (p1).size + ((⟨#[45]⟩ : ByteArray)).size ≤ 9223372036854775807 then (FsFormatInt k a0.1.2).bind fun p2 => if ((p1 ++ (⟨#[45]⟩ : ByteArray))).size + (p2).size ≤ 9223372036854775807 then if (((p1 ++ (⟨#[45]⟩ : ByteArray)) ++ p2)).size + ((⟨#[58]⟩ : ByteArray)).size ≤ 9223372036854775807 then loopRun (R := ByteArray) [0, 1, 3, 4] (run E (den E k) (lv 22) k (nthLoop Tryd.f22 0)) k (StsFormatPiece_0 a0 ((((p1 ++ (⟨#[45]⟩ : ByteArray)) ++ p2) ++ (⟨#[58]⟩ : ByteArray)), 0)) (kontAt E (den E k) (lv 22) k (bodyOf Tryd.f22) 0 [] (finish E (rs 22) Tryd.f22 : Ex → St → Option (ByteArray))) else none else none else none := by kernel_rfl
theorem esFormatPiece (k : Nat) (a0 : TPiece) : FsFormatPiece (k + 1) a0 = (FsFormatInt k a0.1.1).bind fun p1 => if (p1).size + ((⟨#[45]⟩ : ByteArray)).size ≤ 9223372036854775807 then (FsFormatInt k a0.1.2).bind fun p2 => if ((p1 ++ (⟨#[45]⟩ : ByteArray))).size + (p2).size ≤ 9223372036854775807 then if (((p1 ++ (⟨#[45]⟩ : ByteArray)) ++ p2)).size + ((⟨#[58]⟩ : ByteArray)).size ≤ 9223372036854775807 then LsFormatPiece_0 k (fun (v0 : ByteArray × Int) => some v0.1) a0 k ((((p1 ++ (⟨#[45]⟩ : ByteArray)) ++ p2) ++ (⟨#[58]⟩ : ByteArray)), 0) else none else none else none := by
  rw [msFormatPiece_0]
  simp only [lsFormatPiece_0]
  kernel_rfl
/-! loop.example/g00599/laws.FnExactFormatPiece -/
noncomputable def FlFnExactFormatPiece (k : Nat) (a0 : TPiece) : Option (Bool) := den E k 6 [.agg [.v (.int .i64 a0.1.1), .v (.int .i64 a0.1.2), .l 75 sI2 a0.2.1, .l 24 sTable a0.2.2]]
theorem elFnExactFormatPiece (k : Nat) (a0 : TPiece) : FlFnExactFormatPiece (k + 1) a0 = (FlszPiece k a0 1048576).bind fun p1 => if (decide (p1 < 0)) = true then some true else (FltoPiece k a0).bind fun p2 => (FsFormatPiece k p2).bind fun p3 => (FltoPiece k a0).bind fun p4 => (FiFormatPiece k p4).bind fun p5 => if (!((p5).toList == (p3).toList)) = true then some false else (FltoPiece k a0).bind fun p6 => (FleqPiece k p4 p6).bind fun p7 => if (!p7) = true then some false else some true := by kernel_rfl
/-! strings.Join -/
noncomputable def FgJoin (k : Nat) (a0 : List ByteArray) (a1 : ByteArray) : Option (ByteArray) := den E k 42 [.c (.l 9 .s a0), .c (.v (.string a1))]
theorem egJoin (k : Nat) (a0 : List ByteArray) (a1 : ByteArray) : FgJoin (k + 1) a0 a1 = if a0.length ≤ 140737488355328 then if (joinB a0 a1).size ≤ 140737488355328 then some (joinB a0 a1) else none else none := by kernel_rfl
/-! loop.example/g00599/impl.joined -/
noncomputable def Fijoined (k : Nat) (a0 : List ByteArray) (a1 : ByteArray) : Option (ByteArray) := den E k 32 [.c (.l 9 .s a0), .c (.v (.string a1))]
theorem eijoined (k : Nat) (a0 : List ByteArray) (a1 : ByteArray) : Fijoined (k + 1) a0 a1 = if ((a0.length : Int) == 0) = true then some (⟨#[45]⟩ : ByteArray) else (FgJoin k a0 a1).bind fun p1 => some p1 := by kernel_rfl
/-! loop.example/g00599/impl.FormatList -/
noncomputable def FiFormatList (k : Nat) (a0 : List Int) : Option (ByteArray) := den E k 14 [.c (.l 3 (.i .i64) a0)]
abbrev CiFormatList_0 : Type := (List Int) × Int
abbrev ViFormatList_0 : Type := Int × (List ByteArray)
def StiFormatList_0 (c0 : CiFormatList_0) (v0 : ViFormatList_0) : St := ⟨21, 1, [(3, .c (.ref 0)), (7, .c (.l 3 (.i .i64) c0.1)), (8, .c (.v (.int .i64 c0.2))), (9, .c (.v (.int .i64 v0.1)))], [(0, .arr 9 .s v0.2)]⟩
noncomputable def BiFormatList_0 {R : Type} (k : Nat) (X0 : ViFormatList_0 → Option R) (c0 : CiFormatList_0) (rec : ViFormatList_0 → Option R) (v0 : ViFormatList_0) : Option R := if (decide (v0.1 < c0.2)) = true then if 0 ≤ v0.1 then ix c0.1 v0.1.toNat fun x1 => (FiFormatInt k x1).bind fun p2 => if (v0.2.length + ([p2]).length) * 16 ≤ 140737488355328 then rec ((IntKind.i64.wrap (v0.1 + 1)), (v0.2 ++ [p2])) else none else none else X0 v0
noncomputable def LiFormatList_0 {R : Type} (k : Nat) (X0 : ViFormatList_0 → Option R) (c : CiFormatList_0) : Nat → ViFormatList_0 → Option R
  | 0, _ => none
  | n + 1, v => BiFormatList_0 k X0 c (LiFormatList_0 k X0 c n) v
theorem biFormatList_0 {R : Type} (k n : Nat) (K : Ex → St → Option R) (c0 : CiFormatList_0) (v : ViFormatList_0) : loopRun [0, 3, 7, 8, 9] (run E (den E k) (lv 14) k (nthLoop Tryd.f14 0)) (n + 1) (StiFormatList_0 c0 v) K = BiFormatList_0 k (fun (v0 : ViFormatList_0) => K (.exit 0) ⟨21, 1, [(3, .c (.ref 0)), (7, .c (.l 3 (.i .i64) c0.1)), (8, .c (.v (.int .i64 c0.2))), (9, .c (.v (.int .i64 v0.1))), (10, .c (.v (.bool (decide (v0.1 < c0.2)))))], [(0, .arr 9 .s v0.2)]⟩) c0 (fun v => loopRun [0, 3, 7, 8, 9] (run E (den E k) (lv 14) k (nthLoop Tryd.f14 0)) n (StiFormatList_0 c0 v) K) v := by kernel_rfl
theorem liFormatList_0 {R : Type} (k : Nat) (K : Ex → St → Option R) (c0 : CiFormatList_0) : ∀ (n : Nat) (v : ViFormatList_0), loopRun [0, 3, 7, 8, 9] (run E (den E k) (lv 14) k (nthLoop Tryd.f14 0)) n (StiFormatList_0 c0 v) K = LiFormatList_0 k (fun (v0 : ViFormatList_0) => K (.exit 0) ⟨21, 1, [(3, .c (.ref 0)), (7, .c (.l 3 (.i .i64) c0.1)), (8, .c (.v (.int .i64 c0.2))), (9, .c (.v (.int .i64 v0.1))), (10, .c (.v (.bool (decide (v0.1 < c0.2)))))], [(0, .arr 9 .s v0.2)]⟩) c0 n v := by
  intro n
  induction n with
  | zero => intro v; rfl
  | succ n ih =>
    intro v
    refine (biFormatList_0 k n K c0 v).trans ?_
    rw [funext ih]
    kernel_rfl
theorem miFormatList_0 (k : Nat) (a0 : List Int) : FiFormatList (k + 1) a0 = loopRun (R := ByteArray) [0, 3, 7, 8, 9] (run E (den E k) (lv 14) k (nthLoop Tryd.f14 0)) k (StiFormatList_0 (a0, (a0.length : Int)) (0, [])) (kontAt E (den E k) (lv 14) k (bodyOf Tryd.f14) 0 [] (finish E (rs 14) Tryd.f14 : Ex → St → Option (ByteArray))) := by kernel_rfl
theorem eiFormatList (k : Nat) (a0 : List Int) : FiFormatList (k + 1) a0 = LiFormatList_0 k (fun (v0 : Int × (List ByteArray)) => (Fijoined k v0.2 (⟨#[32]⟩ : ByteArray)).bind fun p1 => some p1) (a0, (a0.length : Int)) k (0, []) := by
  rw [miFormatList_0]
  simp only [liFormatList_0]
  kernel_rfl
/-! loop.example/g00599/spec.l39Join -/
noncomputable def Fsl39Join (k : Nat) (a0 : List Int) (a1 : ByteArray) : Option (ByteArray) := den E k 31 [.c (.l 3 (.i .i64) a0), .c (.v (.string a1))]
abbrev Csl39Join_0 : Type := (List Int) × ByteArray
abbrev Vsl39Join_0 : Type := ByteArray × Int
def Stsl39Join_0 (c0 : Csl39Join_0) (v0 : Vsl39Join_0) : St := ⟨26, 0, [(0, .c (.l 3 (.i .i64) c0.1)), (1, .c (.v (.string c0.2))), (5, .c (.v (.string v0.1))), (6, .c (.v (.int .i64 v0.2)))], []⟩
noncomputable def Bsl39Join_0 {R : Type} (k : Nat) (X0 : Vsl39Join_0 → Option R) (c0 : Csl39Join_0) (rec : Vsl39Join_0 → Option R) (v0 : Vsl39Join_0) : Option R := if (decide (v0.2 < (c0.1.length : Int))) = true then if (decide (v0.2 > 0)) = true then if (v0.1).size + (c0.2).size ≤ 9223372036854775807 then if 0 ≤ v0.2 then ix c0.1 v0.2.toNat fun x1 => (FsFormatInt k x1).bind fun p2 => if ((v0.1 ++ c0.2)).size + (p2).size ≤ 9223372036854775807 then rec (((v0.1 ++ c0.2) ++ p2), (IntKind.i64.wrap (v0.2 + 1))) else none else none else none else if 0 ≤ v0.2 then ix c0.1 v0.2.toNat fun x3 => (FsFormatInt k x3).bind fun p4 => if (v0.1).size + (p4).size ≤ 9223372036854775807 then rec ((v0.1 ++ p4), (IntKind.i64.wrap (v0.2 + 1))) else none else none else X0 v0
noncomputable def Lsl39Join_0 {R : Type} (k : Nat) (X0 : Vsl39Join_0 → Option R) (c : Csl39Join_0) : Nat → Vsl39Join_0 → Option R
  | 0, _ => none
  | n + 1, v => Bsl39Join_0 k X0 c (Lsl39Join_0 k X0 c n) v
theorem bsl39Join_0 {R : Type} (k n : Nat) (K : Ex → St → Option R) (c0 : Csl39Join_0) (v : Vsl39Join_0) : loopRun [0, 0, 1, 5, 6] (run E (den E k) (lv 31) k (nthLoop Tryd.f31 0)) (n + 1) (Stsl39Join_0 c0 v) K = Bsl39Join_0 k (fun (v0 : Vsl39Join_0) => K (.exit 0) ⟨26, 0, [(0, .c (.l 3 (.i .i64) c0.1)), (1, .c (.v (.string c0.2))), (5, .c (.v (.string v0.1))), (6, .c (.v (.int .i64 v0.2))), (7, .c (.v (.int .i64 v0.2))), (8, .c (.l 3 (.i .i64) c0.1)), (9, .c (.v (.int .i64 (c0.1.length : Int)))), (10, .c (.v (.bool (decide (v0.2 < (c0.1.length : Int))))))], []⟩) c0 (fun v => loopRun [0, 0, 1, 5, 6] (run E (den E k) (lv 31) k (nthLoop Tryd.f31 0)) n (Stsl39Join_0 c0 v) K) v := by kernel_rfl
theorem lsl39Join_0 {R : Type} (k : Nat) (K : Ex → St → Option R) (c0 : Csl39Join_0) : ∀ (n : Nat) (v : Vsl39Join_0), loopRun [0, 0, 1, 5, 6] (run E (den E k) (lv 31) k (nthLoop Tryd.f31 0)) n (Stsl39Join_0 c0 v) K = Lsl39Join_0 k (fun (v0 : Vsl39Join_0) => K (.exit 0) ⟨26, 0, [(0, .c (.l 3 (.i .i64) c0.1)), (1, .c (.v (.string c0.2))), (5, .c (.v (.string v0.1))), (6, .c (.v (.int .i64 v0.2))), (7, .c (.v (.int .i64 v0.2))), (8, .c (.l 3 (.i .i64) c0.1)), (9, .c (.v (.int .i64 (c0.1.length : Int)))), (10, .c (.v (.bool (decide (v0.2 < (c0.1.length : Int))))))], []⟩) c0 n v := by
  intro n
  induction n with
  | zero => intro v; rfl
  | succ n ih =>
    intro v
    refine (bsl39Join_0 k n K c0 v).trans ?_
    rw [funext ih]
    kernel_rfl
theorem msl39Join_0 (k : Nat) (a0 : List Int) (a1 : ByteArray) : Fsl39Join (k + 1) a0 a1 = loopRun (R := ByteArray) [0, 0, 1, 5, 6] (run E (den E k) (lv 31) k (nthLoop Tryd.f31 0)) k (Stsl39Join_0 (a0, a1) ((⟨#[]⟩ : ByteArray), 0)) (kontAt E (den E k) (lv 31) k (bodyOf Tryd.f31) 0 [] (finish E (rs 31) Tryd.f31 : Ex → St → Option (ByteArray))) := by kernel_rfl
theorem esl39Join (k : Nat) (a0 : List Int) (a1 : ByteArray) : Fsl39Join (k + 1) a0 a1 = Lsl39Join_0 k (fun (v0 : ByteArray × Int) => some v0.1) (a0, a1) k ((⟨#[]⟩ : ByteArray), 0) := by
  rw [msl39Join_0]
  simp only [lsl39Join_0]
  kernel_rfl
/-! loop.example/g00599/spec.FormatList -/
noncomputable def FsFormatList (k : Nat) (a0 : List Int) : Option (ByteArray) := den E k 12 [.c (.l 3 (.i .i64) a0)]
theorem esFormatList (k : Nat) (a0 : List Int) : FsFormatList (k + 1) a0 = if ((a0.length : Int) == 0) = true then some (⟨#[45]⟩ : ByteArray) else (Fsl39Join k a0 (⟨#[32]⟩ : ByteArray)).bind fun p1 => some p1 := by kernel_rfl
/-! loop.example/g00599/laws.FnExactFormatList -/
noncomputable def FlFnExactFormatList (k : Nat) (a0 : List Int) : Option (Bool) := den E k 4 [.c (.l 3 (.i .i64) a0)]
theorem elFnExactFormatList (k : Nat) (a0 : List Int) : FlFnExactFormatList (k + 1) a0 = if (decide ((a0.length : Int) > 1048576)) = true then some true else (FltoIntS k a0).bind fun p1 => (FsFormatList k p1).bind fun p2 => (FltoIntS k a0).bind fun p3 => (FiFormatList k p3).bind fun p4 => if (!((p4).toList == (p2).toList)) = true then some false else (FltoIntS k a0).bind fun p5 => (FleqIntS k p3 p5).bind fun p6 => if (!p6) = true then some false else some true := by kernel_rfl
/-! loop.example/g00599/impl.FormatSpans -/
noncomputable def FiFormatSpans (k : Nat) (a0 : List (Int × Int)) : Option (ByteArray) := den E k 19 [.c (.l 50 sI2 a0)]
abbrev CiFormatSpans_0 : Type := (List (Int × Int)) × Int
abbrev ViFormatSpans_0 : Type := Int × (List ByteArray)
def StiFormatSpans_0 (c0 : CiFormatSpans_0) (v0 : ViFormatSpans_0) : St := ⟨27, 1, [(3, .c (.ref 0)), (7, .c (.l 50 sI2 c0.1)), (8, .c (.v (.int .i64 c0.2))), (9, .c (.v (.int .i64 v0.1)))], [(0, .arr 9 .s v0.2)]⟩
noncomputable def BiFormatSpans_0 {R : Type} (k : Nat) (X0 : ViFormatSpans_0 → Option R) (c0 : CiFormatSpans_0) (rec : ViFormatSpans_0 → Option R) (v0 : ViFormatSpans_0) : Option R := if (decide (v0.1 < c0.2)) = true then if 0 ≤ v0.1 then ix c0.1 v0.1.toNat fun x1 => (FiFormatInt k x1.1).bind fun p2 => if (p2).size + ((⟨#[45]⟩ : ByteArray)).size ≤ 9223372036854775807 then (FiFormatInt k x1.2).bind fun p3 => if ((p2 ++ (⟨#[45]⟩ : ByteArray))).size + (p3).size ≤ 9223372036854775807 then if (v0.2.length + ([((p2 ++ (⟨#[45]⟩ : ByteArray)) ++ p3)]).length) * 16 ≤ 140737488355328 then rec ((IntKind.i64.wrap (v0.1 + 1)), (v0.2 ++ [((p2 ++ (⟨#[45]⟩ : ByteArray)) ++ p3)])) else none else none else none else none else X0 v0
noncomputable def LiFormatSpans_0 {R : Type} (k : Nat) (X0 : ViFormatSpans_0 → Option R) (c : CiFormatSpans_0) : Nat → ViFormatSpans_0 → Option R
  | 0, _ => none
  | n + 1, v => BiFormatSpans_0 k X0 c (LiFormatSpans_0 k X0 c n) v
theorem biFormatSpans_0 {R : Type} (k n : Nat) (K : Ex → St → Option R) (c0 : CiFormatSpans_0) (v : ViFormatSpans_0) : loopRun [0, 3, 7, 8, 9] (run E (den E k) (lv 19) k (nthLoop Tryd.f19 0)) (n + 1) (StiFormatSpans_0 c0 v) K = BiFormatSpans_0 k (fun (v0 : ViFormatSpans_0) => K (.exit 0) ⟨27, 1, [(3, .c (.ref 0)), (7, .c (.l 50 sI2 c0.1)), (8, .c (.v (.int .i64 c0.2))), (9, .c (.v (.int .i64 v0.1))), (10, .c (.v (.bool (decide (v0.1 < c0.2)))))], [(0, .arr 9 .s v0.2)]⟩) c0 (fun v => loopRun [0, 3, 7, 8, 9] (run E (den E k) (lv 19) k (nthLoop Tryd.f19 0)) n (StiFormatSpans_0 c0 v) K) v := by kernel_rfl
theorem liFormatSpans_0 {R : Type} (k : Nat) (K : Ex → St → Option R) (c0 : CiFormatSpans_0) : ∀ (n : Nat) (v : ViFormatSpans_0), loopRun [0, 3, 7, 8, 9] (run E (den E k) (lv 19) k (nthLoop Tryd.f19 0)) n (StiFormatSpans_0 c0 v) K = LiFormatSpans_0 k (fun (v0 : ViFormatSpans_0) => K (.exit 0) ⟨27, 1, [(3, .c (.ref 0)), (7, .c (.l 50 sI2 c0.1)), (8, .c (.v (.int .i64 c0.2))), (9, .c (.v (.int .i64 v0.1))), (10, .c (.v (.bool (decide (v0.1 < c0.2)))))], [(0, .arr 9 .s v0.2)]⟩) c0 n v := by
  intro n
  induction n with
  | zero => intro v; rfl
  | succ n ih =>
    intro v
    refine (biFormatSpans_0 k n K c0 v).trans ?_
    rw [funext ih]
    kernel_rfl
theorem miFormatSpans_0 (k : Nat) (a0 : List (Int × Int)) : FiFormatSpans (k + 1) a0 = loopRun (R := ByteArray) [0, 3, 7, 8, 9] (run E (den E k) (lv 19) k (nthLoop Tryd.f19 0)) k (StiFormatSpans_0 (a0, (a0.length : Int)) (0, [])) (kontAt E (den E k) (lv 19) k (bodyOf Tryd.f19) 0 [] (finish E (rs 19) Tryd.f19 : Ex → St → Option (ByteArray))) := by kernel_rfl
theorem eiFormatSpans (k : Nat) (a0 : List (Int × Int)) : FiFormatSpans (k + 1) a0 = LiFormatSpans_0 k (fun (v0 : Int × (List ByteArray)) => (Fijoined k v0.2 (⟨#[32]⟩ : ByteArray)).bind fun p1 => some p1) (a0, (a0.length : Int)) k (0, []) := by
  rw [miFormatSpans_0]
  simp only [liFormatSpans_0]
  kernel_rfl
/-! loop.example/g00599/laws.eqSpanS -/
noncomputable def FleqSpanS (k : Nat) (a0 : List (Int × Int)) (a1 : List (Int × Int)) : Option (Bool) := den E k 20 [.c (.l 50 sI2 a0), .c (.l 50 sI2 a1)]
abbrev CleqSpanS_0 : Type := (List (Int × Int)) × (List (Int × Int))
abbrev VleqSpanS_0 : Type := Int
def StleqSpanS_0 (c0 : CleqSpanS_0) (v0 : VleqSpanS_0) : St := ⟨27, 0, [(0, .c (.l 50 sI2 c0.1)), (1, .c (.l 50 sI2 c0.2)), (5, .c (.v (.int .i64 v0)))], []⟩
noncomputable def BleqSpanS_0 {R : Type} (k : Nat) (X0 : VleqSpanS_0 → (Int × Int) → (Int × Int) → Bool → Option R) (X1 : VleqSpanS_0 → Option R) (c0 : CleqSpanS_0) (rec : VleqSpanS_0 → Option R) (v0 : VleqSpanS_0) : Option R := if (decide (v0 < (c0.1.length : Int))) = true then if 0 ≤ v0 then ix c0.1 v0.toNat fun x1 => if 0 ≤ v0 then ix c0.2 v0.toNat fun x2 => (FleqSpan k x1 x2).bind fun p3 => if (!p3) = true then X0 v0 x1 x2 p3 else rec (IntKind.i64.wrap (v0 + 1)) else none else none else X1 v0
noncomputable def LleqSpanS_0 {R : Type} (k : Nat) (X0 : VleqSpanS_0 → (Int × Int) → (Int × Int) → Bool → Option R) (X1 : VleqSpanS_0 → Option R) (c : CleqSpanS_0) : Nat → VleqSpanS_0 → Option R
  | 0, _ => none
  | n + 1, v => BleqSpanS_0 k X0 X1 c (LleqSpanS_0 k X0 X1 c n) v
theorem bleqSpanS_0 {R : Type} (k n : Nat) (K : Ex → St → Option R) (c0 : CleqSpanS_0) (v : VleqSpanS_0) : loopRun [0, 0, 1, 5] (run E (den E k) (lv 20) k (nthLoop Tryd.f20 0)) (n + 1) (StleqSpanS_0 c0 v) K = BleqSpanS_0 k (fun (v0 : VleqSpanS_0) (x1 : Int × Int) (x2 : Int × Int) (p3 : Bool) => K .ret ⟨27, 0, [(0, .c (.l 50 sI2 c0.1)), (1, .c (.l 50 sI2 c0.2)), (4, .c (.v (.bool false))), (5, .c (.v (.int .i64 v0))), (11, .c (.v (.int .i64 v0))), (12, .c (.l 50 sI2 c0.1)), (13, .c (.v (.int .i64 (c0.1.length : Int)))), (14, .c (.v (.bool (decide (v0 < (c0.1.length : Int)))))), (17, .c (.l 50 sI2 c0.1)), (18, .c (.v (.int .i64 v0))), (19, .c (.at_ [.v (.int .i64 x1.1), .v (.int .i64 x1.2)])), (20, .agg [.v (.int .i64 x1.1), .v (.int .i64 x1.2)]), (21, .c (.l 50 sI2 c0.2)), (22, .c (.v (.int .i64 v0))), (23, .c (.at_ [.v (.int .i64 x2.1), .v (.int .i64 x2.2)])), (24, .agg [.v (.int .i64 x2.1), .v (.int .i64 x2.2)]), (25, .c (.v (.bool p3))), (26, .c (.v (.bool (!p3))))], []⟩) (fun (v0 : VleqSpanS_0) => K (.exit 0) ⟨27, 0, [(0, .c (.l 50 sI2 c0.1)), (1, .c (.l 50 sI2 c0.2)), (5, .c (.v (.int .i64 v0))), (11, .c (.v (.int .i64 v0))), (12, .c (.l 50 sI2 c0.1)), (13, .c (.v (.int .i64 (c0.1.length : Int)))), (14, .c (.v (.bool (decide (v0 < (c0.1.length : Int))))))], []⟩) c0 (fun v => loopRun [0, 0, 1, 5] (run E (den E k) (lv 20) k (nthLoop Tryd.f20 0)) n (StleqSpanS_0 c0 v) K) v := by kernel_rfl
theorem lleqSpanS_0 {R : Type} (k : Nat) (K : Ex → St → Option R) (c0 : CleqSpanS_0) : ∀ (n : Nat) (v : VleqSpanS_0), loopRun [0, 0, 1, 5] (run E (den E k) (lv 20) k (nthLoop Tryd.f20 0)) n (StleqSpanS_0 c0 v) K = LleqSpanS_0 k (fun (v0 : VleqSpanS_0) (x1 : Int × Int) (x2 : Int × Int) (p3 : Bool) => K .ret ⟨27, 0, [(0, .c (.l 50 sI2 c0.1)), (1, .c (.l 50 sI2 c0.2)), (4, .c (.v (.bool false))), (5, .c (.v (.int .i64 v0))), (11, .c (.v (.int .i64 v0))), (12, .c (.l 50 sI2 c0.1)), (13, .c (.v (.int .i64 (c0.1.length : Int)))), (14, .c (.v (.bool (decide (v0 < (c0.1.length : Int)))))), (17, .c (.l 50 sI2 c0.1)), (18, .c (.v (.int .i64 v0))), (19, .c (.at_ [.v (.int .i64 x1.1), .v (.int .i64 x1.2)])), (20, .agg [.v (.int .i64 x1.1), .v (.int .i64 x1.2)]), (21, .c (.l 50 sI2 c0.2)), (22, .c (.v (.int .i64 v0))), (23, .c (.at_ [.v (.int .i64 x2.1), .v (.int .i64 x2.2)])), (24, .agg [.v (.int .i64 x2.1), .v (.int .i64 x2.2)]), (25, .c (.v (.bool p3))), (26, .c (.v (.bool (!p3))))], []⟩) (fun (v0 : VleqSpanS_0) => K (.exit 0) ⟨27, 0, [(0, .c (.l 50 sI2 c0.1)), (1, .c (.l 50 sI2 c0.2)), (5, .c (.v (.int .i64 v0))), (11, .c (.v (.int .i64 v0))), (12, .c (.l 50 sI2 c0.1)), (13, .c (.v (.int .i64 (c0.1.length : Int)))), (14, .c (.v (.bool (decide (v0 < (c0.1.length : Int))))))], []⟩) c0 n v := by
  intro n
  induction n with
  | zero => intro v; rfl
  | succ n ih =>
    intro v
    refine (bleqSpanS_0 k n K c0 v).trans ?_
    rw [funext ih]
    kernel_rfl
theorem mleqSpanS_0 (k : Nat) (a0 : List (Int × Int)) (a1 : List (Int × Int)) : FleqSpanS (k + 1) a0 a1 = if ((a0.length : Int) != (a1.length : Int)) = true then some false else loopRun (R := Bool) [0, 0, 1, 5] (run E (den E k) (lv 20) k (nthLoop Tryd.f20 0)) k (StleqSpanS_0 (a0, a1) 0) (kontAt E (den E k) (lv 20) k (bodyOf Tryd.f20) 0 [] (finish E (rs 20) Tryd.f20 : Ex → St → Option (Bool))) := by kernel_rfl
theorem eleqSpanS (k : Nat) (a0 : List (Int × Int)) (a1 : List (Int × Int)) : FleqSpanS (k + 1) a0 a1 = if ((a0.length : Int) != (a1.length : Int)) = true then some false else LleqSpanS_0 k (fun (v0 : Int) (x1 : Int × Int) (x2 : Int × Int) (p3 : Bool) => some false) (fun (v0 : Int) => some true) (a0, a1) k 0 := by
  rw [mleqSpanS_0]
  simp only [lleqSpanS_0]
  kernel_rfl
/-! loop.example/g00599/laws.szSpanS -/
noncomputable def FlszSpanS (k : Nat) (a0 : List (Int × Int)) (a1 : Int) : Option (Int) := den E k 16 [.c (.l 43 sI2 a0), .c (.v (.int .i64 a1))]
theorem elszSpanS (k : Nat) (a0 : List (Int × Int)) (a1 : Int) : FlszSpanS (k + 1) a0 a1 = if (decide ((IntKind.i64.wrap (a1 - (a0.length : Int))) < 0)) = true then some (-1) else some (IntKind.i64.wrap (a1 - (a0.length : Int))) := by kernel_rfl
/-! loop.example/g00599/laws.toSpanS -/
noncomputable def FltoSpanS (k : Nat) (a0 : List (Int × Int)) : Option (List (Int × Int)) := den E k 18 [.c (.l 43 sI2 a0)]
abbrev CltoSpanS_0 : Type := (List (Int × Int))
abbrev VltoSpanS_0 : Type := Int × (List (Int × Int))
def StltoSpanS_0 (c0 : CltoSpanS_0) (v0 : VltoSpanS_0) : St := ⟨23, 1, [(0, .c (.l 43 sI2 c0)), (3, .c (.ref 0)), (4, .c (.v (.int .i64 v0.1)))], [(0, .arr 50 sI2 v0.2)]⟩
noncomputable def BltoSpanS_0 {R : Type} (k : Nat) (X0 : VltoSpanS_0 → Option R) (c0 : CltoSpanS_0) (rec : VltoSpanS_0 → Option R) (v0 : VltoSpanS_0) : Option R := if (decide (v0.1 < (c0.length : Int))) = true then if 0 ≤ v0.1 then ix c0 v0.1.toNat fun x1 => (FltoSpan k x1).bind fun p2 => if 0 ≤ v0.1 then if v0.1 < (v0.2.length : Int) then ix v0.2 v0.1.toNat fun y3 => rec ((IntKind.i64.wrap (v0.1 + 1)), (v0.2.set v0.1.toNat p2)) else none else none else none else X0 v0
noncomputable def LltoSpanS_0 {R : Type} (k : Nat) (X0 : VltoSpanS_0 → Option R) (c : CltoSpanS_0) : Nat → VltoSpanS_0 → Option R
  | 0, _ => none
  | n + 1, v => BltoSpanS_0 k X0 c (LltoSpanS_0 k X0 c n) v
theorem bltoSpanS_0 {R : Type} (k n : Nat) (K : Ex → St → Option R) (c0 : CltoSpanS_0) (v : VltoSpanS_0) : loopRun [0, 0, 3, 4] (run E (den E k) (lv 18) k (nthLoop Tryd.f18 0)) (n + 1) (StltoSpanS_0 c0 v) K = BltoSpanS_0 k (fun (v0 : VltoSpanS_0) => K (.exit 0) ⟨23, 1, [(0, .c (.l 43 sI2 c0)), (3, .c (.ref 0)), (4, .c (.v (.int .i64 v0.1))), (8, .c (.v (.int .i64 v0.1))), (9, .c (.l 43 sI2 c0)), (10, .c (.v (.int .i64 (c0.length : Int)))), (11, .c (.v (.bool (decide (v0.1 < (c0.length : Int))))))], [(0, .arr 50 sI2 v0.2)]⟩) c0 (fun v => loopRun [0, 0, 3, 4] (run E (den E k) (lv 18) k (nthLoop Tryd.f18 0)) n (StltoSpanS_0 c0 v) K) v := by kernel_rfl
theorem lltoSpanS_0 {R : Type} (k : Nat) (K : Ex → St → Option R) (c0 : CltoSpanS_0) : ∀ (n : Nat) (v : VltoSpanS_0), loopRun [0, 0, 3, 4] (run E (den E k) (lv 18) k (nthLoop Tryd.f18 0)) n (StltoSpanS_0 c0 v) K = LltoSpanS_0 k (fun (v0 : VltoSpanS_0) => K (.exit 0) ⟨23, 1, [(0, .c (.l 43 sI2 c0)), (3, .c (.ref 0)), (4, .c (.v (.int .i64 v0.1))), (8, .c (.v (.int .i64 v0.1))), (9, .c (.l 43 sI2 c0)), (10, .c (.v (.int .i64 (c0.length : Int)))), (11, .c (.v (.bool (decide (v0.1 < (c0.length : Int))))))], [(0, .arr 50 sI2 v0.2)]⟩) c0 n v := by
  intro n
  induction n with
  | zero => intro v; rfl
  | succ n ih =>
    intro v
    refine (bltoSpanS_0 k n K c0 v).trans ?_
    rw [funext ih]
    kernel_rfl
theorem mltoSpanS_0 (k : Nat) (a0 : List (Int × Int)) : FltoSpanS (k + 1) a0 = if (a0.length : Int) = (a0.length : Int) then if 0 ≤ (a0.length : Int) then if 16 * (a0.length : Int).toNat ≤ 281474976710656 then loopRun (R := List (Int × Int)) [0, 0, 3, 4] (run E (den E k) (lv 18) k (nthLoop Tryd.f18 0)) k (StltoSpanS_0 a0 (0, (List.replicate (a0.length : Int).toNat ((0, 0) : Int × Int)))) (kontAt E (den E k) (lv 18) k (bodyOf Tryd.f18) 0 [] (finish E (rs 18) Tryd.f18 : Ex → St → Option (List (Int × Int)))) else none else none else none := by kernel_rfl
theorem eltoSpanS (k : Nat) (a0 : List (Int × Int)) : FltoSpanS (k + 1) a0 = if (a0.length : Int) = (a0.length : Int) then if 0 ≤ (a0.length : Int) then if 16 * (a0.length : Int).toNat ≤ 281474976710656 then LltoSpanS_0 k (fun (v0 : Int × (List (Int × Int))) => some v0.2) a0 k (0, (List.replicate (a0.length : Int).toNat ((0, 0) : Int × Int))) else none else none else none := by
  rw [mltoSpanS_0]
  simp only [lltoSpanS_0]
  kernel_rfl
/-! loop.example/g00599/spec.FormatSpans -/
noncomputable def FsFormatSpans (k : Nat) (a0 : List (Int × Int)) : Option (ByteArray) := den E k 17 [.c (.l 50 sI2 a0)]
abbrev CsFormatSpans_0 : Type := (List (Int × Int))
abbrev VsFormatSpans_0 : Type := ByteArray × Int
def StsFormatSpans_0 (c0 : CsFormatSpans_0) (v0 : VsFormatSpans_0) : St := ⟨35, 0, [(0, .c (.l 50 sI2 c0)), (3, .c (.v (.string v0.1))), (4, .c (.v (.int .i64 v0.2)))], []⟩
noncomputable def BsFormatSpans_0 {R : Type} (k : Nat) (X0 : VsFormatSpans_0 → Option R) (c0 : CsFormatSpans_0) (rec : VsFormatSpans_0 → Option R) (v0 : VsFormatSpans_0) : Option R := if (decide (v0.2 < (c0.length : Int))) = true then if (decide (v0.2 > 0)) = true then if (v0.1).size + ((⟨#[32]⟩ : ByteArray)).size ≤ 9223372036854775807 then if 0 ≤ v0.2 then ix c0 v0.2.toNat fun x1 => (FsFormatInt k x1.1).bind fun p2 => if ((v0.1 ++ (⟨#[32]⟩ : ByteArray))).size + (p2).size ≤ 9223372036854775807 then if (((v0.1 ++ (⟨#[32]⟩ : ByteArray)) ++ p2)).size + ((⟨#[45]⟩ : ByteArray)).size ≤ 9223372036854775807 then if 0 ≤ v0.2 then ix c0 v0.2.toNat fun x3 => (FsFormatInt k x3.2).bind fun p4 => if ((((v0.1 ++ (⟨#[32]⟩ : ByteArray)) ++ p2) ++ (⟨#[45]⟩ : ByteArray))).size + (p4).size ≤ 9223372036854775807 then rec (((((v0.1 ++ (⟨#[32]⟩ : ByteArray)) ++ p2) ++ (⟨#[45]⟩ : ByteArray)) ++ p4), (IntKind.i64.wrap (v0.2 + 1))) else none else none else none else none else none else none else if 0 ≤ v0.2 then ix c0 v0.2.toNat fun x5 => (FsFormatInt k x5.1).bind fun p6 => if (v0.1).size + (p6).size ≤ 9223372036854775807 then if ((v0.1 ++ p6)).size + ((⟨#[45]⟩ : ByteArray)).size ≤ 9223372036854775807 then if 0 ≤ v0.2 then ix c0 v0.2.toNat fun x7 => (FsFormatInt k x7.2).bind fun p8 => if (((v0.1 ++ p6) ++ (⟨#[45]⟩ : ByteArray))).size + (p8).size ≤ 9223372036854775807 then rec ((((v0.1 ++ p6) ++ (⟨#[45]⟩ : ByteArray)) ++ p8), (IntKind.i64.wrap (v0.2 + 1))) else none else none else none else none else none else X0 v0
noncomputable def LsFormatSpans_0 {R : Type} (k : Nat) (X0 : VsFormatSpans_0 → Option R) (c : CsFormatSpans_0) : Nat → VsFormatSpans_0 → Option R
  | 0, _ => none
  | n + 1, v => BsFormatSpans_0 k X0 c (LsFormatSpans_0 k X0 c n) v
theorem bsFormatSpans_0 {R : Type} (k n : Nat) (K : Ex → St → Option R) (c0 : CsFormatSpans_0) (v : VsFormatSpans_0) : loopRun [0, 0, 3, 4] (run E (den E k) (lv 17) k (nthLoop Tryd.f17 0)) (n + 1) (StsFormatSpans_0 c0 v) K = BsFormatSpans_0 k (fun (v0 : VsFormatSpans_0) => K (.exit 0) ⟨35, 0, [(0, .c (.l 50 sI2 c0)), (3, .c (.v (.string v0.1))), (4, .c (.v (.int .i64 v0.2))), (5, .c (.v (.int .i64 v0.2))), (6, .c (.l 50 sI2 c0)), (7, .c (.v (.int .i64 (c0.length : Int)))), (8, .c (.v (.bool (decide (v0.2 < (c0.length : Int))))))], []⟩) c0 (fun v => loopRun [0, 0, 3, 4] (run E (den E k) (lv 17) k (nthLoop Tryd.f17 0)) n (StsFormatSpans_0 c0 v) K) v := by kernel_rfl
theorem lsFormatSpans_0 {R : Type} (k : Nat) (K : Ex → St → Option R) (c0 : CsFormatSpans_0) : ∀ (n : Nat) (v : VsFormatSpans_0), loopRun [0, 0, 3, 4] (run E (den E k) (lv 17) k (nthLoop Tryd.f17 0)) n (StsFormatSpans_0 c0 v) K = LsFormatSpans_0 k (fun (v0 : VsFormatSpans_0) => K (.exit 0) ⟨35, 0, [(0, .c (.l 50 sI2 c0)), (3, .c (.v (.string v0.1))), (4, .c (.v (.int .i64 v0.2))), (5, .c (.v (.int .i64 v0.2))), (6, .c (.l 50 sI2 c0)), (7, .c (.v (.int .i64 (c0.length : Int)))), (8, .c (.v (.bool (decide (v0.2 < (c0.length : Int))))))], []⟩) c0 n v := by
  intro n
  induction n with
  | zero => intro v; rfl
  | succ n ih =>
    intro v
    refine (bsFormatSpans_0 k n K c0 v).trans ?_
    rw [funext ih]
    kernel_rfl
theorem msFormatSpans_0 (k : Nat) (a0 : List (Int × Int)) : FsFormatSpans (k + 1) a0 = loopRun (R := ByteArray) [0, 0, 3, 4] (run E (den E k) (lv 17) k (nthLoop Tryd.f17 0)) k (StsFormatSpans_0 a0 ((⟨#[]⟩ : ByteArray), 0)) (kontAt E (den E k) (lv 17) k (bodyOf Tryd.f17) 0 [] (finish E (rs 17) Tryd.f17 : Ex → St → Option (ByteArray))) := by kernel_rfl
theorem esFormatSpans (k : Nat) (a0 : List (Int × Int)) : FsFormatSpans (k + 1) a0 = LsFormatSpans_0 k (fun (v0 : ByteArray × Int) => if ((a0.length : Int) == 0) = true then some (⟨#[45]⟩ : ByteArray) else some v0.1) a0 k ((⟨#[]⟩ : ByteArray), 0) := by
  rw [msFormatSpans_0]
  simp only [lsFormatSpans_0]
  kernel_rfl
/-! loop.example/g00599/laws.FnExactFormatSpans -/
noncomputable def FlFnExactFormatSpans (k : Nat) (a0 : List (Int × Int)) : Option (Bool) := den E k 5 [.c (.l 43 sI2 a0)]
theorem elFnExactFormatSpans (k : Nat) (a0 : List (Int × Int)) : FlFnExactFormatSpans (k + 1) a0 = (FlszSpanS k a0 1048576).bind fun p1 => if (decide (p1 < 0)) = true then some true else (FltoSpanS k a0).bind fun p2 => (FsFormatSpans k p2).bind fun p3 => (FltoSpanS k a0).bind fun p4 => (FiFormatSpans k p4).bind fun p5 => if (!((p5).toList == (p3).toList)) = true then some false else (FltoSpanS k a0).bind fun p6 => (FleqSpanS k p4 p6).bind fun p7 => if (!p7) = true then some false else some true := by kernel_rfl
end Go.Proofs.YtmabdlkmiddoiaaDoor.World
