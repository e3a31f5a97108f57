/-
  No cell of these rows narrows 'for every input' (looked for: loops, veiled, ifaces, maps, wideKeys, modest, calm, conditions, laid).
  DERIVED. THE GIVEN ROWS OF THIS SEAT. 4 by the template 'for every input the law returns true; each argument reads behind the call as it read before'; 0 by the template 'total and deterministic' (their statements: YtmkkoalilmgpcaaGreatTotals.lean).
  GIVEN WITH THE SEED: the statements are not yours to turn. If you find one false, say at which input.
  Laid BY PROGRAM, IN A SANDBOX (cutbox-rows.mjs): the forced cells as the released guide's own fill.sh prints them over the translation f5b4f9eaec1b01cb… (all of the seat's roots in one cut). By AI agents, Wed Nov 11 2026. No macro, syntax, notation, axiom, sorry.
-/
import Derived.Test.YtmkkoalilmgpcaaGreatChecked
import GoSem.Claim
import GoSem.ClaimJoined
import GoSem.ClaimMapViews
import Derived.JoinedTies
import Derived.KernelRfl
namespace Go.Proofs.YtmkkoalilmgpcaaGreat
/- THE CELL 'sum', in the pinned program and in every row, IS THE sha256 OF THE DUMP (.gsa) THAT YtmkkoalilmgpcaaGreatProg.lean LOADS. Nothing in Lean hashes anything: it is a label: what it is worth is what the hold of that sum in a sandbox is worth. -/
noncomputable def Tryz.pinned : Pinned := { name := "ytmkkoalilmgpcaagreat", sum := "f5b4f9eaec1b01cb0ce6c75db0b43ae75ecfe7b1e239eb83c2beedc29add1bde", checked := Tryz.checked }
namespace Rows
def none {H : Type} : Left H := { results := [], args := [] }

/-- 'laws.FnExactIsLawful': WHATEVER THE INPUT: true; the input reads as it did. -/
def fnExactIsLawfulSpec : ChangeSpec := { name := "fnExactIsLawful", fn := fun _ => fun
  | [d] => { results := [.lit (.bool true)], args := [d] }
  | _ => none }
def fnExactIsLawfulRow : OpenClaim := { program := "ytmkkoalilmgpcaagreat", sum := "f5b4f9eaec1b01cb0ce6c75db0b43ae75ecfe7b1e239eb83c2beedc29add1bde", func := "loop.example/g00599/laws.FnExactIsLawful", spec := "fnExactIsLawful", apart := false }
def FnExactIsLawfulSaid : Prop := fnExactIsLawfulRow.holds Tryz.pinned (OpenSpec.ofChange fnExactIsLawfulSpec)

/-- ITS FALSE NEIGHBOUR: 'it returns false'. Refute it at one input. -/
def fnExactIsLawfulWrong : ChangeSpec := { name := "fnExactIsLawful", fn := fun _ => fun
  | [d] => { results := [.lit (.bool false)], args := [d] }
  | _ => none }
def FnExactIsLawfulWrongFalsely : Prop := fnExactIsLawfulRow.holds Tryz.pinned (OpenSpec.ofChange fnExactIsLawfulWrong)

/-- 'laws.FnExactIsInContact': WHATEVER THE INPUT: true; the input reads as it did. -/
def fnExactIsInContactSpec : ChangeSpec := { name := "fnExactIsInContact", fn := fun _ => fun
  | [d] => { results := [.lit (.bool true)], args := [d] }
  | _ => none }
def fnExactIsInContactRow : OpenClaim := { program := "ytmkkoalilmgpcaagreat", sum := "f5b4f9eaec1b01cb0ce6c75db0b43ae75ecfe7b1e239eb83c2beedc29add1bde", func := "loop.example/g00599/laws.FnExactIsInContact", spec := "fnExactIsInContact", unfollowed := true, recurses := true, apart := false }
def FnExactIsInContactSaid : Prop := fnExactIsInContactRow.holds Tryz.pinned (OpenSpec.ofChange fnExactIsInContactSpec)

/-- ITS FALSE NEIGHBOUR: 'it returns false'. Refute it at one input. -/
def fnExactIsInContactWrong : ChangeSpec := { name := "fnExactIsInContact", fn := fun _ => fun
  | [d] => { results := [.lit (.bool false)], args := [d] }
  | _ => none }
def FnExactIsInContactWrongFalsely : Prop := fnExactIsInContactRow.holds Tryz.pinned (OpenSpec.ofChange fnExactIsInContactWrong)

/-- 'laws.FnExactIsQuiet': WHATEVER THE INPUT: true; the input reads as it did. -/
def fnExactIsQuietSpec : ChangeSpec := { name := "fnExactIsQuiet", fn := fun _ => fun
  | [d] => { results := [.lit (.bool true)], args := [d] }
  | _ => none }
def fnExactIsQuietRow : OpenClaim := { program := "ytmkkoalilmgpcaagreat", sum := "f5b4f9eaec1b01cb0ce6c75db0b43ae75ecfe7b1e239eb83c2beedc29add1bde", func := "loop.example/g00599/laws.FnExactIsQuiet", spec := "fnExactIsQuiet", apart := false }
def FnExactIsQuietSaid : Prop := fnExactIsQuietRow.holds Tryz.pinned (OpenSpec.ofChange fnExactIsQuietSpec)

/-- ITS FALSE NEIGHBOUR: 'it returns false'. Refute it at one input. -/
def fnExactIsQuietWrong : ChangeSpec := { name := "fnExactIsQuiet", fn := fun _ => fun
  | [d] => { results := [.lit (.bool false)], args := [d] }
  | _ => none }
def FnExactIsQuietWrongFalsely : Prop := fnExactIsQuietRow.holds Tryz.pinned (OpenSpec.ofChange fnExactIsQuietWrong)

/-- 'laws.FnExactEqualWorlds': WHATEVER THE INPUT: true; the input reads as it did. -/
def fnExactEqualWorldsSpec : ChangeSpec := { name := "fnExactEqualWorlds", fn := fun _ => fun
  | [d1, d2] => { results := [.lit (.bool true)], args := [d1, d2] }
  | _ => none }
def fnExactEqualWorldsRow : OpenClaim := { program := "ytmkkoalilmgpcaagreat", sum := "f5b4f9eaec1b01cb0ce6c75db0b43ae75ecfe7b1e239eb83c2beedc29add1bde", func := "loop.example/g00599/laws.FnExactEqualWorlds", spec := "fnExactEqualWorlds", unfollowed := true, recurses := true, apart := false }
def FnExactEqualWorldsSaid : Prop := fnExactEqualWorldsRow.holds Tryz.pinned (OpenSpec.ofChange fnExactEqualWorldsSpec)

/-- ITS FALSE NEIGHBOUR: 'it returns false'. Refute it at one input. -/
def fnExactEqualWorldsWrong : ChangeSpec := { name := "fnExactEqualWorlds", fn := fun _ => fun
  | [d1, d2] => { results := [.lit (.bool false)], args := [d1, d2] }
  | _ => none }
def FnExactEqualWorldsWrongFalsely : Prop := fnExactEqualWorldsRow.holds Tryz.pinned (OpenSpec.ofChange fnExactEqualWorldsWrong)

/- THE SECOND FORM. 'bulk': how many values and letters a reading holds, each counted each time it is reached (what is shared counts as often as it is met; a slice's spare places count too). A statement '..UptoSaid' is the law's where the arguments, and the package variables that the reading takes, are together of bulk at most 1048576: NARROWER than '..Said'. Prove '..Said' where nothing that the law and all that it calls make is longer than what came in: it says more and counts as full. Else prove '..UptoSaid'. A law counts once. -/
mutual
def uptoBulk {H : Type} : DataW H → Nat
  | .lit (.string bytes) => bytes.length + 1
  | .lit _ => 1
  | .nil => 1
  | .ptr d => uptoBulk d + 1
  | .slice elems spare => uptoBulkAll elems + uptoBulkAll spare + 1
  | .agg parts => uptoBulkAll parts + 1
  | .iface _ d => uptoBulk d + 1
  | .map entries => uptoBulkEntries entries + 1
  | .held _ => 1
def uptoBulkAll {H : Type} : List (DataW H) → Nat
  | [] => 0
  | d :: r => uptoBulk d + uptoBulkAll r
def uptoBulkEntries {H : Type} : List (Lit × DataW H) → Nat
  | [] => 0
  | x :: r => uptoBulkEntry x + uptoBulkEntries r
def uptoBulkEntry {H : Type} : Lit × DataW H → Nat
  | (.string bytes, d) => bytes.length + uptoBulk d + 1
  | (_, d) => uptoBulk d + 1
 end
def uptoSmall : (H : Type) → List (DataW H) → Bool := fun _ ds => decide (uptoBulkAll ds ≤ 1048576)
def OpenSpec.upto (s : _root_.Go.ChangeSpec) : _root_.Go.OpenSpec := { _root_.Go.OpenSpec.ofChange s with cond := some uptoSmall }

/-- 'laws.FnExactIsLawful', WHERE WHAT IT READS IS OF BULK AT MOST 1048576: true; the input reads as it did. -/
def fnExactIsLawfulUptoRow : OpenClaim := { program := "ytmkkoalilmgpcaagreat", sum := "f5b4f9eaec1b01cb0ce6c75db0b43ae75ecfe7b1e239eb83c2beedc29add1bde", func := "loop.example/g00599/laws.FnExactIsLawful", spec := "fnExactIsLawful", apart := false, narrowed := true }
def FnExactIsLawfulUptoSaid : Prop := fnExactIsLawfulUptoRow.holds Tryz.pinned (OpenSpec.upto fnExactIsLawfulSpec)

/-- 'laws.FnExactIsInContact', WHERE WHAT IT READS IS OF BULK AT MOST 1048576: true; the input reads as it did. -/
def fnExactIsInContactUptoRow : OpenClaim := { program := "ytmkkoalilmgpcaagreat", sum := "f5b4f9eaec1b01cb0ce6c75db0b43ae75ecfe7b1e239eb83c2beedc29add1bde", func := "loop.example/g00599/laws.FnExactIsInContact", spec := "fnExactIsInContact", unfollowed := true, recurses := true, apart := false, narrowed := true }
def FnExactIsInContactUptoSaid : Prop := fnExactIsInContactUptoRow.holds Tryz.pinned (OpenSpec.upto fnExactIsInContactSpec)

/-- 'laws.FnExactIsQuiet', WHERE WHAT IT READS IS OF BULK AT MOST 1048576: true; the input reads as it did. -/
def fnExactIsQuietUptoRow : OpenClaim := { program := "ytmkkoalilmgpcaagreat", sum := "f5b4f9eaec1b01cb0ce6c75db0b43ae75ecfe7b1e239eb83c2beedc29add1bde", func := "loop.example/g00599/laws.FnExactIsQuiet", spec := "fnExactIsQuiet", apart := false, narrowed := true }
def FnExactIsQuietUptoSaid : Prop := fnExactIsQuietUptoRow.holds Tryz.pinned (OpenSpec.upto fnExactIsQuietSpec)

/-- 'laws.FnExactEqualWorlds', WHERE WHAT IT READS IS OF BULK AT MOST 1048576: true; the input reads as it did. -/
def fnExactEqualWorldsUptoRow : OpenClaim := { program := "ytmkkoalilmgpcaagreat", sum := "f5b4f9eaec1b01cb0ce6c75db0b43ae75ecfe7b1e239eb83c2beedc29add1bde", func := "loop.example/g00599/laws.FnExactEqualWorlds", spec := "fnExactEqualWorlds", unfollowed := true, recurses := true, apart := false, narrowed := true }
def FnExactEqualWorldsUptoSaid : Prop := fnExactEqualWorldsUptoRow.holds Tryz.pinned (OpenSpec.upto fnExactEqualWorldsSpec)

end Rows
end Go.Proofs.YtmkkoalilmgpcaaGreat
