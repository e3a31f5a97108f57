/-
  No cell of these rows narrows 'for every input' (looked for: loops, veiled, ifaces, maps, wideKeys, modest, calm, conditions, laid).
  DERIVED. THE GIVEN ROWS OF THIS SEAT. 2 by the template 'for every input the law returns true; each argument reads behind the call as it read before'; 0 by the template 'total and deterministic' (their statements: YthnogjmaiffagaaGreatTotals.lean).
  GIVEN WITH THE SEED: the statements are not yours to turn. If you find one false, say at which input.
  Laid BY PROGRAM, IN A SANDBOX (cutbox-rows.mjs): the forced cells as the released guide's own fill.sh prints them over the translation 701dfc22c07fc597… (all of the seat's roots in one cut). By AI agents, Wed Nov 11 2026. No macro, syntax, notation, axiom, sorry.
-/
import Derived.Test.YthnogjmaiffagaaGreatChecked
import GoSem.Claim
import GoSem.ClaimJoined
import GoSem.ClaimMapViews
import Derived.JoinedTies
import Derived.KernelRfl
namespace Go.Proofs.YthnogjmaiffagaaGreat
/- THE CELL 'sum', in the pinned program and in every row, IS THE sha256 OF THE DUMP (.gsa) THAT YthnogjmaiffagaaGreatProg.lean LOADS. Nothing in Lean hashes anything: it is a label: what it is worth is what the hold of that sum in a sandbox is worth. -/
noncomputable def Tryz.pinned : Pinned := { name := "ythnogjmaiffagaagreat", sum := "701dfc22c07fc597b9f82de2ab2457f2b8f01fd218effe2d100692a5f800c161", checked := Tryz.checked }
namespace Rows
def none {H : Type} : Left H := { results := [], args := [] }

/-- 'laws.FnExactHopFor': WHATEVER THE INPUT: true; the input reads as it did. -/
def fnExactHopForSpec : ChangeSpec := { name := "fnExactHopFor", fn := fun _ => fun
  | [d1, d2, d3] => { results := [.lit (.bool true)], args := [d1, d2, d3] }
  | _ => none }
def fnExactHopForRow : OpenClaim := { program := "ythnogjmaiffagaagreat", sum := "701dfc22c07fc597b9f82de2ab2457f2b8f01fd218effe2d100692a5f800c161", func := "loop.example/g00599/laws.FnExactHopFor", spec := "fnExactHopFor", unfollowed := true, recurses := true, apart := false }
def FnExactHopForSaid : Prop := fnExactHopForRow.holds Tryz.pinned (OpenSpec.ofChange fnExactHopForSpec)

/-- ITS FALSE NEIGHBOUR: 'it returns false'. Refute it at one input. -/
def fnExactHopForWrong : ChangeSpec := { name := "fnExactHopFor", fn := fun _ => fun
  | [d1, d2, d3] => { results := [.lit (.bool false)], args := [d1, d2, d3] }
  | _ => none }
def FnExactHopForWrongFalsely : Prop := fnExactHopForRow.holds Tryz.pinned (OpenSpec.ofChange fnExactHopForWrong)

/-- 'laws.FnExactDeliver': WHATEVER THE INPUT: true; the input reads as it did. -/
def fnExactDeliverSpec : ChangeSpec := { name := "fnExactDeliver", fn := fun _ => fun
  | [d1, d2] => { results := [.lit (.bool true)], args := [d1, d2] }
  | _ => none }
def fnExactDeliverRow : OpenClaim := { program := "ythnogjmaiffagaagreat", sum := "701dfc22c07fc597b9f82de2ab2457f2b8f01fd218effe2d100692a5f800c161", func := "loop.example/g00599/laws.FnExactDeliver", spec := "fnExactDeliver", inPlace := ["slices.overlaps[int]"], unfollowed := true, recurses := true, apart := false }
def FnExactDeliverSaid : Prop := fnExactDeliverRow.holds Tryz.pinned (OpenSpec.ofChange fnExactDeliverSpec)

/-- ITS FALSE NEIGHBOUR: 'it returns false'. Refute it at one input. -/
def fnExactDeliverWrong : ChangeSpec := { name := "fnExactDeliver", fn := fun _ => fun
  | [d1, d2] => { results := [.lit (.bool false)], args := [d1, d2] }
  | _ => none }
def FnExactDeliverWrongFalsely : Prop := fnExactDeliverRow.holds Tryz.pinned (OpenSpec.ofChange fnExactDeliverWrong)

/- THE SECOND FORM. 'bulk': how many values and letters a reading holds, each counted each time it is reached (what is shared counts as often as it is met; a slice's spare places count too). A statement '..UptoSaid' is the law's where the arguments, and the package variables that the reading takes, are together of bulk at most 1048576: NARROWER than '..Said'. Prove '..Said' where nothing that the law and all that it calls make is longer than what came in: it says more and counts as full. Else prove '..UptoSaid'. A law counts once. -/
mutual
def uptoBulk {H : Type} : DataW H → Nat
  | .lit (.string bytes) => bytes.length + 1
  | .lit _ => 1
  | .nil => 1
  | .ptr d => uptoBulk d + 1
  | .slice elems spare => uptoBulkAll elems + uptoBulkAll spare + 1
  | .agg parts => uptoBulkAll parts + 1
  | .iface _ d => uptoBulk d + 1
  | .map entries => uptoBulkEntries entries + 1
  | .held _ => 1
def uptoBulkAll {H : Type} : List (DataW H) → Nat
  | [] => 0
  | d :: r => uptoBulk d + uptoBulkAll r
def uptoBulkEntries {H : Type} : List (Lit × DataW H) → Nat
  | [] => 0
  | x :: r => uptoBulkEntry x + uptoBulkEntries r
def uptoBulkEntry {H : Type} : Lit × DataW H → Nat
  | (.string bytes, d) => bytes.length + uptoBulk d + 1
  | (_, d) => uptoBulk d + 1
 end
def uptoSmall : (H : Type) → List (DataW H) → Bool := fun _ ds => decide (uptoBulkAll ds ≤ 1048576)
def OpenSpec.upto (s : _root_.Go.ChangeSpec) : _root_.Go.OpenSpec := { _root_.Go.OpenSpec.ofChange s with cond := some uptoSmall }

/-- 'laws.FnExactHopFor', WHERE WHAT IT READS IS OF BULK AT MOST 1048576: true; the input reads as it did. -/
def fnExactHopForUptoRow : OpenClaim := { program := "ythnogjmaiffagaagreat", sum := "701dfc22c07fc597b9f82de2ab2457f2b8f01fd218effe2d100692a5f800c161", func := "loop.example/g00599/laws.FnExactHopFor", spec := "fnExactHopFor", unfollowed := true, recurses := true, apart := false, narrowed := true }
def FnExactHopForUptoSaid : Prop := fnExactHopForUptoRow.holds Tryz.pinned (OpenSpec.upto fnExactHopForSpec)

/-- 'laws.FnExactDeliver', WHERE WHAT IT READS IS OF BULK AT MOST 1048576: true; the input reads as it did. -/
def fnExactDeliverUptoRow : OpenClaim := { program := "ythnogjmaiffagaagreat", sum := "701dfc22c07fc597b9f82de2ab2457f2b8f01fd218effe2d100692a5f800c161", func := "loop.example/g00599/laws.FnExactDeliver", spec := "fnExactDeliver", inPlace := ["slices.overlaps[int]"], unfollowed := true, recurses := true, apart := false, narrowed := true }
def FnExactDeliverUptoSaid : Prop := fnExactDeliverUptoRow.holds Tryz.pinned (OpenSpec.upto fnExactDeliverSpec)

end Rows
end Go.Proofs.YthnogjmaiffagaaGreat
