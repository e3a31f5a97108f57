/-
  No cell of these rows narrows 'for every input' (looked for: loops, veiled, ifaces, maps, wideKeys, modest, calm, conditions, laid).
  DERIVED. THE GIVEN ROWS OF THIS SEAT. 5 by the template 'for every input the law returns true; each argument reads behind the call as it read before'; 0 by the template 'total and deterministic' (their statements: YtekefiglklmgnaaGreatTotals.lean).
  GIVEN WITH THE SEED: the statements are not yours to turn. If you find one false, say at which input.
  Laid BY PROGRAM, IN A SANDBOX (cutbox-rows.mjs): the forced cells as the released guide's own fill.sh prints them over the translation a473f6bf0560b8ee… (all of the seat's roots in one cut). By AI agents, Wed Nov 11 2026. No macro, syntax, notation, axiom, sorry.
-/
import Derived.Test.YtekefiglklmgnaaGreatChecked
import GoSem.Claim
import GoSem.ClaimJoined
import GoSem.ClaimMapViews
import Derived.JoinedTies
import Derived.KernelRfl
namespace Go.Proofs.YtekefiglklmgnaaGreat
/- THE CELL 'sum', in the pinned program and in every row, IS THE sha256 OF THE DUMP (.gsa) THAT YtekefiglklmgnaaGreatProg.lean LOADS. Nothing in Lean hashes anything: it is a label: what it is worth is what the hold of that sum in a sandbox is worth. -/
noncomputable def Tryz.pinned : Pinned := { name := "ytekefiglklmgnaagreat", sum := "a473f6bf0560b8ee7aed5402d8e6c5ab041557061490d9a448382b7cc58a06e2", checked := Tryz.checked }
namespace Rows
def none {H : Type} : Left H := { results := [], args := [] }

/-- 'laws.FnExactStepFault': WHATEVER THE INPUT: true; the input reads as it did. -/
def fnExactStepFaultSpec : ChangeSpec := { name := "fnExactStepFault", fn := fun _ => fun
  | [d1, d2] => { results := [.lit (.bool true)], args := [d1, d2] }
  | _ => none }
def fnExactStepFaultRow : OpenClaim := { program := "ytekefiglklmgnaagreat", sum := "a473f6bf0560b8ee7aed5402d8e6c5ab041557061490d9a448382b7cc58a06e2", func := "loop.example/g00599/laws.FnExactStepFault", spec := "fnExactStepFault", apart := false }
def FnExactStepFaultSaid : Prop := fnExactStepFaultRow.holds Tryz.pinned (OpenSpec.ofChange fnExactStepFaultSpec)

/-- ITS FALSE NEIGHBOUR: 'it returns false'. Refute it at one input. -/
def fnExactStepFaultWrong : ChangeSpec := { name := "fnExactStepFault", fn := fun _ => fun
  | [d1, d2] => { results := [.lit (.bool false)], args := [d1, d2] }
  | _ => none }
def FnExactStepFaultWrongFalsely : Prop := fnExactStepFaultRow.holds Tryz.pinned (OpenSpec.ofChange fnExactStepFaultWrong)

/-- 'laws.FnExactStepOffer': WHATEVER THE INPUT: true; the input reads as it did. -/
def fnExactStepOfferSpec : ChangeSpec := { name := "fnExactStepOffer", fn := fun _ => fun
  | [d1, d2] => { results := [.lit (.bool true)], args := [d1, d2] }
  | _ => none }
def fnExactStepOfferRow : OpenClaim := { program := "ytekefiglklmgnaagreat", sum := "a473f6bf0560b8ee7aed5402d8e6c5ab041557061490d9a448382b7cc58a06e2", func := "loop.example/g00599/laws.FnExactStepOffer", spec := "fnExactStepOffer", unfollowed := true, recurses := true, apart := false }
def FnExactStepOfferSaid : Prop := fnExactStepOfferRow.holds Tryz.pinned (OpenSpec.ofChange fnExactStepOfferSpec)

/-- ITS FALSE NEIGHBOUR: 'it returns false'. Refute it at one input. -/
def fnExactStepOfferWrong : ChangeSpec := { name := "fnExactStepOffer", fn := fun _ => fun
  | [d1, d2] => { results := [.lit (.bool false)], args := [d1, d2] }
  | _ => none }
def FnExactStepOfferWrongFalsely : Prop := fnExactStepOfferRow.holds Tryz.pinned (OpenSpec.ofChange fnExactStepOfferWrong)

/-- 'laws.FnExactStepFlow': WHATEVER THE INPUT: true; the input reads as it did. -/
def fnExactStepFlowSpec : ChangeSpec := { name := "fnExactStepFlow", fn := fun _ => fun
  | [d1, d2] => { results := [.lit (.bool true)], args := [d1, d2] }
  | _ => none }
def fnExactStepFlowRow : OpenClaim := { program := "ytekefiglklmgnaagreat", sum := "a473f6bf0560b8ee7aed5402d8e6c5ab041557061490d9a448382b7cc58a06e2", func := "loop.example/g00599/laws.FnExactStepFlow", spec := "fnExactStepFlow", unfollowed := true, recurses := true, apart := false }
def FnExactStepFlowSaid : Prop := fnExactStepFlowRow.holds Tryz.pinned (OpenSpec.ofChange fnExactStepFlowSpec)

/-- ITS FALSE NEIGHBOUR: 'it returns false'. Refute it at one input. -/
def fnExactStepFlowWrong : ChangeSpec := { name := "fnExactStepFlow", fn := fun _ => fun
  | [d1, d2] => { results := [.lit (.bool false)], args := [d1, d2] }
  | _ => none }
def FnExactStepFlowWrongFalsely : Prop := fnExactStepFlowRow.holds Tryz.pinned (OpenSpec.ofChange fnExactStepFlowWrong)

/-- 'laws.FnExactHopFor': WHATEVER THE INPUT: true; the input reads as it did. -/
def fnExactHopForSpec : ChangeSpec := { name := "fnExactHopFor", fn := fun _ => fun
  | [d1, d2, d3] => { results := [.lit (.bool true)], args := [d1, d2, d3] }
  | _ => none }
def fnExactHopForRow : OpenClaim := { program := "ytekefiglklmgnaagreat", sum := "a473f6bf0560b8ee7aed5402d8e6c5ab041557061490d9a448382b7cc58a06e2", func := "loop.example/g00599/laws.FnExactHopFor", spec := "fnExactHopFor", unfollowed := true, recurses := true, apart := false }
def FnExactHopForSaid : Prop := fnExactHopForRow.holds Tryz.pinned (OpenSpec.ofChange fnExactHopForSpec)

/-- ITS FALSE NEIGHBOUR: 'it returns false'. Refute it at one input. -/
def fnExactHopForWrong : ChangeSpec := { name := "fnExactHopFor", fn := fun _ => fun
  | [d1, d2, d3] => { results := [.lit (.bool false)], args := [d1, d2, d3] }
  | _ => none }
def FnExactHopForWrongFalsely : Prop := fnExactHopForRow.holds Tryz.pinned (OpenSpec.ofChange fnExactHopForWrong)

/-- 'laws.FnExactDeliver': WHATEVER THE INPUT: true; the input reads as it did. -/
def fnExactDeliverSpec : ChangeSpec := { name := "fnExactDeliver", fn := fun _ => fun
  | [d1, d2] => { results := [.lit (.bool true)], args := [d1, d2] }
  | _ => none }
def fnExactDeliverRow : OpenClaim := { program := "ytekefiglklmgnaagreat", sum := "a473f6bf0560b8ee7aed5402d8e6c5ab041557061490d9a448382b7cc58a06e2", func := "loop.example/g00599/laws.FnExactDeliver", spec := "fnExactDeliver", inPlace := ["slices.overlaps[int]"], unfollowed := true, recurses := true, apart := false }
def FnExactDeliverSaid : Prop := fnExactDeliverRow.holds Tryz.pinned (OpenSpec.ofChange fnExactDeliverSpec)

/-- ITS FALSE NEIGHBOUR: 'it returns false'. Refute it at one input. -/
def fnExactDeliverWrong : ChangeSpec := { name := "fnExactDeliver", fn := fun _ => fun
  | [d1, d2] => { results := [.lit (.bool false)], args := [d1, d2] }
  | _ => none }
def FnExactDeliverWrongFalsely : Prop := fnExactDeliverRow.holds Tryz.pinned (OpenSpec.ofChange fnExactDeliverWrong)

/- THE SECOND FORM. 'bulk': how many values and letters a reading holds, each counted each time it is reached (what is shared counts as often as it is met; a slice's spare places count too). A statement '..UptoSaid' is the law's where the arguments, and the package variables that the reading takes, are together of bulk at most 1048576: NARROWER than '..Said'. Prove '..Said' where nothing that the law and all that it calls make is longer than what came in: it says more and counts as full. Else prove '..UptoSaid'. A law counts once. -/
mutual
def uptoBulk {H : Type} : DataW H → Nat
  | .lit (.string bytes) => bytes.length + 1
  | .lit _ => 1
  | .nil => 1
  | .ptr d => uptoBulk d + 1
  | .slice elems spare => uptoBulkAll elems + uptoBulkAll spare + 1
  | .agg parts => uptoBulkAll parts + 1
  | .iface _ d => uptoBulk d + 1
  | .map entries => uptoBulkEntries entries + 1
  | .held _ => 1
def uptoBulkAll {H : Type} : List (DataW H) → Nat
  | [] => 0
  | d :: r => uptoBulk d + uptoBulkAll r
def uptoBulkEntries {H : Type} : List (Lit × DataW H) → Nat
  | [] => 0
  | x :: r => uptoBulkEntry x + uptoBulkEntries r
def uptoBulkEntry {H : Type} : Lit × DataW H → Nat
  | (.string bytes, d) => bytes.length + uptoBulk d + 1
  | (_, d) => uptoBulk d + 1
 end
def uptoSmall : (H : Type) → List (DataW H) → Bool := fun _ ds => decide (uptoBulkAll ds ≤ 1048576)
def OpenSpec.upto (s : _root_.Go.ChangeSpec) : _root_.Go.OpenSpec := { _root_.Go.OpenSpec.ofChange s with cond := some uptoSmall }

/-- 'laws.FnExactStepFault', WHERE WHAT IT READS IS OF BULK AT MOST 1048576: true; the input reads as it did. -/
def fnExactStepFaultUptoRow : OpenClaim := { program := "ytekefiglklmgnaagreat", sum := "a473f6bf0560b8ee7aed5402d8e6c5ab041557061490d9a448382b7cc58a06e2", func := "loop.example/g00599/laws.FnExactStepFault", spec := "fnExactStepFault", apart := false, narrowed := true }
def FnExactStepFaultUptoSaid : Prop := fnExactStepFaultUptoRow.holds Tryz.pinned (OpenSpec.upto fnExactStepFaultSpec)

/-- 'laws.FnExactStepOffer', WHERE WHAT IT READS IS OF BULK AT MOST 1048576: true; the input reads as it did. -/
def fnExactStepOfferUptoRow : OpenClaim := { program := "ytekefiglklmgnaagreat", sum := "a473f6bf0560b8ee7aed5402d8e6c5ab041557061490d9a448382b7cc58a06e2", func := "loop.example/g00599/laws.FnExactStepOffer", spec := "fnExactStepOffer", unfollowed := true, recurses := true, apart := false, narrowed := true }
def FnExactStepOfferUptoSaid : Prop := fnExactStepOfferUptoRow.holds Tryz.pinned (OpenSpec.upto fnExactStepOfferSpec)

/-- 'laws.FnExactStepFlow', WHERE WHAT IT READS IS OF BULK AT MOST 1048576: true; the input reads as it did. -/
def fnExactStepFlowUptoRow : OpenClaim := { program := "ytekefiglklmgnaagreat", sum := "a473f6bf0560b8ee7aed5402d8e6c5ab041557061490d9a448382b7cc58a06e2", func := "loop.example/g00599/laws.FnExactStepFlow", spec := "fnExactStepFlow", unfollowed := true, recurses := true, apart := false, narrowed := true }
def FnExactStepFlowUptoSaid : Prop := fnExactStepFlowUptoRow.holds Tryz.pinned (OpenSpec.upto fnExactStepFlowSpec)

/-- 'laws.FnExactHopFor', WHERE WHAT IT READS IS OF BULK AT MOST 1048576: true; the input reads as it did. -/
def fnExactHopForUptoRow : OpenClaim := { program := "ytekefiglklmgnaagreat", sum := "a473f6bf0560b8ee7aed5402d8e6c5ab041557061490d9a448382b7cc58a06e2", func := "loop.example/g00599/laws.FnExactHopFor", spec := "fnExactHopFor", unfollowed := true, recurses := true, apart := false, narrowed := true }
def FnExactHopForUptoSaid : Prop := fnExactHopForUptoRow.holds Tryz.pinned (OpenSpec.upto fnExactHopForSpec)

/-- 'laws.FnExactDeliver', WHERE WHAT IT READS IS OF BULK AT MOST 1048576: true; the input reads as it did. -/
def fnExactDeliverUptoRow : OpenClaim := { program := "ytekefiglklmgnaagreat", sum := "a473f6bf0560b8ee7aed5402d8e6c5ab041557061490d9a448382b7cc58a06e2", func := "loop.example/g00599/laws.FnExactDeliver", spec := "fnExactDeliver", inPlace := ["slices.overlaps[int]"], unfollowed := true, recurses := true, apart := false, narrowed := true }
def FnExactDeliverUptoSaid : Prop := fnExactDeliverUptoRow.holds Tryz.pinned (OpenSpec.upto fnExactDeliverSpec)

end Rows
end Go.Proofs.YtekefiglklmgnaaGreat
