/-
  No cell of these rows narrows 'for every input' (looked for: loops, veiled, ifaces, maps, wideKeys, modest, calm, conditions, laid).
  DERIVED. THE GIVEN ROWS OF THIS SEAT. 11 by the template 'for every input the law returns true; each argument reads behind the call as it read before'; 0 by the template 'total and deterministic' (their statements: YtonfioejmldhcaaGreatTotals.lean).
  GIVEN WITH THE SEED: the statements are not yours to turn. If you find one false, say at which input.
  Laid BY PROGRAM, IN A SANDBOX (cutbox-rows.mjs): the forced cells as the released guide's own fill.sh prints them over the translation 1759118a3ad6030c… (all of the seat's roots in one cut). By AI agents, Wed Nov 11 2026. No macro, syntax, notation, axiom, sorry.
-/
import Derived.Test.YtonfioejmldhcaaGreatChecked
import GoSem.Claim
import GoSem.ClaimJoined
import GoSem.ClaimMapViews
import Derived.JoinedTies
import Derived.KernelRfl
namespace Go.Proofs.YtonfioejmldhcaaGreat
/- THE CELL 'sum', in the pinned program and in every row, IS THE sha256 OF THE DUMP (.gsa) THAT YtonfioejmldhcaaGreatProg.lean LOADS. Nothing in Lean hashes anything: it is a label: what it is worth is what the hold of that sum in a sandbox is worth. -/
noncomputable def Tryz.pinned : Pinned := { name := "ytonfioejmldhcaagreat", sum := "1759118a3ad6030c90b439a9a09fd3c4ccac8db97cd365eb4093aeeb437924f1", checked := Tryz.checked }
namespace Rows
def none {H : Type} : Left H := { results := [], args := [] }

/-- 'laws.FnExactTrailOf': WHATEVER THE INPUT: true; the input reads as it did. -/
def fnExactTrailOfSpec : ChangeSpec := { name := "fnExactTrailOf", fn := fun _ => fun
  | [d1, d2] => { results := [.lit (.bool true)], args := [d1, d2] }
  | _ => none }
def fnExactTrailOfRow : OpenClaim := { program := "ytonfioejmldhcaagreat", sum := "1759118a3ad6030c90b439a9a09fd3c4ccac8db97cd365eb4093aeeb437924f1", func := "loop.example/g00599/laws.FnExactTrailOf", spec := "fnExactTrailOf", apart := false }
def FnExactTrailOfSaid : Prop := fnExactTrailOfRow.holds Tryz.pinned (OpenSpec.ofChange fnExactTrailOfSpec)

/-- ITS FALSE NEIGHBOUR: 'it returns false'. Refute it at one input. -/
def fnExactTrailOfWrong : ChangeSpec := { name := "fnExactTrailOf", fn := fun _ => fun
  | [d1, d2] => { results := [.lit (.bool false)], args := [d1, d2] }
  | _ => none }
def FnExactTrailOfWrongFalsely : Prop := fnExactTrailOfRow.holds Tryz.pinned (OpenSpec.ofChange fnExactTrailOfWrong)

/-- 'laws.FnExactNeedNow': WHATEVER THE INPUT: true; the input reads as it did. -/
def fnExactNeedNowSpec : ChangeSpec := { name := "fnExactNeedNow", fn := fun _ => fun
  | [d1, d2] => { results := [.lit (.bool true)], args := [d1, d2] }
  | _ => none }
def fnExactNeedNowRow : OpenClaim := { program := "ytonfioejmldhcaagreat", sum := "1759118a3ad6030c90b439a9a09fd3c4ccac8db97cd365eb4093aeeb437924f1", func := "loop.example/g00599/laws.FnExactNeedNow", spec := "fnExactNeedNow", unfollowed := true, recurses := true, apart := false }
def FnExactNeedNowSaid : Prop := fnExactNeedNowRow.holds Tryz.pinned (OpenSpec.ofChange fnExactNeedNowSpec)

/-- ITS FALSE NEIGHBOUR: 'it returns false'. Refute it at one input. -/
def fnExactNeedNowWrong : ChangeSpec := { name := "fnExactNeedNow", fn := fun _ => fun
  | [d1, d2] => { results := [.lit (.bool false)], args := [d1, d2] }
  | _ => none }
def FnExactNeedNowWrongFalsely : Prop := fnExactNeedNowRow.holds Tryz.pinned (OpenSpec.ofChange fnExactNeedNowWrong)

/-- 'laws.FnExactDeadNow': WHATEVER THE INPUT: true; the input reads as it did. -/
def fnExactDeadNowSpec : ChangeSpec := { name := "fnExactDeadNow", fn := fun _ => fun
  | [d1, d2] => { results := [.lit (.bool true)], args := [d1, d2] }
  | _ => none }
def fnExactDeadNowRow : OpenClaim := { program := "ytonfioejmldhcaagreat", sum := "1759118a3ad6030c90b439a9a09fd3c4ccac8db97cd365eb4093aeeb437924f1", func := "loop.example/g00599/laws.FnExactDeadNow", spec := "fnExactDeadNow", apart := false }
def FnExactDeadNowSaid : Prop := fnExactDeadNowRow.holds Tryz.pinned (OpenSpec.ofChange fnExactDeadNowSpec)

/-- ITS FALSE NEIGHBOUR: 'it returns false'. Refute it at one input. -/
def fnExactDeadNowWrong : ChangeSpec := { name := "fnExactDeadNow", fn := fun _ => fun
  | [d1, d2] => { results := [.lit (.bool false)], args := [d1, d2] }
  | _ => none }
def FnExactDeadNowWrongFalsely : Prop := fnExactDeadNowRow.holds Tryz.pinned (OpenSpec.ofChange fnExactDeadNowWrong)

/-- 'laws.FnExactIsLoopFree': WHATEVER THE INPUT: true; the input reads as it did. -/
def fnExactIsLoopFreeSpec : ChangeSpec := { name := "fnExactIsLoopFree", fn := fun _ => fun
  | [d] => { results := [.lit (.bool true)], args := [d] }
  | _ => none }
def fnExactIsLoopFreeRow : OpenClaim := { program := "ytonfioejmldhcaagreat", sum := "1759118a3ad6030c90b439a9a09fd3c4ccac8db97cd365eb4093aeeb437924f1", func := "loop.example/g00599/laws.FnExactIsLoopFree", spec := "fnExactIsLoopFree", unfollowed := true, recurses := true, apart := false }
def FnExactIsLoopFreeSaid : Prop := fnExactIsLoopFreeRow.holds Tryz.pinned (OpenSpec.ofChange fnExactIsLoopFreeSpec)

/-- ITS FALSE NEIGHBOUR: 'it returns false'. Refute it at one input. -/
def fnExactIsLoopFreeWrong : ChangeSpec := { name := "fnExactIsLoopFree", fn := fun _ => fun
  | [d] => { results := [.lit (.bool false)], args := [d] }
  | _ => none }
def FnExactIsLoopFreeWrongFalsely : Prop := fnExactIsLoopFreeRow.holds Tryz.pinned (OpenSpec.ofChange fnExactIsLoopFreeWrong)

/-- 'laws.FnExactCanSend': WHATEVER THE INPUT: true; the input reads as it did. -/
def fnExactCanSendSpec : ChangeSpec := { name := "fnExactCanSend", fn := fun _ => fun
  | [d1, d2] => { results := [.lit (.bool true)], args := [d1, d2] }
  | _ => none }
def fnExactCanSendRow : OpenClaim := { program := "ytonfioejmldhcaagreat", sum := "1759118a3ad6030c90b439a9a09fd3c4ccac8db97cd365eb4093aeeb437924f1", func := "loop.example/g00599/laws.FnExactCanSend", spec := "fnExactCanSend", unfollowed := true, recurses := true, apart := false }
def FnExactCanSendSaid : Prop := fnExactCanSendRow.holds Tryz.pinned (OpenSpec.ofChange fnExactCanSendSpec)

/-- ITS FALSE NEIGHBOUR: 'it returns false'. Refute it at one input. -/
def fnExactCanSendWrong : ChangeSpec := { name := "fnExactCanSend", fn := fun _ => fun
  | [d1, d2] => { results := [.lit (.bool false)], args := [d1, d2] }
  | _ => none }
def FnExactCanSendWrongFalsely : Prop := fnExactCanSendRow.holds Tryz.pinned (OpenSpec.ofChange fnExactCanSendWrong)

/-- 'laws.FnExactLitOf': WHATEVER THE INPUT: true; the input reads as it did. -/
def fnExactLitOfSpec : ChangeSpec := { name := "fnExactLitOf", fn := fun _ => fun
  | [d1, d2] => { results := [.lit (.bool true)], args := [d1, d2] }
  | _ => none }
def fnExactLitOfRow : OpenClaim := { program := "ytonfioejmldhcaagreat", sum := "1759118a3ad6030c90b439a9a09fd3c4ccac8db97cd365eb4093aeeb437924f1", func := "loop.example/g00599/laws.FnExactLitOf", spec := "fnExactLitOf", unfollowed := true, recurses := true, apart := false }
def FnExactLitOfSaid : Prop := fnExactLitOfRow.holds Tryz.pinned (OpenSpec.ofChange fnExactLitOfSpec)

/-- ITS FALSE NEIGHBOUR: 'it returns false'. Refute it at one input. -/
def fnExactLitOfWrong : ChangeSpec := { name := "fnExactLitOf", fn := fun _ => fun
  | [d1, d2] => { results := [.lit (.bool false)], args := [d1, d2] }
  | _ => none }
def FnExactLitOfWrongFalsely : Prop := fnExactLitOfRow.holds Tryz.pinned (OpenSpec.ofChange fnExactLitOfWrong)

/-- 'laws.FnExactStepFault': WHATEVER THE INPUT: true; the input reads as it did. -/
def fnExactStepFaultSpec : ChangeSpec := { name := "fnExactStepFault", fn := fun _ => fun
  | [d1, d2] => { results := [.lit (.bool true)], args := [d1, d2] }
  | _ => none }
def fnExactStepFaultRow : OpenClaim := { program := "ytonfioejmldhcaagreat", sum := "1759118a3ad6030c90b439a9a09fd3c4ccac8db97cd365eb4093aeeb437924f1", func := "loop.example/g00599/laws.FnExactStepFault", spec := "fnExactStepFault", apart := false }
def FnExactStepFaultSaid : Prop := fnExactStepFaultRow.holds Tryz.pinned (OpenSpec.ofChange fnExactStepFaultSpec)

/-- ITS FALSE NEIGHBOUR: 'it returns false'. Refute it at one input. -/
def fnExactStepFaultWrong : ChangeSpec := { name := "fnExactStepFault", fn := fun _ => fun
  | [d1, d2] => { results := [.lit (.bool false)], args := [d1, d2] }
  | _ => none }
def FnExactStepFaultWrongFalsely : Prop := fnExactStepFaultRow.holds Tryz.pinned (OpenSpec.ofChange fnExactStepFaultWrong)

/-- 'laws.FnExactStepOffer': WHATEVER THE INPUT: true; the input reads as it did. -/
def fnExactStepOfferSpec : ChangeSpec := { name := "fnExactStepOffer", fn := fun _ => fun
  | [d1, d2] => { results := [.lit (.bool true)], args := [d1, d2] }
  | _ => none }
def fnExactStepOfferRow : OpenClaim := { program := "ytonfioejmldhcaagreat", sum := "1759118a3ad6030c90b439a9a09fd3c4ccac8db97cd365eb4093aeeb437924f1", func := "loop.example/g00599/laws.FnExactStepOffer", spec := "fnExactStepOffer", unfollowed := true, recurses := true, apart := false }
def FnExactStepOfferSaid : Prop := fnExactStepOfferRow.holds Tryz.pinned (OpenSpec.ofChange fnExactStepOfferSpec)

/-- ITS FALSE NEIGHBOUR: 'it returns false'. Refute it at one input. -/
def fnExactStepOfferWrong : ChangeSpec := { name := "fnExactStepOffer", fn := fun _ => fun
  | [d1, d2] => { results := [.lit (.bool false)], args := [d1, d2] }
  | _ => none }
def FnExactStepOfferWrongFalsely : Prop := fnExactStepOfferRow.holds Tryz.pinned (OpenSpec.ofChange fnExactStepOfferWrong)

/-- 'laws.FnExactStepFlow': WHATEVER THE INPUT: true; the input reads as it did. -/
def fnExactStepFlowSpec : ChangeSpec := { name := "fnExactStepFlow", fn := fun _ => fun
  | [d1, d2] => { results := [.lit (.bool true)], args := [d1, d2] }
  | _ => none }
def fnExactStepFlowRow : OpenClaim := { program := "ytonfioejmldhcaagreat", sum := "1759118a3ad6030c90b439a9a09fd3c4ccac8db97cd365eb4093aeeb437924f1", func := "loop.example/g00599/laws.FnExactStepFlow", spec := "fnExactStepFlow", unfollowed := true, recurses := true, apart := false }
def FnExactStepFlowSaid : Prop := fnExactStepFlowRow.holds Tryz.pinned (OpenSpec.ofChange fnExactStepFlowSpec)

/-- ITS FALSE NEIGHBOUR: 'it returns false'. Refute it at one input. -/
def fnExactStepFlowWrong : ChangeSpec := { name := "fnExactStepFlow", fn := fun _ => fun
  | [d1, d2] => { results := [.lit (.bool false)], args := [d1, d2] }
  | _ => none }
def FnExactStepFlowWrongFalsely : Prop := fnExactStepFlowRow.holds Tryz.pinned (OpenSpec.ofChange fnExactStepFlowWrong)

/-- 'laws.FnExactHopFor': WHATEVER THE INPUT: true; the input reads as it did. -/
def fnExactHopForSpec : ChangeSpec := { name := "fnExactHopFor", fn := fun _ => fun
  | [d1, d2, d3] => { results := [.lit (.bool true)], args := [d1, d2, d3] }
  | _ => none }
def fnExactHopForRow : OpenClaim := { program := "ytonfioejmldhcaagreat", sum := "1759118a3ad6030c90b439a9a09fd3c4ccac8db97cd365eb4093aeeb437924f1", func := "loop.example/g00599/laws.FnExactHopFor", spec := "fnExactHopFor", unfollowed := true, recurses := true, apart := false }
def FnExactHopForSaid : Prop := fnExactHopForRow.holds Tryz.pinned (OpenSpec.ofChange fnExactHopForSpec)

/-- ITS FALSE NEIGHBOUR: 'it returns false'. Refute it at one input. -/
def fnExactHopForWrong : ChangeSpec := { name := "fnExactHopFor", fn := fun _ => fun
  | [d1, d2, d3] => { results := [.lit (.bool false)], args := [d1, d2, d3] }
  | _ => none }
def FnExactHopForWrongFalsely : Prop := fnExactHopForRow.holds Tryz.pinned (OpenSpec.ofChange fnExactHopForWrong)

/-- 'laws.FnExactDeliver': WHATEVER THE INPUT: true; the input reads as it did. -/
def fnExactDeliverSpec : ChangeSpec := { name := "fnExactDeliver", fn := fun _ => fun
  | [d1, d2] => { results := [.lit (.bool true)], args := [d1, d2] }
  | _ => none }
def fnExactDeliverRow : OpenClaim := { program := "ytonfioejmldhcaagreat", sum := "1759118a3ad6030c90b439a9a09fd3c4ccac8db97cd365eb4093aeeb437924f1", func := "loop.example/g00599/laws.FnExactDeliver", spec := "fnExactDeliver", inPlace := ["slices.overlaps[int]"], unfollowed := true, recurses := true, apart := false }
def FnExactDeliverSaid : Prop := fnExactDeliverRow.holds Tryz.pinned (OpenSpec.ofChange fnExactDeliverSpec)

/-- ITS FALSE NEIGHBOUR: 'it returns false'. Refute it at one input. -/
def fnExactDeliverWrong : ChangeSpec := { name := "fnExactDeliver", fn := fun _ => fun
  | [d1, d2] => { results := [.lit (.bool false)], args := [d1, d2] }
  | _ => none }
def FnExactDeliverWrongFalsely : Prop := fnExactDeliverRow.holds Tryz.pinned (OpenSpec.ofChange fnExactDeliverWrong)

/- THE SECOND FORM. 'bulk': how many values and letters a reading holds, each counted each time it is reached (what is shared counts as often as it is met; a slice's spare places count too). A statement '..UptoSaid' is the law's where the arguments, and the package variables that the reading takes, are together of bulk at most 1048576: NARROWER than '..Said'. Prove '..Said' where nothing that the law and all that it calls make is longer than what came in: it says more and counts as full. Else prove '..UptoSaid'. A law counts once. -/
mutual
def uptoBulk {H : Type} : DataW H → Nat
  | .lit (.string bytes) => bytes.length + 1
  | .lit _ => 1
  | .nil => 1
  | .ptr d => uptoBulk d + 1
  | .slice elems spare => uptoBulkAll elems + uptoBulkAll spare + 1
  | .agg parts => uptoBulkAll parts + 1
  | .iface _ d => uptoBulk d + 1
  | .map entries => uptoBulkEntries entries + 1
  | .held _ => 1
def uptoBulkAll {H : Type} : List (DataW H) → Nat
  | [] => 0
  | d :: r => uptoBulk d + uptoBulkAll r
def uptoBulkEntries {H : Type} : List (Lit × DataW H) → Nat
  | [] => 0
  | x :: r => uptoBulkEntry x + uptoBulkEntries r
def uptoBulkEntry {H : Type} : Lit × DataW H → Nat
  | (.string bytes, d) => bytes.length + uptoBulk d + 1
  | (_, d) => uptoBulk d + 1
 end
def uptoSmall : (H : Type) → List (DataW H) → Bool := fun _ ds => decide (uptoBulkAll ds ≤ 1048576)
def OpenSpec.upto (s : _root_.Go.ChangeSpec) : _root_.Go.OpenSpec := { _root_.Go.OpenSpec.ofChange s with cond := some uptoSmall }

/-- 'laws.FnExactTrailOf', WHERE WHAT IT READS IS OF BULK AT MOST 1048576: true; the input reads as it did. -/
def fnExactTrailOfUptoRow : OpenClaim := { program := "ytonfioejmldhcaagreat", sum := "1759118a3ad6030c90b439a9a09fd3c4ccac8db97cd365eb4093aeeb437924f1", func := "loop.example/g00599/laws.FnExactTrailOf", spec := "fnExactTrailOf", apart := false, narrowed := true }
def FnExactTrailOfUptoSaid : Prop := fnExactTrailOfUptoRow.holds Tryz.pinned (OpenSpec.upto fnExactTrailOfSpec)

/-- 'laws.FnExactNeedNow', WHERE WHAT IT READS IS OF BULK AT MOST 1048576: true; the input reads as it did. -/
def fnExactNeedNowUptoRow : OpenClaim := { program := "ytonfioejmldhcaagreat", sum := "1759118a3ad6030c90b439a9a09fd3c4ccac8db97cd365eb4093aeeb437924f1", func := "loop.example/g00599/laws.FnExactNeedNow", spec := "fnExactNeedNow", unfollowed := true, recurses := true, apart := false, narrowed := true }
def FnExactNeedNowUptoSaid : Prop := fnExactNeedNowUptoRow.holds Tryz.pinned (OpenSpec.upto fnExactNeedNowSpec)

/-- 'laws.FnExactDeadNow', WHERE WHAT IT READS IS OF BULK AT MOST 1048576: true; the input reads as it did. -/
def fnExactDeadNowUptoRow : OpenClaim := { program := "ytonfioejmldhcaagreat", sum := "1759118a3ad6030c90b439a9a09fd3c4ccac8db97cd365eb4093aeeb437924f1", func := "loop.example/g00599/laws.FnExactDeadNow", spec := "fnExactDeadNow", apart := false, narrowed := true }
def FnExactDeadNowUptoSaid : Prop := fnExactDeadNowUptoRow.holds Tryz.pinned (OpenSpec.upto fnExactDeadNowSpec)

/-- 'laws.FnExactIsLoopFree', WHERE WHAT IT READS IS OF BULK AT MOST 1048576: true; the input reads as it did. -/
def fnExactIsLoopFreeUptoRow : OpenClaim := { program := "ytonfioejmldhcaagreat", sum := "1759118a3ad6030c90b439a9a09fd3c4ccac8db97cd365eb4093aeeb437924f1", func := "loop.example/g00599/laws.FnExactIsLoopFree", spec := "fnExactIsLoopFree", unfollowed := true, recurses := true, apart := false, narrowed := true }
def FnExactIsLoopFreeUptoSaid : Prop := fnExactIsLoopFreeUptoRow.holds Tryz.pinned (OpenSpec.upto fnExactIsLoopFreeSpec)

/-- 'laws.FnExactCanSend', WHERE WHAT IT READS IS OF BULK AT MOST 1048576: true; the input reads as it did. -/
def fnExactCanSendUptoRow : OpenClaim := { program := "ytonfioejmldhcaagreat", sum := "1759118a3ad6030c90b439a9a09fd3c4ccac8db97cd365eb4093aeeb437924f1", func := "loop.example/g00599/laws.FnExactCanSend", spec := "fnExactCanSend", unfollowed := true, recurses := true, apart := false, narrowed := true }
def FnExactCanSendUptoSaid : Prop := fnExactCanSendUptoRow.holds Tryz.pinned (OpenSpec.upto fnExactCanSendSpec)

/-- 'laws.FnExactLitOf', WHERE WHAT IT READS IS OF BULK AT MOST 1048576: true; the input reads as it did. -/
def fnExactLitOfUptoRow : OpenClaim := { program := "ytonfioejmldhcaagreat", sum := "1759118a3ad6030c90b439a9a09fd3c4ccac8db97cd365eb4093aeeb437924f1", func := "loop.example/g00599/laws.FnExactLitOf", spec := "fnExactLitOf", unfollowed := true, recurses := true, apart := false, narrowed := true }
def FnExactLitOfUptoSaid : Prop := fnExactLitOfUptoRow.holds Tryz.pinned (OpenSpec.upto fnExactLitOfSpec)

/-- 'laws.FnExactStepFault', WHERE WHAT IT READS IS OF BULK AT MOST 1048576: true; the input reads as it did. -/
def fnExactStepFaultUptoRow : OpenClaim := { program := "ytonfioejmldhcaagreat", sum := "1759118a3ad6030c90b439a9a09fd3c4ccac8db97cd365eb4093aeeb437924f1", func := "loop.example/g00599/laws.FnExactStepFault", spec := "fnExactStepFault", apart := false, narrowed := true }
def FnExactStepFaultUptoSaid : Prop := fnExactStepFaultUptoRow.holds Tryz.pinned (OpenSpec.upto fnExactStepFaultSpec)

/-- 'laws.FnExactStepOffer', WHERE WHAT IT READS IS OF BULK AT MOST 1048576: true; the input reads as it did. -/
def fnExactStepOfferUptoRow : OpenClaim := { program := "ytonfioejmldhcaagreat", sum := "1759118a3ad6030c90b439a9a09fd3c4ccac8db97cd365eb4093aeeb437924f1", func := "loop.example/g00599/laws.FnExactStepOffer", spec := "fnExactStepOffer", unfollowed := true, recurses := true, apart := false, narrowed := true }
def FnExactStepOfferUptoSaid : Prop := fnExactStepOfferUptoRow.holds Tryz.pinned (OpenSpec.upto fnExactStepOfferSpec)

/-- 'laws.FnExactStepFlow', WHERE WHAT IT READS IS OF BULK AT MOST 1048576: true; the input reads as it did. -/
def fnExactStepFlowUptoRow : OpenClaim := { program := "ytonfioejmldhcaagreat", sum := "1759118a3ad6030c90b439a9a09fd3c4ccac8db97cd365eb4093aeeb437924f1", func := "loop.example/g00599/laws.FnExactStepFlow", spec := "fnExactStepFlow", unfollowed := true, recurses := true, apart := false, narrowed := true }
def FnExactStepFlowUptoSaid : Prop := fnExactStepFlowUptoRow.holds Tryz.pinned (OpenSpec.upto fnExactStepFlowSpec)

/-- 'laws.FnExactHopFor', WHERE WHAT IT READS IS OF BULK AT MOST 1048576: true; the input reads as it did. -/
def fnExactHopForUptoRow : OpenClaim := { program := "ytonfioejmldhcaagreat", sum := "1759118a3ad6030c90b439a9a09fd3c4ccac8db97cd365eb4093aeeb437924f1", func := "loop.example/g00599/laws.FnExactHopFor", spec := "fnExactHopFor", unfollowed := true, recurses := true, apart := false, narrowed := true }
def FnExactHopForUptoSaid : Prop := fnExactHopForUptoRow.holds Tryz.pinned (OpenSpec.upto fnExactHopForSpec)

/-- 'laws.FnExactDeliver', WHERE WHAT IT READS IS OF BULK AT MOST 1048576: true; the input reads as it did. -/
def fnExactDeliverUptoRow : OpenClaim := { program := "ytonfioejmldhcaagreat", sum := "1759118a3ad6030c90b439a9a09fd3c4ccac8db97cd365eb4093aeeb437924f1", func := "loop.example/g00599/laws.FnExactDeliver", spec := "fnExactDeliver", inPlace := ["slices.overlaps[int]"], unfollowed := true, recurses := true, apart := false, narrowed := true }
def FnExactDeliverUptoSaid : Prop := fnExactDeliverUptoRow.holds Tryz.pinned (OpenSpec.upto fnExactDeliverSpec)

end Rows
end Go.Proofs.YtonfioejmldhcaaGreat
