/-
  No cell of these rows narrows 'for every input' (looked for: loops, veiled, ifaces, maps, wideKeys, modest, calm, conditions, laid).
  DERIVED. THE GIVEN ROWS OF THIS SEAT. 8 by the template 'for every input the law returns true; each argument reads behind the call as it read before'; 0 by the template 'total and deterministic' (their statements: YtmkkoalilmgpcaaTotals.lean).
  GIVEN WITH THE SEED: the statements are not yours to turn. If you find one false, say at which input.
  Laid BY PROGRAM, IN A SANDBOX (cutbox-rows.mjs): the forced cells as the released guide's own fill.sh prints them over the translation 31d59bafb8d6d0c6… (all of the seat's roots in one cut). By AI agents, Wed Nov 11 2026. No macro, syntax, notation, axiom, sorry.
-/
import Derived.Test.YtmkkoalilmgpcaaChecked
import GoSem.Claim
import GoSem.ClaimJoined
import GoSem.ClaimMapViews
import Derived.JoinedTies
import Derived.KernelRfl
namespace Go.Proofs.Ytmkkoalilmgpcaa
/- THE CELL 'sum', in the pinned program and in every row, IS THE sha256 OF THE DUMP (.gsa) THAT YtmkkoalilmgpcaaProg.lean LOADS. Nothing in Lean hashes anything: it is a label: what it is worth is what the hold of that sum in a sandbox is worth. -/
noncomputable def Try.pinned : Pinned := { name := "ytmkkoalilmgpcaa", sum := "31d59bafb8d6d0c65f2370ef0b8540bedb8952f514324fc8d1a248e89bb31a4b", checked := Try.checked }
namespace Rows
def none {H : Type} : Left H := { results := [], args := [] }

/-- 'laws.FnExactWaitingIn': WHATEVER THE INPUT: true; the input reads as it did. -/
def fnExactWaitingInSpec : ChangeSpec := { name := "fnExactWaitingIn", fn := fun _ => fun
  | [d] => { results := [.lit (.bool true)], args := [d] }
  | _ => none }
def fnExactWaitingInRow : OpenClaim := { program := "ytmkkoalilmgpcaa", sum := "31d59bafb8d6d0c65f2370ef0b8540bedb8952f514324fc8d1a248e89bb31a4b", func := "loop.example/g00599/laws.FnExactWaitingIn", spec := "fnExactWaitingIn", apart := false }
def FnExactWaitingInSaid : Prop := fnExactWaitingInRow.holds Try.pinned (OpenSpec.ofChange fnExactWaitingInSpec)

/-- ITS FALSE NEIGHBOUR: 'it returns false'. Refute it at one input. -/
def fnExactWaitingInWrong : ChangeSpec := { name := "fnExactWaitingIn", fn := fun _ => fun
  | [d] => { results := [.lit (.bool false)], args := [d] }
  | _ => none }
def FnExactWaitingInWrongFalsely : Prop := fnExactWaitingInRow.holds Try.pinned (OpenSpec.ofChange fnExactWaitingInWrong)

/-- 'laws.FnExactIsPowered': WHATEVER THE INPUT: true; the input reads as it did. -/
def fnExactIsPoweredSpec : ChangeSpec := { name := "fnExactIsPowered", fn := fun _ => fun
  | [d] => { results := [.lit (.bool true)], args := [d] }
  | _ => none }
def fnExactIsPoweredRow : OpenClaim := { program := "ytmkkoalilmgpcaa", sum := "31d59bafb8d6d0c65f2370ef0b8540bedb8952f514324fc8d1a248e89bb31a4b", func := "loop.example/g00599/laws.FnExactIsPowered", spec := "fnExactIsPowered", apart := false }
def FnExactIsPoweredSaid : Prop := fnExactIsPoweredRow.holds Try.pinned (OpenSpec.ofChange fnExactIsPoweredSpec)

/-- ITS FALSE NEIGHBOUR: 'it returns false'. Refute it at one input. -/
def fnExactIsPoweredWrong : ChangeSpec := { name := "fnExactIsPowered", fn := fun _ => fun
  | [d] => { results := [.lit (.bool false)], args := [d] }
  | _ => none }
def FnExactIsPoweredWrongFalsely : Prop := fnExactIsPoweredRow.holds Try.pinned (OpenSpec.ofChange fnExactIsPoweredWrong)

/-- 'laws.FnExactArrivedOf': WHATEVER THE INPUT: true; the input reads as it did. -/
def fnExactArrivedOfSpec : ChangeSpec := { name := "fnExactArrivedOf", fn := fun _ => fun
  | [d1, d2] => { results := [.lit (.bool true)], args := [d1, d2] }
  | _ => none }
def fnExactArrivedOfRow : OpenClaim := { program := "ytmkkoalilmgpcaa", sum := "31d59bafb8d6d0c65f2370ef0b8540bedb8952f514324fc8d1a248e89bb31a4b", func := "loop.example/g00599/laws.FnExactArrivedOf", spec := "fnExactArrivedOf", apart := false }
def FnExactArrivedOfSaid : Prop := fnExactArrivedOfRow.holds Try.pinned (OpenSpec.ofChange fnExactArrivedOfSpec)

/-- ITS FALSE NEIGHBOUR: 'it returns false'. Refute it at one input. -/
def fnExactArrivedOfWrong : ChangeSpec := { name := "fnExactArrivedOf", fn := fun _ => fun
  | [d1, d2] => { results := [.lit (.bool false)], args := [d1, d2] }
  | _ => none }
def FnExactArrivedOfWrongFalsely : Prop := fnExactArrivedOfRow.holds Try.pinned (OpenSpec.ofChange fnExactArrivedOfWrong)

/-- 'laws.FnExactHopsOf': WHATEVER THE INPUT: true; the input reads as it did. -/
def fnExactHopsOfSpec : ChangeSpec := { name := "fnExactHopsOf", fn := fun _ => fun
  | [d1, d2] => { results := [.lit (.bool true)], args := [d1, d2] }
  | _ => none }
def fnExactHopsOfRow : OpenClaim := { program := "ytmkkoalilmgpcaa", sum := "31d59bafb8d6d0c65f2370ef0b8540bedb8952f514324fc8d1a248e89bb31a4b", func := "loop.example/g00599/laws.FnExactHopsOf", spec := "fnExactHopsOf", apart := false }
def FnExactHopsOfSaid : Prop := fnExactHopsOfRow.holds Try.pinned (OpenSpec.ofChange fnExactHopsOfSpec)

/-- ITS FALSE NEIGHBOUR: 'it returns false'. Refute it at one input. -/
def fnExactHopsOfWrong : ChangeSpec := { name := "fnExactHopsOf", fn := fun _ => fun
  | [d1, d2] => { results := [.lit (.bool false)], args := [d1, d2] }
  | _ => none }
def FnExactHopsOfWrongFalsely : Prop := fnExactHopsOfRow.holds Try.pinned (OpenSpec.ofChange fnExactHopsOfWrong)

/-- 'laws.FnExactSentBy': WHATEVER THE INPUT: true; the input reads as it did. -/
def fnExactSentBySpec : ChangeSpec := { name := "fnExactSentBy", fn := fun _ => fun
  | [d1, d2] => { results := [.lit (.bool true)], args := [d1, d2] }
  | _ => none }
def fnExactSentByRow : OpenClaim := { program := "ytmkkoalilmgpcaa", sum := "31d59bafb8d6d0c65f2370ef0b8540bedb8952f514324fc8d1a248e89bb31a4b", func := "loop.example/g00599/laws.FnExactSentBy", spec := "fnExactSentBy", apart := false }
def FnExactSentBySaid : Prop := fnExactSentByRow.holds Try.pinned (OpenSpec.ofChange fnExactSentBySpec)

/-- ITS FALSE NEIGHBOUR: 'it returns false'. Refute it at one input. -/
def fnExactSentByWrong : ChangeSpec := { name := "fnExactSentBy", fn := fun _ => fun
  | [d1, d2] => { results := [.lit (.bool false)], args := [d1, d2] }
  | _ => none }
def FnExactSentByWrongFalsely : Prop := fnExactSentByRow.holds Try.pinned (OpenSpec.ofChange fnExactSentByWrong)

/-- 'laws.FnExactMeanHops': WHATEVER THE INPUT: true; the input reads as it did. -/
def fnExactMeanHopsSpec : ChangeSpec := { name := "fnExactMeanHops", fn := fun _ => fun
  | [d] => { results := [.lit (.bool true)], args := [d] }
  | _ => none }
def fnExactMeanHopsRow : OpenClaim := { program := "ytmkkoalilmgpcaa", sum := "31d59bafb8d6d0c65f2370ef0b8540bedb8952f514324fc8d1a248e89bb31a4b", func := "loop.example/g00599/laws.FnExactMeanHops", spec := "fnExactMeanHops", apart := false }
def FnExactMeanHopsSaid : Prop := fnExactMeanHopsRow.holds Try.pinned (OpenSpec.ofChange fnExactMeanHopsSpec)

/-- ITS FALSE NEIGHBOUR: 'it returns false'. Refute it at one input. -/
def fnExactMeanHopsWrong : ChangeSpec := { name := "fnExactMeanHops", fn := fun _ => fun
  | [d] => { results := [.lit (.bool false)], args := [d] }
  | _ => none }
def FnExactMeanHopsWrongFalsely : Prop := fnExactMeanHopsRow.holds Try.pinned (OpenSpec.ofChange fnExactMeanHopsWrong)

/-- 'laws.FnExactGivenOut': WHATEVER THE INPUT: true; the input reads as it did. -/
def fnExactGivenOutSpec : ChangeSpec := { name := "fnExactGivenOut", fn := fun _ => fun
  | [d1, d2] => { results := [.lit (.bool true)], args := [d1, d2] }
  | _ => none }
def fnExactGivenOutRow : OpenClaim := { program := "ytmkkoalilmgpcaa", sum := "31d59bafb8d6d0c65f2370ef0b8540bedb8952f514324fc8d1a248e89bb31a4b", func := "loop.example/g00599/laws.FnExactGivenOut", spec := "fnExactGivenOut", unfollowed := true, recurses := true, apart := false }
def FnExactGivenOutSaid : Prop := fnExactGivenOutRow.holds Try.pinned (OpenSpec.ofChange fnExactGivenOutSpec)

/-- ITS FALSE NEIGHBOUR: 'it returns false'. Refute it at one input. -/
def fnExactGivenOutWrong : ChangeSpec := { name := "fnExactGivenOut", fn := fun _ => fun
  | [d1, d2] => { results := [.lit (.bool false)], args := [d1, d2] }
  | _ => none }
def FnExactGivenOutWrongFalsely : Prop := fnExactGivenOutRow.holds Try.pinned (OpenSpec.ofChange fnExactGivenOutWrong)

/-- 'laws.FnExactIsConserved': WHATEVER THE INPUT: true; the input reads as it did. -/
def fnExactIsConservedSpec : ChangeSpec := { name := "fnExactIsConserved", fn := fun _ => fun
  | [d] => { results := [.lit (.bool true)], args := [d] }
  | _ => none }
def fnExactIsConservedRow : OpenClaim := { program := "ytmkkoalilmgpcaa", sum := "31d59bafb8d6d0c65f2370ef0b8540bedb8952f514324fc8d1a248e89bb31a4b", func := "loop.example/g00599/laws.FnExactIsConserved", spec := "fnExactIsConserved", apart := false }
def FnExactIsConservedSaid : Prop := fnExactIsConservedRow.holds Try.pinned (OpenSpec.ofChange fnExactIsConservedSpec)

/-- ITS FALSE NEIGHBOUR: 'it returns false'. Refute it at one input. -/
def fnExactIsConservedWrong : ChangeSpec := { name := "fnExactIsConserved", fn := fun _ => fun
  | [d] => { results := [.lit (.bool false)], args := [d] }
  | _ => none }
def FnExactIsConservedWrongFalsely : Prop := fnExactIsConservedRow.holds Try.pinned (OpenSpec.ofChange fnExactIsConservedWrong)

/- THE SECOND FORM. 'bulk': how many values and letters a reading holds, each counted each time it is reached (what is shared counts as often as it is met; a slice's spare places count too). A statement '..UptoSaid' is the law's where the arguments, and the package variables that the reading takes, are together of bulk at most 1048576: NARROWER than '..Said'. Prove '..Said' where nothing that the law and all that it calls make is longer than what came in: it says more and counts as full. Else prove '..UptoSaid'. A law counts once. -/
mutual
def uptoBulk {H : Type} : DataW H → Nat
  | .lit (.string bytes) => bytes.length + 1
  | .lit _ => 1
  | .nil => 1
  | .ptr d => uptoBulk d + 1
  | .slice elems spare => uptoBulkAll elems + uptoBulkAll spare + 1
  | .agg parts => uptoBulkAll parts + 1
  | .iface _ d => uptoBulk d + 1
  | .map entries => uptoBulkEntries entries + 1
  | .held _ => 1
def uptoBulkAll {H : Type} : List (DataW H) → Nat
  | [] => 0
  | d :: r => uptoBulk d + uptoBulkAll r
def uptoBulkEntries {H : Type} : List (Lit × DataW H) → Nat
  | [] => 0
  | x :: r => uptoBulkEntry x + uptoBulkEntries r
def uptoBulkEntry {H : Type} : Lit × DataW H → Nat
  | (.string bytes, d) => bytes.length + uptoBulk d + 1
  | (_, d) => uptoBulk d + 1
 end
def uptoSmall : (H : Type) → List (DataW H) → Bool := fun _ ds => decide (uptoBulkAll ds ≤ 1048576)
def OpenSpec.upto (s : _root_.Go.ChangeSpec) : _root_.Go.OpenSpec := { _root_.Go.OpenSpec.ofChange s with cond := some uptoSmall }

/-- 'laws.FnExactWaitingIn', WHERE WHAT IT READS IS OF BULK AT MOST 1048576: true; the input reads as it did. -/
def fnExactWaitingInUptoRow : OpenClaim := { program := "ytmkkoalilmgpcaa", sum := "31d59bafb8d6d0c65f2370ef0b8540bedb8952f514324fc8d1a248e89bb31a4b", func := "loop.example/g00599/laws.FnExactWaitingIn", spec := "fnExactWaitingIn", apart := false, narrowed := true }
def FnExactWaitingInUptoSaid : Prop := fnExactWaitingInUptoRow.holds Try.pinned (OpenSpec.upto fnExactWaitingInSpec)

/-- 'laws.FnExactIsPowered', WHERE WHAT IT READS IS OF BULK AT MOST 1048576: true; the input reads as it did. -/
def fnExactIsPoweredUptoRow : OpenClaim := { program := "ytmkkoalilmgpcaa", sum := "31d59bafb8d6d0c65f2370ef0b8540bedb8952f514324fc8d1a248e89bb31a4b", func := "loop.example/g00599/laws.FnExactIsPowered", spec := "fnExactIsPowered", apart := false, narrowed := true }
def FnExactIsPoweredUptoSaid : Prop := fnExactIsPoweredUptoRow.holds Try.pinned (OpenSpec.upto fnExactIsPoweredSpec)

/-- 'laws.FnExactArrivedOf', WHERE WHAT IT READS IS OF BULK AT MOST 1048576: true; the input reads as it did. -/
def fnExactArrivedOfUptoRow : OpenClaim := { program := "ytmkkoalilmgpcaa", sum := "31d59bafb8d6d0c65f2370ef0b8540bedb8952f514324fc8d1a248e89bb31a4b", func := "loop.example/g00599/laws.FnExactArrivedOf", spec := "fnExactArrivedOf", apart := false, narrowed := true }
def FnExactArrivedOfUptoSaid : Prop := fnExactArrivedOfUptoRow.holds Try.pinned (OpenSpec.upto fnExactArrivedOfSpec)

/-- 'laws.FnExactHopsOf', WHERE WHAT IT READS IS OF BULK AT MOST 1048576: true; the input reads as it did. -/
def fnExactHopsOfUptoRow : OpenClaim := { program := "ytmkkoalilmgpcaa", sum := "31d59bafb8d6d0c65f2370ef0b8540bedb8952f514324fc8d1a248e89bb31a4b", func := "loop.example/g00599/laws.FnExactHopsOf", spec := "fnExactHopsOf", apart := false, narrowed := true }
def FnExactHopsOfUptoSaid : Prop := fnExactHopsOfUptoRow.holds Try.pinned (OpenSpec.upto fnExactHopsOfSpec)

/-- 'laws.FnExactSentBy', WHERE WHAT IT READS IS OF BULK AT MOST 1048576: true; the input reads as it did. -/
def fnExactSentByUptoRow : OpenClaim := { program := "ytmkkoalilmgpcaa", sum := "31d59bafb8d6d0c65f2370ef0b8540bedb8952f514324fc8d1a248e89bb31a4b", func := "loop.example/g00599/laws.FnExactSentBy", spec := "fnExactSentBy", apart := false, narrowed := true }
def FnExactSentByUptoSaid : Prop := fnExactSentByUptoRow.holds Try.pinned (OpenSpec.upto fnExactSentBySpec)

/-- 'laws.FnExactMeanHops', WHERE WHAT IT READS IS OF BULK AT MOST 1048576: true; the input reads as it did. -/
def fnExactMeanHopsUptoRow : OpenClaim := { program := "ytmkkoalilmgpcaa", sum := "31d59bafb8d6d0c65f2370ef0b8540bedb8952f514324fc8d1a248e89bb31a4b", func := "loop.example/g00599/laws.FnExactMeanHops", spec := "fnExactMeanHops", apart := false, narrowed := true }
def FnExactMeanHopsUptoSaid : Prop := fnExactMeanHopsUptoRow.holds Try.pinned (OpenSpec.upto fnExactMeanHopsSpec)

/-- 'laws.FnExactGivenOut', WHERE WHAT IT READS IS OF BULK AT MOST 1048576: true; the input reads as it did. -/
def fnExactGivenOutUptoRow : OpenClaim := { program := "ytmkkoalilmgpcaa", sum := "31d59bafb8d6d0c65f2370ef0b8540bedb8952f514324fc8d1a248e89bb31a4b", func := "loop.example/g00599/laws.FnExactGivenOut", spec := "fnExactGivenOut", unfollowed := true, recurses := true, apart := false, narrowed := true }
def FnExactGivenOutUptoSaid : Prop := fnExactGivenOutUptoRow.holds Try.pinned (OpenSpec.upto fnExactGivenOutSpec)

/-- 'laws.FnExactIsConserved', WHERE WHAT IT READS IS OF BULK AT MOST 1048576: true; the input reads as it did. -/
def fnExactIsConservedUptoRow : OpenClaim := { program := "ytmkkoalilmgpcaa", sum := "31d59bafb8d6d0c65f2370ef0b8540bedb8952f514324fc8d1a248e89bb31a4b", func := "loop.example/g00599/laws.FnExactIsConserved", spec := "fnExactIsConserved", apart := false, narrowed := true }
def FnExactIsConservedUptoSaid : Prop := fnExactIsConservedUptoRow.holds Try.pinned (OpenSpec.upto fnExactIsConservedSpec)

end Rows
end Go.Proofs.Ytmkkoalilmgpcaa
