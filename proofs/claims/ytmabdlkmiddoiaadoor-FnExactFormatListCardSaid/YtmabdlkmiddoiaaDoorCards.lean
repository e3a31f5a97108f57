/-
  DERIVED. GIVEN WITH THE SEED: THE CARDS: each row of YtmabdlkmiddoiaaDoorRows.lean that lists a variable, with what it lists TIED to the program's text (the seventh form; the later family's looks); each row that meets fmt, with fmt's text TOLD by the authors' own Lean function (tested against real Go, not proved from fmt's source: count such statements apart). THE CARD IS WHAT COUNTS. Prove the row's statement (the work); the ties are given (YtmabdlkmiddoiaaDoorTie.lean); close each card by the builder's one call (the guide's Derived/Test/ToyasCard.lean, 'card_holds'). Laid BY PROGRAM, IN A SANDBOX (cutbox-door.mjs). By AI agents, Wed Nov 11 2026. No macro, syntax, notation, axiom, sorry.
-/
import Derived.Test.YtmabdlkmiddoiaaDoorRows
import GoSem.ClaimSeven
namespace Go.Proofs.YtmabdlkmiddoiaaDoor
namespace Rows

/-- THE TIED CARD OF 'laws.FnExactFormatTable'. -/
def fnExactFormatTableCard : Claim7 := { stood := { row := fnExactFormatTableRow, standIns := [], harness := (true, "bcef1a3cbc353db7eb794a86a4c395807eb50dd8fc8eb4bb29092c8437750403"), looks := false }, kinds := [], alts := [], laidByText := true, laidKinds := [.data, .data, .data], laidTests := true, laidLooks := .later }
def FnExactFormatTableCardSaid : Prop := Claim7.holds Tryd.pinned (.plain (OpenSpec.ofChange fnExactFormatTableSpec)) fnExactFormatTableCard

/-- THE TIED CARD OF 'laws.FnExactFormatList'. -/
def fnExactFormatListCard : Claim7 := { stood := { row := fnExactFormatListRow, standIns := [], harness := (true, "bcef1a3cbc353db7eb794a86a4c395807eb50dd8fc8eb4bb29092c8437750403"), looks := false }, kinds := [], alts := [], laidByText := true, laidKinds := [.data, .data, .data], laidTests := true, laidLooks := .later }
def FnExactFormatListCardSaid : Prop := Claim7.holds Tryd.pinned (.plain (OpenSpec.ofChange fnExactFormatListSpec)) fnExactFormatListCard

/-- THE TIED CARD OF 'laws.FnExactFormatSpans'. -/
def fnExactFormatSpansCard : Claim7 := { stood := { row := fnExactFormatSpansRow, standIns := [], harness := (true, "bcef1a3cbc353db7eb794a86a4c395807eb50dd8fc8eb4bb29092c8437750403"), looks := false }, kinds := [], alts := [], laidByText := true, laidKinds := [.data, .data, .data], laidTests := true, laidLooks := .later }
def FnExactFormatSpansCardSaid : Prop := Claim7.holds Tryd.pinned (.plain (OpenSpec.ofChange fnExactFormatSpansSpec)) fnExactFormatSpansCard

/-- THE TIED CARD OF 'laws.FnExactFormatPiece'. -/
def fnExactFormatPieceCard : Claim7 := { stood := { row := fnExactFormatPieceRow, standIns := [], harness := (true, "bcef1a3cbc353db7eb794a86a4c395807eb50dd8fc8eb4bb29092c8437750403"), looks := false }, kinds := [], alts := [], laidByText := true, laidKinds := [.data, .data, .data], laidTests := true, laidLooks := .later }
def FnExactFormatPieceCardSaid : Prop := Claim7.holds Tryd.pinned (.plain (OpenSpec.ofChange fnExactFormatPieceSpec)) fnExactFormatPieceCard

/-- THE SECOND FORM's CARD OF 'laws.FnExactFormatTable'. -/
def fnExactFormatTableUptoCard : Claim7 := { stood := { row := fnExactFormatTableUptoRow, standIns := [], harness := (true, "bcef1a3cbc353db7eb794a86a4c395807eb50dd8fc8eb4bb29092c8437750403"), looks := false }, kinds := [], alts := [], laidByText := true, laidKinds := [.data, .data, .data], laidTests := true, laidLooks := .later }
def FnExactFormatTableUptoCardSaid : Prop := Claim7.holds Tryd.pinned (.plain (OpenSpec.upto fnExactFormatTableSpec)) fnExactFormatTableUptoCard

/-- THE SECOND FORM's CARD OF 'laws.FnExactFormatList'. -/
def fnExactFormatListUptoCard : Claim7 := { stood := { row := fnExactFormatListUptoRow, standIns := [], harness := (true, "bcef1a3cbc353db7eb794a86a4c395807eb50dd8fc8eb4bb29092c8437750403"), looks := false }, kinds := [], alts := [], laidByText := true, laidKinds := [.data, .data, .data], laidTests := true, laidLooks := .later }
def FnExactFormatListUptoCardSaid : Prop := Claim7.holds Tryd.pinned (.plain (OpenSpec.upto fnExactFormatListSpec)) fnExactFormatListUptoCard

/-- THE SECOND FORM's CARD OF 'laws.FnExactFormatSpans'. -/
def fnExactFormatSpansUptoCard : Claim7 := { stood := { row := fnExactFormatSpansUptoRow, standIns := [], harness := (true, "bcef1a3cbc353db7eb794a86a4c395807eb50dd8fc8eb4bb29092c8437750403"), looks := false }, kinds := [], alts := [], laidByText := true, laidKinds := [.data, .data, .data], laidTests := true, laidLooks := .later }
def FnExactFormatSpansUptoCardSaid : Prop := Claim7.holds Tryd.pinned (.plain (OpenSpec.upto fnExactFormatSpansSpec)) fnExactFormatSpansUptoCard

/-- THE SECOND FORM's CARD OF 'laws.FnExactFormatPiece'. -/
def fnExactFormatPieceUptoCard : Claim7 := { stood := { row := fnExactFormatPieceUptoRow, standIns := [], harness := (true, "bcef1a3cbc353db7eb794a86a4c395807eb50dd8fc8eb4bb29092c8437750403"), looks := false }, kinds := [], alts := [], laidByText := true, laidKinds := [.data, .data, .data], laidTests := true, laidLooks := .later }
def FnExactFormatPieceUptoCardSaid : Prop := Claim7.holds Tryd.pinned (.plain (OpenSpec.upto fnExactFormatPieceSpec)) fnExactFormatPieceUptoCard
end Rows
end Go.Proofs.YtmabdlkmiddoiaaDoor
