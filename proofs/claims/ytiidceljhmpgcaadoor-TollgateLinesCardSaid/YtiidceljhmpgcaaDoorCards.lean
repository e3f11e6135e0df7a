/-
  DERIVED. GIVEN WITH THE SEED: THE CARDS: each row of YtiidceljhmpgcaaDoorRows.lean that lists a variable, with what it lists TIED to the program's text (the seventh form; the later family's looks); each row that meets fmt, with fmt's text TOLD by the authors' own Lean function (tested against real Go, not proved from fmt's source: count such statements apart). THE CARD IS WHAT COUNTS. Prove the row's statement (the work); the ties are given (YtiidceljhmpgcaaDoorTie.lean); close each card by the builder's one call (the guide's Derived/Test/ToyasCard.lean, 'card_holds'). Laid BY PROGRAM, IN A SANDBOX (cutbox-door.mjs). By AI agents, Wed Nov 11 2026. No macro, syntax, notation, axiom, sorry.
-/
import Derived.Test.YtiidceljhmpgcaaDoorRows
import GoSem.ClaimSeven
namespace Go.Proofs.YtiidceljhmpgcaaDoor
namespace Rows

/-- THE TIED CARD OF 'tollgatetop.TollgateLines'. -/
def tollgateLinesCard : Claim7 := { stood := { row := tollgateLinesRow, standIns := [], harness := (true, "a618ab95af86fd25725ce4d7609a509c830cd411ee50089b9773f25e0a096317"), looks := false }, kinds := [], alts := [], laidByText := true, laidKinds := [.data, .data, .data, .pinned], laidTests := true, laidLooks := .later }
def TollgateLinesCardSaid : Prop := Claim7.holds Tryd.pinned (.plain (OpenSpec.ofChange tollgateLinesSpec)) tollgateLinesCard

/-- THE SECOND FORM's CARD OF 'tollgatetop.TollgateLines'. -/
def tollgateLinesUptoCard : Claim7 := { stood := { row := tollgateLinesUptoRow, standIns := [], harness := (true, "a618ab95af86fd25725ce4d7609a509c830cd411ee50089b9773f25e0a096317"), looks := false }, kinds := [], alts := [], laidByText := true, laidKinds := [.data, .data, .data, .pinned], laidTests := true, laidLooks := .later }
def TollgateLinesUptoCardSaid : Prop := Claim7.holds Tryd.pinned (.plain (OpenSpec.upto tollgateLinesSpec)) tollgateLinesUptoCard
end Rows
end Go.Proofs.YtiidceljhmpgcaaDoor
