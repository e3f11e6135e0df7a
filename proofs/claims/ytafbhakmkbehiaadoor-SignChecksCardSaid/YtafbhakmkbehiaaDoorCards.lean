/-
  DERIVED. GIVEN WITH THE SEED: THE CARDS: each row of YtafbhakmkbehiaaDoorRows.lean that lists a variable, with what it lists TIED to the program's text (the seventh form; the later family's looks); each row that meets fmt, with fmt's text TOLD by the authors' own Lean function (tested against real Go, not proved from fmt's source: count such statements apart). THE CARD IS WHAT COUNTS. Prove the row's statement (the work); the ties are given (YtafbhakmkbehiaaDoorTie.lean); close each card by the builder's one call (the guide's Derived/Test/ToyasCard.lean, 'card_holds'). Laid BY PROGRAM, IN A SANDBOX (cutbox-door.mjs). By AI agents, Wed Nov 11 2026. No macro, syntax, notation, axiom, sorry.
-/
import Derived.Test.YtafbhakmkbehiaaDoorRows
import GoSem.ClaimSeven
namespace Go.Proofs.YtafbhakmkbehiaaDoor
namespace Rows

/-- THE TIED CARD OF 'tollgatelaw08.SignPublics'. -/
def signPublicsCard : Claim7 := { stood := { row := signPublicsRow, standIns := [], harness := (true, "b66e4cb598826dedc4c34fe8bcb111945449b532e929a99c54e2fda2cc7550ae"), looks := false }, kinds := [], alts := [], laidByText := true, laidKinds := [.data, .data, .data, .wider, .data, .wider, .wider], laidTests := true, laidLooks := .later }
def SignPublicsCardSaid : Prop := Claim7.holds Tryd.pinned (.plain (OpenSpec.ofChange signPublicsSpec)) signPublicsCard

/-- THE TIED CARD OF 'tollgatelaw08.SignChecks'. -/
def signChecksCard : Claim7 := { stood := { row := signChecksRow, standIns := [], harness := (true, "b66e4cb598826dedc4c34fe8bcb111945449b532e929a99c54e2fda2cc7550ae"), looks := false }, kinds := [], alts := [], laidByText := true, laidKinds := [.data, .data, .data, .wider, .data, .wider, .wider], laidTests := true, laidLooks := .later }
def SignChecksCardSaid : Prop := Claim7.holds Tryd.pinned (.plain (OpenSpec.ofChange signChecksSpec)) signChecksCard

/-- THE SECOND FORM's CARD OF 'tollgatelaw08.SignPublics'. -/
def signPublicsUptoCard : Claim7 := { stood := { row := signPublicsUptoRow, standIns := [], harness := (true, "b66e4cb598826dedc4c34fe8bcb111945449b532e929a99c54e2fda2cc7550ae"), looks := false }, kinds := [], alts := [], laidByText := true, laidKinds := [.data, .data, .data, .wider, .data, .wider, .wider], laidTests := true, laidLooks := .later }
def SignPublicsUptoCardSaid : Prop := Claim7.holds Tryd.pinned (.plain (OpenSpec.upto signPublicsSpec)) signPublicsUptoCard

/-- THE SECOND FORM's CARD OF 'tollgatelaw08.SignChecks'. -/
def signChecksUptoCard : Claim7 := { stood := { row := signChecksUptoRow, standIns := [], harness := (true, "b66e4cb598826dedc4c34fe8bcb111945449b532e929a99c54e2fda2cc7550ae"), looks := false }, kinds := [], alts := [], laidByText := true, laidKinds := [.data, .data, .data, .wider, .data, .wider, .wider], laidTests := true, laidLooks := .later }
def SignChecksUptoCardSaid : Prop := Claim7.holds Tryd.pinned (.plain (OpenSpec.upto signChecksSpec)) signChecksUptoCard
end Rows
end Go.Proofs.YtafbhakmkbehiaaDoor
