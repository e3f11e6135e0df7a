/-
  DERIVED. GIVEN WITH THE SEED: THE CARDS: each row of YtdhklekkpkbfeaaDoorRows.lean that lists a variable, with what it lists TIED to the program's text (the seventh form; the later family's looks); each row that meets fmt, with fmt's text TOLD by the authors' own Lean function (tested against real Go, not proved from fmt's source: count such statements apart). THE CARD IS WHAT COUNTS. Prove the row's statement (the work); the ties are given (YtdhklekkpkbfeaaDoorTie.lean); close each card by the builder's one call (the guide's Derived/Test/ToyasCard.lean, 'card_holds'). Laid BY PROGRAM, IN A SANDBOX (cutbox-door.mjs). By AI agents, Wed Nov 11 2026. No macro, syntax, notation, axiom, sorry.
-/
import Derived.Test.YtdhklekkpkbfeaaDoorRows
import GoSem.ClaimSeven
namespace Go.Proofs.YtdhklekkpkbfeaaDoor
namespace Rows

/-- THE TIED CARD OF 'tollgatetop.TollgateSums'. -/
def tollgateSumsCard : Claim7 := { stood := { row := tollgateSumsRow, standIns := [], harness := (true, "4e69496956df103dd2e87d95333238abd0d6da3b759a0378b44942e42f81f2db"), looks := false }, kinds := [], alts := [], laidByText := true, laidKinds := [.data, .data], laidTests := true, laidLooks := .later }
def TollgateSumsCardSaid : Prop := Claim7.holds Tryd.pinned (.plain (OpenSpec.ofChange tollgateSumsSpec)) tollgateSumsCard

/-- THE SECOND FORM's CARD OF 'tollgatetop.TollgateSums'. -/
def tollgateSumsUptoCard : Claim7 := { stood := { row := tollgateSumsUptoRow, standIns := [], harness := (true, "4e69496956df103dd2e87d95333238abd0d6da3b759a0378b44942e42f81f2db"), looks := false }, kinds := [], alts := [], laidByText := true, laidKinds := [.data, .data], laidTests := true, laidLooks := .later }
def TollgateSumsUptoCardSaid : Prop := Claim7.holds Tryd.pinned (.plain (OpenSpec.upto tollgateSumsSpec)) tollgateSumsUptoCard
end Rows
end Go.Proofs.YtdhklekkpkbfeaaDoor
