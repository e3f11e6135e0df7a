/-
  DERIVED. GIVEN WITH THE SEED: THE CARDS: each row of YtefpajmkaaielaaGreatDoorRows.lean that lists a variable, with what it lists TIED to the program's text (the seventh form; the later family's looks); each row that meets fmt, with fmt's text TOLD by the authors' own Lean function (tested against real Go, not proved from fmt's source: count such statements apart). THE CARD IS WHAT COUNTS. Prove the row's statement (the work); the ties are given (YtefpajmkaaielaaGreatDoorTie.lean); close each card by the builder's one call (the guide's Derived/Test/ToyasCard.lean, 'card_holds'). Laid BY PROGRAM, IN A SANDBOX (cutbox-door.mjs). By AI agents, Wed Nov 11 2026. No macro, syntax, notation, axiom, sorry.
-/
import Derived.Test.YtefpajmkaaielaaGreatDoorRows
import GoSem.ClaimSeven
namespace Go.Proofs.YtefpajmkaaielaaGreatDoor
namespace Rows

/-- THE TIED CARD OF 'tollgatelaw11.TrustMakes'. -/
def trustMakesCard : Claim7 := { stood := { row := trustMakesRow, standIns := [], harness := (true, "5e560896dfb6daf55c7631fd0e39fd41f49fcb4b66e5167c04b962d1af92a0f7"), looks := true }, kinds := [], alts := [], laidByText := true, laidKinds := [.data, .data, .data, .wider, .data, .wider, .wider, .data, .handle, .pinned], laidTests := true, laidLooks := .later }
def TrustMakesCardSaid : Prop := Claim7.holds Tryz.pinned (.plain (OpenSpec.ofChange trustMakesSpec)) trustMakesCard

/-- THE SECOND FORM's CARD OF 'tollgatelaw11.TrustMakes'. -/
def trustMakesUptoCard : Claim7 := { stood := { row := trustMakesUptoRow, standIns := [], harness := (true, "5e560896dfb6daf55c7631fd0e39fd41f49fcb4b66e5167c04b962d1af92a0f7"), looks := true }, kinds := [], alts := [], laidByText := true, laidKinds := [.data, .data, .data, .wider, .data, .wider, .wider, .data, .handle, .pinned], laidTests := true, laidLooks := .later }
def TrustMakesUptoCardSaid : Prop := Claim7.holds Tryz.pinned (.plain (OpenSpec.upto trustMakesSpec)) trustMakesUptoCard
end Rows
end Go.Proofs.YtefpajmkaaielaaGreatDoor
