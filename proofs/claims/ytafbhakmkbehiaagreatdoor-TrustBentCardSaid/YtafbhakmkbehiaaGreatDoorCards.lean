/-
  DERIVED. GIVEN WITH THE SEED: THE CARDS: each row of YtafbhakmkbehiaaGreatDoorRows.lean that lists a variable, with what it lists TIED to the program's text (the seventh form; the later family's looks); each row that meets fmt, with fmt's text TOLD by the authors' own Lean function (tested against real Go, not proved from fmt's source: count such statements apart). THE CARD IS WHAT COUNTS. Prove the row's statement (the work); the ties are given (YtafbhakmkbehiaaGreatDoorTie.lean); close each card by the builder's one call (the guide's Derived/Test/ToyasCard.lean, 'card_holds'). Laid BY PROGRAM, IN A SANDBOX (cutbox-door.mjs). By AI agents, Wed Nov 11 2026. No macro, syntax, notation, axiom, sorry.
-/
import Derived.Test.YtafbhakmkbehiaaGreatDoorRows
import GoSem.ClaimSeven
namespace Go.Proofs.YtafbhakmkbehiaaGreatDoor
namespace Rows

/-- THE TIED CARD OF 'tollgatelaw10.CertSigs'. -/
def certSigsCard : Claim7 := { stood := { row := certSigsRow, standIns := [], harness := (true, "30b8c6f46770492da8b866596bdd37db9553d6cb68262b84b04d2cbc33f38b46"), looks := true }, kinds := [], alts := [], laidByText := true, laidKinds := [.data, .data, .data, .wider, .data, .wider, .wider, .data, .pinned], laidTests := true, laidLooks := .later }
def CertSigsCardSaid : Prop := Claim7.holds Tryz.pinned (.plain (OpenSpec.ofChange certSigsSpec)) certSigsCard

/-- THE TIED CARD OF 'tollgatelaw10.CertReads'. -/
def certReadsCard : Claim7 := { stood := { row := certReadsRow, standIns := [], harness := (true, "30b8c6f46770492da8b866596bdd37db9553d6cb68262b84b04d2cbc33f38b46"), looks := true }, kinds := [], alts := [], laidByText := true, laidKinds := [.data, .data, .data, .wider, .data, .wider, .wider, .data, .pinned], laidTests := true, laidLooks := .later }
def CertReadsCardSaid : Prop := Claim7.holds Tryz.pinned (.plain (OpenSpec.ofChange certReadsSpec)) certReadsCard

/-- THE TIED CARD OF 'tollgatelaw11.TrustBent'. -/
def trustBentCard : Claim7 := { stood := { row := trustBentRow, standIns := [], harness := (true, "30b8c6f46770492da8b866596bdd37db9553d6cb68262b84b04d2cbc33f38b46"), looks := true }, kinds := [], alts := [], laidByText := true, laidKinds := [.data, .data, .data, .wider, .data, .wider, .wider, .data, .handle, .pinned], laidTests := true, laidLooks := .later }
def TrustBentCardSaid : Prop := Claim7.holds Tryz.pinned (.plain (OpenSpec.ofChange trustBentSpec)) trustBentCard

/-- THE TIED CARD OF 'tollgatelaw11.TrustRoots'. -/
def trustRootsCard : Claim7 := { stood := { row := trustRootsRow, standIns := [], harness := (true, "30b8c6f46770492da8b866596bdd37db9553d6cb68262b84b04d2cbc33f38b46"), looks := true }, kinds := [], alts := [], laidByText := true, laidKinds := [.data, .data, .data, .wider, .data, .wider, .wider, .data, .handle, .pinned], laidTests := true, laidLooks := .later }
def TrustRootsCardSaid : Prop := Claim7.holds Tryz.pinned (.plain (OpenSpec.ofChange trustRootsSpec)) trustRootsCard

/-- THE SECOND FORM's CARD OF 'tollgatelaw10.CertSigs'. -/
def certSigsUptoCard : Claim7 := { stood := { row := certSigsUptoRow, standIns := [], harness := (true, "30b8c6f46770492da8b866596bdd37db9553d6cb68262b84b04d2cbc33f38b46"), looks := true }, kinds := [], alts := [], laidByText := true, laidKinds := [.data, .data, .data, .wider, .data, .wider, .wider, .data, .pinned], laidTests := true, laidLooks := .later }
def CertSigsUptoCardSaid : Prop := Claim7.holds Tryz.pinned (.plain (OpenSpec.upto certSigsSpec)) certSigsUptoCard

/-- THE SECOND FORM's CARD OF 'tollgatelaw10.CertReads'. -/
def certReadsUptoCard : Claim7 := { stood := { row := certReadsUptoRow, standIns := [], harness := (true, "30b8c6f46770492da8b866596bdd37db9553d6cb68262b84b04d2cbc33f38b46"), looks := true }, kinds := [], alts := [], laidByText := true, laidKinds := [.data, .data, .data, .wider, .data, .wider, .wider, .data, .pinned], laidTests := true, laidLooks := .later }
def CertReadsUptoCardSaid : Prop := Claim7.holds Tryz.pinned (.plain (OpenSpec.upto certReadsSpec)) certReadsUptoCard

/-- THE SECOND FORM's CARD OF 'tollgatelaw11.TrustBent'. -/
def trustBentUptoCard : Claim7 := { stood := { row := trustBentUptoRow, standIns := [], harness := (true, "30b8c6f46770492da8b866596bdd37db9553d6cb68262b84b04d2cbc33f38b46"), looks := true }, kinds := [], alts := [], laidByText := true, laidKinds := [.data, .data, .data, .wider, .data, .wider, .wider, .data, .handle, .pinned], laidTests := true, laidLooks := .later }
def TrustBentUptoCardSaid : Prop := Claim7.holds Tryz.pinned (.plain (OpenSpec.upto trustBentSpec)) trustBentUptoCard

/-- THE SECOND FORM's CARD OF 'tollgatelaw11.TrustRoots'. -/
def trustRootsUptoCard : Claim7 := { stood := { row := trustRootsUptoRow, standIns := [], harness := (true, "30b8c6f46770492da8b866596bdd37db9553d6cb68262b84b04d2cbc33f38b46"), looks := true }, kinds := [], alts := [], laidByText := true, laidKinds := [.data, .data, .data, .wider, .data, .wider, .wider, .data, .handle, .pinned], laidTests := true, laidLooks := .later }
def TrustRootsUptoCardSaid : Prop := Claim7.holds Tryz.pinned (.plain (OpenSpec.upto trustRootsSpec)) trustRootsUptoCard
end Rows
end Go.Proofs.YtafbhakmkbehiaaGreatDoor
