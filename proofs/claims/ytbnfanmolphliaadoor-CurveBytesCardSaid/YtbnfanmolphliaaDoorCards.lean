/-
  DERIVED. GIVEN WITH THE SEED: THE CARDS: each row of YtbnfanmolphliaaDoorRows.lean that lists a variable, with what it lists TIED to the program's text (the seventh form; the later family's looks); each row that meets fmt, with fmt's text TOLD by the authors' own Lean function (tested against real Go, not proved from fmt's source: count such statements apart). THE CARD IS WHAT COUNTS. Prove the row's statement (the work); the ties are given (YtbnfanmolphliaaDoorTie.lean); close each card by the builder's one call (the guide's Derived/Test/ToyasCard.lean, 'card_holds'). Laid BY PROGRAM, IN A SANDBOX (cutbox-door.mjs). By AI agents, Wed Nov 11 2026. No macro, syntax, notation, axiom, sorry.
-/
import Derived.Test.YtbnfanmolphliaaDoorRows
import GoSem.ClaimSeven
namespace Go.Proofs.YtbnfanmolphliaaDoor
namespace Rows

/-- THE TIED CARD OF 'tollgatelaw07.CurveConstants'. -/
def curveConstantsCard : Claim7 := { stood := { row := curveConstantsRow, standIns := [], harness := (true, "49db476e7988770a065185f4199c94725516cfc0e9eeba9095d838e800402326"), looks := false }, kinds := [], alts := [], laidByText := true, laidKinds := [.data, .wider, .data, .wider, .wider], laidTests := true, laidLooks := .later }
def CurveConstantsCardSaid : Prop := Claim7.holds Tryd.pinned (.plain (OpenSpec.ofChange curveConstantsSpec)) curveConstantsCard

/-- THE TIED CARD OF 'tollgatelaw07.CurveAdds'. -/
def curveAddsCard : Claim7 := { stood := { row := curveAddsRow, standIns := [], harness := (true, "49db476e7988770a065185f4199c94725516cfc0e9eeba9095d838e800402326"), looks := false }, kinds := [], alts := [], laidByText := true, laidKinds := [.data, .wider, .data, .wider, .wider], laidTests := true, laidLooks := .later }
def CurveAddsCardSaid : Prop := Claim7.holds Tryd.pinned (.plain (OpenSpec.ofChange curveAddsSpec)) curveAddsCard

/-- THE TIED CARD OF 'tollgatelaw07.CurveTimes'. -/
def curveTimesCard : Claim7 := { stood := { row := curveTimesRow, standIns := [], harness := (true, "49db476e7988770a065185f4199c94725516cfc0e9eeba9095d838e800402326"), looks := false }, kinds := [], alts := [], laidByText := true, laidKinds := [.data, .wider, .data, .wider, .wider], laidTests := true, laidLooks := .later }
def CurveTimesCardSaid : Prop := Claim7.holds Tryd.pinned (.plain (OpenSpec.ofChange curveTimesSpec)) curveTimesCard

/-- THE TIED CARD OF 'tollgatelaw07.CurveGroup'. -/
def curveGroupCard : Claim7 := { stood := { row := curveGroupRow, standIns := [], harness := (true, "49db476e7988770a065185f4199c94725516cfc0e9eeba9095d838e800402326"), looks := false }, kinds := [], alts := [], laidByText := true, laidKinds := [.data, .wider, .data, .wider, .wider], laidTests := true, laidLooks := .later }
def CurveGroupCardSaid : Prop := Claim7.holds Tryd.pinned (.plain (OpenSpec.ofChange curveGroupSpec)) curveGroupCard

/-- THE TIED CARD OF 'tollgatelaw07.CurveOpposites'. -/
def curveOppositesCard : Claim7 := { stood := { row := curveOppositesRow, standIns := [], harness := (true, "49db476e7988770a065185f4199c94725516cfc0e9eeba9095d838e800402326"), looks := false }, kinds := [], alts := [], laidByText := true, laidKinds := [.data, .wider, .data, .wider, .wider], laidTests := true, laidLooks := .later }
def CurveOppositesCardSaid : Prop := Claim7.holds Tryd.pinned (.plain (OpenSpec.ofChange curveOppositesSpec)) curveOppositesCard

/-- THE TIED CARD OF 'tollgatelaw07.CurveBytes'. -/
def curveBytesCard : Claim7 := { stood := { row := curveBytesRow, standIns := [], harness := (true, "49db476e7988770a065185f4199c94725516cfc0e9eeba9095d838e800402326"), looks := false }, kinds := [], alts := [], laidByText := true, laidKinds := [.data, .wider, .data, .wider, .wider], laidTests := true, laidLooks := .later }
def CurveBytesCardSaid : Prop := Claim7.holds Tryd.pinned (.plain (OpenSpec.ofChange curveBytesSpec)) curveBytesCard

/-- THE TIED CARD OF 'tollgatelaw07.CurveShares'. -/
def curveSharesCard : Claim7 := { stood := { row := curveSharesRow, standIns := [], harness := (true, "49db476e7988770a065185f4199c94725516cfc0e9eeba9095d838e800402326"), looks := false }, kinds := [], alts := [], laidByText := true, laidKinds := [.data, .wider, .data, .wider, .wider], laidTests := true, laidLooks := .later }
def CurveSharesCardSaid : Prop := Claim7.holds Tryd.pinned (.plain (OpenSpec.ofChange curveSharesSpec)) curveSharesCard

/-- THE SECOND FORM's CARD OF 'tollgatelaw07.CurveConstants'. -/
def curveConstantsUptoCard : Claim7 := { stood := { row := curveConstantsUptoRow, standIns := [], harness := (true, "49db476e7988770a065185f4199c94725516cfc0e9eeba9095d838e800402326"), looks := false }, kinds := [], alts := [], laidByText := true, laidKinds := [.data, .wider, .data, .wider, .wider], laidTests := true, laidLooks := .later }
def CurveConstantsUptoCardSaid : Prop := Claim7.holds Tryd.pinned (.plain (OpenSpec.upto curveConstantsSpec)) curveConstantsUptoCard

/-- THE SECOND FORM's CARD OF 'tollgatelaw07.CurveAdds'. -/
def curveAddsUptoCard : Claim7 := { stood := { row := curveAddsUptoRow, standIns := [], harness := (true, "49db476e7988770a065185f4199c94725516cfc0e9eeba9095d838e800402326"), looks := false }, kinds := [], alts := [], laidByText := true, laidKinds := [.data, .wider, .data, .wider, .wider], laidTests := true, laidLooks := .later }
def CurveAddsUptoCardSaid : Prop := Claim7.holds Tryd.pinned (.plain (OpenSpec.upto curveAddsSpec)) curveAddsUptoCard

/-- THE SECOND FORM's CARD OF 'tollgatelaw07.CurveTimes'. -/
def curveTimesUptoCard : Claim7 := { stood := { row := curveTimesUptoRow, standIns := [], harness := (true, "49db476e7988770a065185f4199c94725516cfc0e9eeba9095d838e800402326"), looks := false }, kinds := [], alts := [], laidByText := true, laidKinds := [.data, .wider, .data, .wider, .wider], laidTests := true, laidLooks := .later }
def CurveTimesUptoCardSaid : Prop := Claim7.holds Tryd.pinned (.plain (OpenSpec.upto curveTimesSpec)) curveTimesUptoCard

/-- THE SECOND FORM's CARD OF 'tollgatelaw07.CurveGroup'. -/
def curveGroupUptoCard : Claim7 := { stood := { row := curveGroupUptoRow, standIns := [], harness := (true, "49db476e7988770a065185f4199c94725516cfc0e9eeba9095d838e800402326"), looks := false }, kinds := [], alts := [], laidByText := true, laidKinds := [.data, .wider, .data, .wider, .wider], laidTests := true, laidLooks := .later }
def CurveGroupUptoCardSaid : Prop := Claim7.holds Tryd.pinned (.plain (OpenSpec.upto curveGroupSpec)) curveGroupUptoCard

/-- THE SECOND FORM's CARD OF 'tollgatelaw07.CurveOpposites'. -/
def curveOppositesUptoCard : Claim7 := { stood := { row := curveOppositesUptoRow, standIns := [], harness := (true, "49db476e7988770a065185f4199c94725516cfc0e9eeba9095d838e800402326"), looks := false }, kinds := [], alts := [], laidByText := true, laidKinds := [.data, .wider, .data, .wider, .wider], laidTests := true, laidLooks := .later }
def CurveOppositesUptoCardSaid : Prop := Claim7.holds Tryd.pinned (.plain (OpenSpec.upto curveOppositesSpec)) curveOppositesUptoCard

/-- THE SECOND FORM's CARD OF 'tollgatelaw07.CurveBytes'. -/
def curveBytesUptoCard : Claim7 := { stood := { row := curveBytesUptoRow, standIns := [], harness := (true, "49db476e7988770a065185f4199c94725516cfc0e9eeba9095d838e800402326"), looks := false }, kinds := [], alts := [], laidByText := true, laidKinds := [.data, .wider, .data, .wider, .wider], laidTests := true, laidLooks := .later }
def CurveBytesUptoCardSaid : Prop := Claim7.holds Tryd.pinned (.plain (OpenSpec.upto curveBytesSpec)) curveBytesUptoCard

/-- THE SECOND FORM's CARD OF 'tollgatelaw07.CurveShares'. -/
def curveSharesUptoCard : Claim7 := { stood := { row := curveSharesUptoRow, standIns := [], harness := (true, "49db476e7988770a065185f4199c94725516cfc0e9eeba9095d838e800402326"), looks := false }, kinds := [], alts := [], laidByText := true, laidKinds := [.data, .wider, .data, .wider, .wider], laidTests := true, laidLooks := .later }
def CurveSharesUptoCardSaid : Prop := Claim7.holds Tryd.pinned (.plain (OpenSpec.upto curveSharesSpec)) curveSharesUptoCard
end Rows
end Go.Proofs.YtbnfanmolphliaaDoor
