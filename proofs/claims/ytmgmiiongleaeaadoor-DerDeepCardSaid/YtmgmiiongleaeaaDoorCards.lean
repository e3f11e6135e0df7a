/-
  DERIVED. GIVEN WITH THE SEED: THE CARDS: each row of YtmgmiiongleaeaaDoorRows.lean that lists a variable, with what it lists TIED to the program's text (the seventh form; the later family's looks); each row that meets fmt, with fmt's text TOLD by the authors' own Lean function (tested against real Go, not proved from fmt's source: count such statements apart). THE CARD IS WHAT COUNTS. Prove the row's statement (the work); the ties are given (YtmgmiiongleaeaaDoorTie.lean); close each card by the builder's one call (the guide's Derived/Test/ToyasCard.lean, 'card_holds'). Laid BY PROGRAM, IN A SANDBOX (cutbox-door.mjs). By AI agents, Wed Nov 11 2026. No macro, syntax, notation, axiom, sorry.
-/
import Derived.Test.YtmgmiiongleaeaaDoorRows
import GoSem.ClaimSeven
namespace Go.Proofs.YtmgmiiongleaeaaDoor
namespace Rows

/-- THE TIED CARD OF 'tollgatelaw09.DerWrites'. -/
def derWritesCard : Claim7 := { stood := { row := derWritesRow, standIns := [], harness := (true, "6ebde0333af436a3d91d5834c331039c2de99f5a9721a229a02e930fafec5c8a"), looks := false }, kinds := [], alts := [], laidByText := true, laidKinds := [.data, .pinned], laidTests := true, laidLooks := .later }
def DerWritesCardSaid : Prop := Claim7.holds Tryd.pinned (.plain (OpenSpec.ofChange derWritesSpec)) derWritesCard

/-- THE TIED CARD OF 'tollgatelaw09.DerJoins'. -/
def derJoinsCard : Claim7 := { stood := { row := derJoinsRow, standIns := [], harness := (true, "6ebde0333af436a3d91d5834c331039c2de99f5a9721a229a02e930fafec5c8a"), looks := false }, kinds := [], alts := [], laidByText := true, laidKinds := [.data, .pinned], laidTests := true, laidLooks := .later }
def DerJoinsCardSaid : Prop := Claim7.holds Tryd.pinned (.plain (OpenSpec.ofChange derJoinsSpec)) derJoinsCard

/-- THE TIED CARD OF 'tollgatelaw09.DerTo'. -/
def derToCard : Claim7 := { stood := { row := derToRow, standIns := [], harness := (true, "6ebde0333af436a3d91d5834c331039c2de99f5a9721a229a02e930fafec5c8a"), looks := false }, kinds := [], alts := [], laidByText := true, laidKinds := [.data, .pinned], laidTests := true, laidLooks := .later }
def DerToCardSaid : Prop := Claim7.holds Tryd.pinned (.plain (OpenSpec.ofChange derToSpec)) derToCard

/-- THE TIED CARD OF 'tollgatelaw09.DerNums'. -/
def derNumsCard : Claim7 := { stood := { row := derNumsRow, standIns := [], harness := (true, "6ebde0333af436a3d91d5834c331039c2de99f5a9721a229a02e930fafec5c8a"), looks := false }, kinds := [], alts := [], laidByText := true, laidKinds := [.data, .pinned], laidTests := true, laidLooks := .later }
def DerNumsCardSaid : Prop := Claim7.holds Tryd.pinned (.plain (OpenSpec.ofChange derNumsSpec)) derNumsCard

/-- THE TIED CARD OF 'tollgatelaw09.DerReads'. -/
def derReadsCard : Claim7 := { stood := { row := derReadsRow, standIns := [], harness := (true, "6ebde0333af436a3d91d5834c331039c2de99f5a9721a229a02e930fafec5c8a"), looks := false }, kinds := [], alts := [], laidByText := true, laidKinds := [.data, .pinned], laidTests := true, laidLooks := .later }
def DerReadsCardSaid : Prop := Claim7.holds Tryd.pinned (.plain (OpenSpec.ofChange derReadsSpec)) derReadsCard

/-- THE TIED CARD OF 'tollgatelaw09.DerBack'. -/
def derBackCard : Claim7 := { stood := { row := derBackRow, standIns := [], harness := (true, "6ebde0333af436a3d91d5834c331039c2de99f5a9721a229a02e930fafec5c8a"), looks := false }, kinds := [], alts := [], laidByText := true, laidKinds := [.data, .pinned], laidTests := true, laidLooks := .later }
def DerBackCardSaid : Prop := Claim7.holds Tryd.pinned (.plain (OpenSpec.ofChange derBackSpec)) derBackCard

/-- THE TIED CARD OF 'tollgatelaw09.DerDeep'. -/
def derDeepCard : Claim7 := { stood := { row := derDeepRow, standIns := [], harness := (true, "6ebde0333af436a3d91d5834c331039c2de99f5a9721a229a02e930fafec5c8a"), looks := false }, kinds := [], alts := [], laidByText := true, laidKinds := [.data, .pinned], laidTests := true, laidLooks := .later }
def DerDeepCardSaid : Prop := Claim7.holds Tryd.pinned (.plain (OpenSpec.ofChange derDeepSpec)) derDeepCard

/-- THE SECOND FORM's CARD OF 'tollgatelaw09.DerWrites'. -/
def derWritesUptoCard : Claim7 := { stood := { row := derWritesUptoRow, standIns := [], harness := (true, "6ebde0333af436a3d91d5834c331039c2de99f5a9721a229a02e930fafec5c8a"), looks := false }, kinds := [], alts := [], laidByText := true, laidKinds := [.data, .pinned], laidTests := true, laidLooks := .later }
def DerWritesUptoCardSaid : Prop := Claim7.holds Tryd.pinned (.plain (OpenSpec.upto derWritesSpec)) derWritesUptoCard

/-- THE SECOND FORM's CARD OF 'tollgatelaw09.DerJoins'. -/
def derJoinsUptoCard : Claim7 := { stood := { row := derJoinsUptoRow, standIns := [], harness := (true, "6ebde0333af436a3d91d5834c331039c2de99f5a9721a229a02e930fafec5c8a"), looks := false }, kinds := [], alts := [], laidByText := true, laidKinds := [.data, .pinned], laidTests := true, laidLooks := .later }
def DerJoinsUptoCardSaid : Prop := Claim7.holds Tryd.pinned (.plain (OpenSpec.upto derJoinsSpec)) derJoinsUptoCard

/-- THE SECOND FORM's CARD OF 'tollgatelaw09.DerTo'. -/
def derToUptoCard : Claim7 := { stood := { row := derToUptoRow, standIns := [], harness := (true, "6ebde0333af436a3d91d5834c331039c2de99f5a9721a229a02e930fafec5c8a"), looks := false }, kinds := [], alts := [], laidByText := true, laidKinds := [.data, .pinned], laidTests := true, laidLooks := .later }
def DerToUptoCardSaid : Prop := Claim7.holds Tryd.pinned (.plain (OpenSpec.upto derToSpec)) derToUptoCard

/-- THE SECOND FORM's CARD OF 'tollgatelaw09.DerNums'. -/
def derNumsUptoCard : Claim7 := { stood := { row := derNumsUptoRow, standIns := [], harness := (true, "6ebde0333af436a3d91d5834c331039c2de99f5a9721a229a02e930fafec5c8a"), looks := false }, kinds := [], alts := [], laidByText := true, laidKinds := [.data, .pinned], laidTests := true, laidLooks := .later }
def DerNumsUptoCardSaid : Prop := Claim7.holds Tryd.pinned (.plain (OpenSpec.upto derNumsSpec)) derNumsUptoCard

/-- THE SECOND FORM's CARD OF 'tollgatelaw09.DerReads'. -/
def derReadsUptoCard : Claim7 := { stood := { row := derReadsUptoRow, standIns := [], harness := (true, "6ebde0333af436a3d91d5834c331039c2de99f5a9721a229a02e930fafec5c8a"), looks := false }, kinds := [], alts := [], laidByText := true, laidKinds := [.data, .pinned], laidTests := true, laidLooks := .later }
def DerReadsUptoCardSaid : Prop := Claim7.holds Tryd.pinned (.plain (OpenSpec.upto derReadsSpec)) derReadsUptoCard

/-- THE SECOND FORM's CARD OF 'tollgatelaw09.DerBack'. -/
def derBackUptoCard : Claim7 := { stood := { row := derBackUptoRow, standIns := [], harness := (true, "6ebde0333af436a3d91d5834c331039c2de99f5a9721a229a02e930fafec5c8a"), looks := false }, kinds := [], alts := [], laidByText := true, laidKinds := [.data, .pinned], laidTests := true, laidLooks := .later }
def DerBackUptoCardSaid : Prop := Claim7.holds Tryd.pinned (.plain (OpenSpec.upto derBackSpec)) derBackUptoCard

/-- THE SECOND FORM's CARD OF 'tollgatelaw09.DerDeep'. -/
def derDeepUptoCard : Claim7 := { stood := { row := derDeepUptoRow, standIns := [], harness := (true, "6ebde0333af436a3d91d5834c331039c2de99f5a9721a229a02e930fafec5c8a"), looks := false }, kinds := [], alts := [], laidByText := true, laidKinds := [.data, .pinned], laidTests := true, laidLooks := .later }
def DerDeepUptoCardSaid : Prop := Claim7.holds Tryd.pinned (.plain (OpenSpec.upto derDeepSpec)) derDeepUptoCard
end Rows
end Go.Proofs.YtmgmiiongleaeaaDoor
