/-
  DERIVED. GIVEN WITH THE SEED: THE PROGRAM's TIES (one call each: nine closed facts by the kernel) AND EACH ROW's TIE, after the 31st guide's Derived/Test/Toyas{Tie, Card}.lean. No idea stands in it: it is a product of the set-up. Laid BY PROGRAM, IN A SANDBOX (cutbox-door.mjs). By AI agents, Wed Nov 11 2026. No macro, syntax, notation, axiom, sorry.
-/
import Derived.Test.YtbnfanmolphliaaDoorRows
import Derived.LaidByTextLater
import Derived.SevenTiedAt
import Derived.LaidSub
import Derived.LaidOnce
namespace Go.Proofs.YtbnfanmolphliaaDoor
open Go
set_option maxRecDepth 100000
theorem seatTie1 : Tryd.prog.laidByTextLater [("tollgate/curve.prime", Rows.laid_tollgate_curve_prime), ("tollgate/curve.order", Rows.laid_tollgate_curve_order), ("tollgate/curve.coeff", Rows.laid_tollgate_curve_coeff), ("tollgate/curve.baseX", Rows.laid_tollgate_curve_baseX), ("tollgate/curve.baseY", Rows.laid_tollgate_curve_baseY)] [.data, .wider, .data, .wider, .wider] true :=
  Program.laidByTextLater_by_one 34 8 5 (by kernel_rfl) (by kernel_rfl) (by kernel_rfl) (by kernel_rfl) (by kernel_rfl) (by kernel_rfl) (fun _ _ => by kernel_rfl)
theorem noOwnUnsafe : Tryd.pinned.checked.prog.headLifts.contains "ownunsafe" = false := by kernel_rfl
theorem tie : Tryd.prog.laidByTextLater [("tollgate/curve.prime", Rows.laid_tollgate_curve_prime), ("tollgate/curve.order", Rows.laid_tollgate_curve_order), ("tollgate/curve.coeff", Rows.laid_tollgate_curve_coeff), ("tollgate/curve.baseX", Rows.laid_tollgate_curve_baseX), ("tollgate/curve.baseY", Rows.laid_tollgate_curve_baseY)] [.data, .wider, .data, .wider, .wider] true :=
  Program.laidByTextLater.sub seatTie1 ["tollgate/curve.prime", "tollgate/curve.order", "tollgate/curve.coeff", "tollgate/curve.baseX", "tollgate/curve.baseY"] (by kernel_rfl) (by kernel_rfl)
theorem curveConstants_row_tie : Rows.curveConstantsRow.laidByTextAt .later Tryd.pinned [.data, .wider, .data, .wider, .wider] true :=
  OpenClaim.laidByTextAt_later rfl rfl tie noOwnUnsafe
theorem curveAdds_row_tie : Rows.curveAddsRow.laidByTextAt .later Tryd.pinned [.data, .wider, .data, .wider, .wider] true :=
  OpenClaim.laidByTextAt_later rfl rfl tie noOwnUnsafe
theorem curveTimes_row_tie : Rows.curveTimesRow.laidByTextAt .later Tryd.pinned [.data, .wider, .data, .wider, .wider] true :=
  OpenClaim.laidByTextAt_later rfl rfl tie noOwnUnsafe
theorem curveGroup_row_tie : Rows.curveGroupRow.laidByTextAt .later Tryd.pinned [.data, .wider, .data, .wider, .wider] true :=
  OpenClaim.laidByTextAt_later rfl rfl tie noOwnUnsafe
theorem curveOpposites_row_tie : Rows.curveOppositesRow.laidByTextAt .later Tryd.pinned [.data, .wider, .data, .wider, .wider] true :=
  OpenClaim.laidByTextAt_later rfl rfl tie noOwnUnsafe
theorem curveBytes_row_tie : Rows.curveBytesRow.laidByTextAt .later Tryd.pinned [.data, .wider, .data, .wider, .wider] true :=
  OpenClaim.laidByTextAt_later rfl rfl tie noOwnUnsafe
theorem curveShares_row_tie : Rows.curveSharesRow.laidByTextAt .later Tryd.pinned [.data, .wider, .data, .wider, .wider] true :=
  OpenClaim.laidByTextAt_later rfl rfl tie noOwnUnsafe
theorem curveConstantsUpto_row_tie : Rows.curveConstantsUptoRow.laidByTextAt .later Tryd.pinned [.data, .wider, .data, .wider, .wider] true :=
  OpenClaim.laidByTextAt_later rfl rfl tie noOwnUnsafe
theorem curveAddsUpto_row_tie : Rows.curveAddsUptoRow.laidByTextAt .later Tryd.pinned [.data, .wider, .data, .wider, .wider] true :=
  OpenClaim.laidByTextAt_later rfl rfl tie noOwnUnsafe
theorem curveTimesUpto_row_tie : Rows.curveTimesUptoRow.laidByTextAt .later Tryd.pinned [.data, .wider, .data, .wider, .wider] true :=
  OpenClaim.laidByTextAt_later rfl rfl tie noOwnUnsafe
theorem curveGroupUpto_row_tie : Rows.curveGroupUptoRow.laidByTextAt .later Tryd.pinned [.data, .wider, .data, .wider, .wider] true :=
  OpenClaim.laidByTextAt_later rfl rfl tie noOwnUnsafe
theorem curveOppositesUpto_row_tie : Rows.curveOppositesUptoRow.laidByTextAt .later Tryd.pinned [.data, .wider, .data, .wider, .wider] true :=
  OpenClaim.laidByTextAt_later rfl rfl tie noOwnUnsafe
theorem curveBytesUpto_row_tie : Rows.curveBytesUptoRow.laidByTextAt .later Tryd.pinned [.data, .wider, .data, .wider, .wider] true :=
  OpenClaim.laidByTextAt_later rfl rfl tie noOwnUnsafe
theorem curveSharesUpto_row_tie : Rows.curveSharesUptoRow.laidByTextAt .later Tryd.pinned [.data, .wider, .data, .wider, .wider] true :=
  OpenClaim.laidByTextAt_later rfl rfl tie noOwnUnsafe
end Go.Proofs.YtbnfanmolphliaaDoor
