/-
  DERIVED. GIVEN WITH THE SEED: THE PROGRAM's TIES (one call each: nine closed facts by the kernel) AND EACH ROW's TIE, after the 31st guide's Derived/Test/Toyas{Tie, Card}.lean. No idea stands in it: it is a product of the set-up. Laid BY PROGRAM, IN A SANDBOX (cutbox-door.mjs). By AI agents, Wed Nov 11 2026. No macro, syntax, notation, axiom, sorry.
-/
import Derived.Test.YtafbhakmkbehiaaDoorRows
import Derived.LaidByTextLater
import Derived.SevenTiedAt
import Derived.LaidSub
import Derived.LaidOnce
namespace Go.Proofs.YtafbhakmkbehiaaDoor
open Go
set_option maxRecDepth 100000
theorem seatTie1 : Tryd.prog.laidByTextLater [("tollgate/hash.start", Rows.laid_tollgate_hash_start), ("tollgate/hash.rounds", Rows.laid_tollgate_hash_rounds), ("tollgate/curve.prime", Rows.laid_tollgate_curve_prime), ("tollgate/curve.order", Rows.laid_tollgate_curve_order), ("tollgate/curve.coeff", Rows.laid_tollgate_curve_coeff), ("tollgate/curve.baseX", Rows.laid_tollgate_curve_baseX), ("tollgate/curve.baseY", Rows.laid_tollgate_curve_baseY)] [.data, .data, .data, .wider, .data, .wider, .wider] true :=
  Program.laidByTextLater_by_one 44 8 65 (by kernel_rfl) (by kernel_rfl) (by kernel_rfl) (by kernel_rfl) (by kernel_rfl) (by kernel_rfl) (fun _ _ => by kernel_rfl)
theorem noOwnUnsafe : Tryd.pinned.checked.prog.headLifts.contains "ownunsafe" = false := by kernel_rfl
theorem tie : Tryd.prog.laidByTextLater [("tollgate/hash.start", Rows.laid_tollgate_hash_start), ("tollgate/hash.rounds", Rows.laid_tollgate_hash_rounds), ("tollgate/curve.prime", Rows.laid_tollgate_curve_prime), ("tollgate/curve.order", Rows.laid_tollgate_curve_order), ("tollgate/curve.coeff", Rows.laid_tollgate_curve_coeff), ("tollgate/curve.baseX", Rows.laid_tollgate_curve_baseX), ("tollgate/curve.baseY", Rows.laid_tollgate_curve_baseY)] [.data, .data, .data, .wider, .data, .wider, .wider] true :=
  Program.laidByTextLater.sub seatTie1 ["tollgate/hash.start", "tollgate/hash.rounds", "tollgate/curve.prime", "tollgate/curve.order", "tollgate/curve.coeff", "tollgate/curve.baseX", "tollgate/curve.baseY"] (by kernel_rfl) (by kernel_rfl)
theorem signPublics_row_tie : Rows.signPublicsRow.laidByTextAt .later Tryd.pinned [.data, .data, .data, .wider, .data, .wider, .wider] true :=
  OpenClaim.laidByTextAt_later rfl rfl tie noOwnUnsafe
theorem signChecks_row_tie : Rows.signChecksRow.laidByTextAt .later Tryd.pinned [.data, .data, .data, .wider, .data, .wider, .wider] true :=
  OpenClaim.laidByTextAt_later rfl rfl tie noOwnUnsafe
theorem signPublicsUpto_row_tie : Rows.signPublicsUptoRow.laidByTextAt .later Tryd.pinned [.data, .data, .data, .wider, .data, .wider, .wider] true :=
  OpenClaim.laidByTextAt_later rfl rfl tie noOwnUnsafe
theorem signChecksUpto_row_tie : Rows.signChecksUptoRow.laidByTextAt .later Tryd.pinned [.data, .data, .data, .wider, .data, .wider, .wider] true :=
  OpenClaim.laidByTextAt_later rfl rfl tie noOwnUnsafe
end Go.Proofs.YtafbhakmkbehiaaDoor
