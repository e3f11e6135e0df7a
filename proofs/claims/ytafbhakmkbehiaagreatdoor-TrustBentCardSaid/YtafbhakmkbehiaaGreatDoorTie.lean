/-
  DERIVED. GIVEN WITH THE SEED: THE PROGRAM's TIES (one call each: nine closed facts by the kernel) AND EACH ROW's TIE, after the 31st guide's Derived/Test/Toyas{Tie, Card}.lean. No idea stands in it: it is a product of the set-up. Laid BY PROGRAM, IN A SANDBOX (cutbox-door.mjs). By AI agents, Wed Nov 11 2026. No macro, syntax, notation, axiom, sorry.
-/
import Derived.Test.YtafbhakmkbehiaaGreatDoorRows
import Derived.LaidByTextLater
import Derived.SevenTiedAt
import Derived.LaidSub
import Derived.LaidOnce
namespace Go.Proofs.YtafbhakmkbehiaaGreatDoor
open Go
set_option maxRecDepth 100000
theorem seatTie1 : Tryz.prog.laidByTextLater [("tollgate/hash.start", Rows.laid_tollgate_hash_start), ("tollgate/hash.rounds", Rows.laid_tollgate_hash_rounds), ("tollgate/curve.prime", Rows.laid_tollgate_curve_prime), ("tollgate/curve.order", Rows.laid_tollgate_curve_order), ("tollgate/curve.coeff", Rows.laid_tollgate_curve_coeff), ("tollgate/curve.baseX", Rows.laid_tollgate_curve_baseX), ("tollgate/curve.baseY", Rows.laid_tollgate_curve_baseY), ("unicode/utf8.acceptRanges", Rows.laid_unicode_utf8_acceptRanges), ("errors.errorType", Rows.laid_errors_errorType)] [.data, .data, .data, .wider, .data, .wider, .wider, .data, .handle] true :=
  Program.laidByTextLater_by_one 61 8 65 (by kernel_rfl) (by kernel_rfl) (by kernel_rfl) (by kernel_rfl) (by kernel_rfl) (by kernel_rfl) (fun _ _ => by kernel_rfl)
theorem pin_laid_unicode_utf8_first : Tryz.pinned.checked.prog.pinnedFits "unicode/utf8.first" = true := by kernel_rfl
theorem noOwnUnsafe : Tryz.pinned.checked.prog.headLifts.contains "ownunsafe" = false := by kernel_rfl
theorem fits1 : Tryz.pinned.checked.prog.listedFits [("tollgate/hash.start", Rows.laid_tollgate_hash_start), ("tollgate/hash.rounds", Rows.laid_tollgate_hash_rounds), ("tollgate/curve.prime", Rows.laid_tollgate_curve_prime), ("tollgate/curve.order", Rows.laid_tollgate_curve_order), ("tollgate/curve.coeff", Rows.laid_tollgate_curve_coeff), ("tollgate/curve.baseX", Rows.laid_tollgate_curve_baseX), ("tollgate/curve.baseY", Rows.laid_tollgate_curve_baseY), ("unicode/utf8.acceptRanges", Rows.laid_unicode_utf8_acceptRanges), ("unicode/utf8.first", Rows.laid_unicode_utf8_first)] = true := by
  unfold Program.listedFits
  rw [noOwnUnsafe]
  kernel_rfl
theorem tie : Tryz.prog.laidByTextLater [("tollgate/hash.start", Rows.laid_tollgate_hash_start), ("tollgate/hash.rounds", Rows.laid_tollgate_hash_rounds), ("tollgate/curve.prime", Rows.laid_tollgate_curve_prime), ("tollgate/curve.order", Rows.laid_tollgate_curve_order), ("tollgate/curve.coeff", Rows.laid_tollgate_curve_coeff), ("tollgate/curve.baseX", Rows.laid_tollgate_curve_baseX), ("tollgate/curve.baseY", Rows.laid_tollgate_curve_baseY), ("unicode/utf8.acceptRanges", Rows.laid_unicode_utf8_acceptRanges)] [.data, .data, .data, .wider, .data, .wider, .wider, .data] true :=
  Program.laidByTextLater.sub seatTie1 ["tollgate/hash.start", "tollgate/hash.rounds", "tollgate/curve.prime", "tollgate/curve.order", "tollgate/curve.coeff", "tollgate/curve.baseX", "tollgate/curve.baseY", "unicode/utf8.acceptRanges"] (by kernel_rfl) (by kernel_rfl)
theorem certSigs_row_tie : Rows.certSigsRow.laidByTextAt .later Tryz.pinned [.data, .data, .data, .wider, .data, .wider, .wider, .data, .pinned] true :=
  OpenClaim.laidByTextAt_pinned rfl rfl tie rfl rfl rfl rfl (fun y hy _e => by
    simp only [Rows.certSigsRow, List.zip_cons_cons, List.zip_nil_right, List.mem_cons, List.mem_nil_iff, or_false] at hy
    rcases hy with rfl | rfl | rfl | rfl | rfl | rfl | rfl | rfl | rfl
    · cases _e
    · cases _e
    · cases _e
    · cases _e
    · cases _e
    · cases _e
    · cases _e
    · cases _e
    · exact ⟨pin_laid_unicode_utf8_first, by kernel_rfl⟩) fits1
theorem certReads_row_tie : Rows.certReadsRow.laidByTextAt .later Tryz.pinned [.data, .data, .data, .wider, .data, .wider, .wider, .data, .pinned] true :=
  OpenClaim.laidByTextAt_pinned rfl rfl tie rfl rfl rfl rfl (fun y hy _e => by
    simp only [Rows.certReadsRow, List.zip_cons_cons, List.zip_nil_right, List.mem_cons, List.mem_nil_iff, or_false] at hy
    rcases hy with rfl | rfl | rfl | rfl | rfl | rfl | rfl | rfl | rfl
    · cases _e
    · cases _e
    · cases _e
    · cases _e
    · cases _e
    · cases _e
    · cases _e
    · cases _e
    · exact ⟨pin_laid_unicode_utf8_first, by kernel_rfl⟩) fits1
theorem fits2 : Tryz.pinned.checked.prog.listedFits [("tollgate/hash.start", Rows.laid_tollgate_hash_start), ("tollgate/hash.rounds", Rows.laid_tollgate_hash_rounds), ("tollgate/curve.prime", Rows.laid_tollgate_curve_prime), ("tollgate/curve.order", Rows.laid_tollgate_curve_order), ("tollgate/curve.coeff", Rows.laid_tollgate_curve_coeff), ("tollgate/curve.baseX", Rows.laid_tollgate_curve_baseX), ("tollgate/curve.baseY", Rows.laid_tollgate_curve_baseY), ("unicode/utf8.acceptRanges", Rows.laid_unicode_utf8_acceptRanges), ("errors.errorType", Rows.laid_errors_errorType), ("unicode/utf8.first", Rows.laid_unicode_utf8_first)] = true := by
  unfold Program.listedFits
  rw [noOwnUnsafe]
  kernel_rfl
theorem tie2 : Tryz.prog.laidByTextLater [("tollgate/hash.start", Rows.laid_tollgate_hash_start), ("tollgate/hash.rounds", Rows.laid_tollgate_hash_rounds), ("tollgate/curve.prime", Rows.laid_tollgate_curve_prime), ("tollgate/curve.order", Rows.laid_tollgate_curve_order), ("tollgate/curve.coeff", Rows.laid_tollgate_curve_coeff), ("tollgate/curve.baseX", Rows.laid_tollgate_curve_baseX), ("tollgate/curve.baseY", Rows.laid_tollgate_curve_baseY), ("unicode/utf8.acceptRanges", Rows.laid_unicode_utf8_acceptRanges), ("errors.errorType", Rows.laid_errors_errorType)] [.data, .data, .data, .wider, .data, .wider, .wider, .data, .handle] true :=
  Program.laidByTextLater.sub seatTie1 ["tollgate/hash.start", "tollgate/hash.rounds", "tollgate/curve.prime", "tollgate/curve.order", "tollgate/curve.coeff", "tollgate/curve.baseX", "tollgate/curve.baseY", "unicode/utf8.acceptRanges", "errors.errorType"] (by kernel_rfl) (by kernel_rfl)
theorem trustBent_row_tie : Rows.trustBentRow.laidByTextAt .later Tryz.pinned [.data, .data, .data, .wider, .data, .wider, .wider, .data, .handle, .pinned] true :=
  OpenClaim.laidByTextAt_pinned rfl rfl tie2 rfl rfl rfl rfl (fun y hy _e => by
    simp only [Rows.trustBentRow, List.zip_cons_cons, List.zip_nil_right, List.mem_cons, List.mem_nil_iff, or_false] at hy
    rcases hy with rfl | rfl | rfl | rfl | rfl | rfl | rfl | rfl | rfl | rfl
    · cases _e
    · cases _e
    · cases _e
    · cases _e
    · cases _e
    · cases _e
    · cases _e
    · cases _e
    · cases _e
    · exact ⟨pin_laid_unicode_utf8_first, by kernel_rfl⟩) fits2
theorem trustRoots_row_tie : Rows.trustRootsRow.laidByTextAt .later Tryz.pinned [.data, .data, .data, .wider, .data, .wider, .wider, .data, .handle, .pinned] true :=
  OpenClaim.laidByTextAt_pinned rfl rfl tie2 rfl rfl rfl rfl (fun y hy _e => by
    simp only [Rows.trustRootsRow, List.zip_cons_cons, List.zip_nil_right, List.mem_cons, List.mem_nil_iff, or_false] at hy
    rcases hy with rfl | rfl | rfl | rfl | rfl | rfl | rfl | rfl | rfl | rfl
    · cases _e
    · cases _e
    · cases _e
    · cases _e
    · cases _e
    · cases _e
    · cases _e
    · cases _e
    · cases _e
    · exact ⟨pin_laid_unicode_utf8_first, by kernel_rfl⟩) fits2
theorem certSigsUpto_row_tie : Rows.certSigsUptoRow.laidByTextAt .later Tryz.pinned [.data, .data, .data, .wider, .data, .wider, .wider, .data, .pinned] true :=
  OpenClaim.laidByTextAt_pinned rfl rfl tie rfl rfl rfl rfl (fun y hy _e => by
    simp only [Rows.certSigsUptoRow, List.zip_cons_cons, List.zip_nil_right, List.mem_cons, List.mem_nil_iff, or_false] at hy
    rcases hy with rfl | rfl | rfl | rfl | rfl | rfl | rfl | rfl | rfl
    · cases _e
    · cases _e
    · cases _e
    · cases _e
    · cases _e
    · cases _e
    · cases _e
    · cases _e
    · exact ⟨pin_laid_unicode_utf8_first, by kernel_rfl⟩) fits1
theorem certReadsUpto_row_tie : Rows.certReadsUptoRow.laidByTextAt .later Tryz.pinned [.data, .data, .data, .wider, .data, .wider, .wider, .data, .pinned] true :=
  OpenClaim.laidByTextAt_pinned rfl rfl tie rfl rfl rfl rfl (fun y hy _e => by
    simp only [Rows.certReadsUptoRow, List.zip_cons_cons, List.zip_nil_right, List.mem_cons, List.mem_nil_iff, or_false] at hy
    rcases hy with rfl | rfl | rfl | rfl | rfl | rfl | rfl | rfl | rfl
    · cases _e
    · cases _e
    · cases _e
    · cases _e
    · cases _e
    · cases _e
    · cases _e
    · cases _e
    · exact ⟨pin_laid_unicode_utf8_first, by kernel_rfl⟩) fits1
theorem trustBentUpto_row_tie : Rows.trustBentUptoRow.laidByTextAt .later Tryz.pinned [.data, .data, .data, .wider, .data, .wider, .wider, .data, .handle, .pinned] true :=
  OpenClaim.laidByTextAt_pinned rfl rfl tie2 rfl rfl rfl rfl (fun y hy _e => by
    simp only [Rows.trustBentUptoRow, List.zip_cons_cons, List.zip_nil_right, List.mem_cons, List.mem_nil_iff, or_false] at hy
    rcases hy with rfl | rfl | rfl | rfl | rfl | rfl | rfl | rfl | rfl | rfl
    · cases _e
    · cases _e
    · cases _e
    · cases _e
    · cases _e
    · cases _e
    · cases _e
    · cases _e
    · cases _e
    · exact ⟨pin_laid_unicode_utf8_first, by kernel_rfl⟩) fits2
theorem trustRootsUpto_row_tie : Rows.trustRootsUptoRow.laidByTextAt .later Tryz.pinned [.data, .data, .data, .wider, .data, .wider, .wider, .data, .handle, .pinned] true :=
  OpenClaim.laidByTextAt_pinned rfl rfl tie2 rfl rfl rfl rfl (fun y hy _e => by
    simp only [Rows.trustRootsUptoRow, List.zip_cons_cons, List.zip_nil_right, List.mem_cons, List.mem_nil_iff, or_false] at hy
    rcases hy with rfl | rfl | rfl | rfl | rfl | rfl | rfl | rfl | rfl | rfl
    · cases _e
    · cases _e
    · cases _e
    · cases _e
    · cases _e
    · cases _e
    · cases _e
    · cases _e
    · cases _e
    · exact ⟨pin_laid_unicode_utf8_first, by kernel_rfl⟩) fits2
end Go.Proofs.YtafbhakmkbehiaaGreatDoor
