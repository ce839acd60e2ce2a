/-
  DERIVED. GIVEN WITH THE SEED: THE PROGRAM's TIES (one call each: nine closed facts by the kernel) AND EACH ROW's TIE, after the 31st guide's Derived/Test/Toyas{Tie, Card}.lean. No idea stands in it: it is a product of the set-up. Laid BY PROGRAM, IN A SANDBOX (cutbox-door.mjs). By AI agents, Wed Nov 11 2026. No macro, syntax, notation, axiom, sorry.
-/
import Derived.Test.YtdockaglpfejhaaGreatDoorRows
import Derived.LaidByTextLater
import Derived.SevenTiedAt
import Derived.LaidSub
import Derived.LaidOnce
namespace Go.Proofs.YtdockaglpfejhaaGreatDoor
open Go
set_option maxRecDepth 100000
theorem seatTie1 : Tryz.prog.laidByTextLater [("decani/cold.nobody", Rows.laid_decani_cold_nobody), ("decani/cold.nowhere", Rows.laid_decani_cold_nowhere), ("decani/cold.kinds", Rows.laid_decani_cold_kinds), ("decani/strain.nowhere", Rows.laid_decani_strain_nowhere), ("decani/strain.ways", Rows.laid_decani_strain_ways), ("decani/practice.unheld", Rows.laid_decani_practice_unheld), ("decani/practice.nowhere", Rows.laid_decani_practice_nowhere), ("decani/practice.counts", Rows.laid_decani_practice_counts)] [.data, .data, .funcs, .data, .funcs, .data, .data, .funcs] true :=
  Program.laidByTextLater_by_one 49 8 6 (by kernel_rfl) (by kernel_rfl) (by kernel_rfl) (by kernel_rfl) (by kernel_rfl) (by kernel_rfl) (fun _ _ => by kernel_rfl)
theorem noOwnUnsafe : Tryz.pinned.checked.prog.headLifts.contains "ownunsafe" = false := by kernel_rfl
theorem tie : Tryz.prog.laidByTextLater [("decani/cold.nobody", Rows.laid_decani_cold_nobody), ("decani/cold.nowhere", Rows.laid_decani_cold_nowhere), ("decani/cold.kinds", Rows.laid_decani_cold_kinds), ("decani/strain.nowhere", Rows.laid_decani_strain_nowhere), ("decani/strain.ways", Rows.laid_decani_strain_ways), ("decani/practice.unheld", Rows.laid_decani_practice_unheld), ("decani/practice.nowhere", Rows.laid_decani_practice_nowhere), ("decani/practice.counts", Rows.laid_decani_practice_counts)] [.data, .data, .funcs, .data, .funcs, .data, .data, .funcs] true :=
  Program.laidByTextLater.sub seatTie1 ["decani/cold.nobody", "decani/cold.nowhere", "decani/cold.kinds", "decani/strain.nowhere", "decani/strain.ways", "decani/practice.unheld", "decani/practice.nowhere", "decani/practice.counts"] (by kernel_rfl) (by kernel_rfl)
theorem practiceKepts_row_tie : Rows.practiceKeptsRow.laidByTextAt .later Tryz.pinned [.data, .data, .funcs, .data, .funcs, .data, .data, .funcs] true :=
  OpenClaim.laidByTextAt_later rfl rfl tie noOwnUnsafe
theorem practicePlans_row_tie : Rows.practicePlansRow.laidByTextAt .later Tryz.pinned [.data, .data, .funcs, .data, .funcs, .data, .data, .funcs] true :=
  OpenClaim.laidByTextAt_later rfl rfl tie noOwnUnsafe
theorem practiceTrue_row_tie : Rows.practiceTrueRow.laidByTextAt .later Tryz.pinned [.data, .data, .funcs, .data, .funcs, .data, .data, .funcs] true :=
  OpenClaim.laidByTextAt_later rfl rfl tie noOwnUnsafe
theorem practicePlan_row_tie : Rows.practicePlanRow.laidByTextAt .later Tryz.pinned [.data, .data, .funcs, .data, .funcs, .data, .data, .funcs] true :=
  OpenClaim.laidByTextAt_later rfl rfl tie noOwnUnsafe
theorem practiceSafe_row_tie : Rows.practiceSafeRow.laidByTextAt .later Tryz.pinned [.data, .data, .funcs, .data, .funcs, .data, .data, .funcs] true :=
  OpenClaim.laidByTextAt_later rfl rfl tie noOwnUnsafe
theorem practiceAlone_row_tie : Rows.practiceAloneRow.laidByTextAt .later Tryz.pinned [.data, .data, .funcs, .data, .funcs, .data, .data, .funcs] true :=
  OpenClaim.laidByTextAt_later rfl rfl tie noOwnUnsafe
theorem practiceKept_row_tie : Rows.practiceKeptRow.laidByTextAt .later Tryz.pinned [.data, .data, .funcs, .data, .funcs, .data, .data, .funcs] true :=
  OpenClaim.laidByTextAt_later rfl rfl tie noOwnUnsafe
theorem practiceWell_row_tie : Rows.practiceWellRow.laidByTextAt .later Tryz.pinned [.data, .data, .funcs, .data, .funcs, .data, .data, .funcs] true :=
  OpenClaim.laidByTextAt_later rfl rfl tie noOwnUnsafe
theorem practiceMore_row_tie : Rows.practiceMoreRow.laidByTextAt .later Tryz.pinned [.data, .data, .funcs, .data, .funcs, .data, .data, .funcs] true :=
  OpenClaim.laidByTextAt_later rfl rfl tie noOwnUnsafe
theorem practiceFirst_row_tie : Rows.practiceFirstRow.laidByTextAt .later Tryz.pinned [.data, .data, .funcs, .data, .funcs, .data, .data, .funcs] true :=
  OpenClaim.laidByTextAt_later rfl rfl tie noOwnUnsafe
theorem practiceKnown_row_tie : Rows.practiceKnownRow.laidByTextAt .later Tryz.pinned [.data, .data, .funcs, .data, .funcs, .data, .data, .funcs] true :=
  OpenClaim.laidByTextAt_later rfl rfl tie noOwnUnsafe
theorem practiceKeptsUpto_row_tie : Rows.practiceKeptsUptoRow.laidByTextAt .later Tryz.pinned [.data, .data, .funcs, .data, .funcs, .data, .data, .funcs] true :=
  OpenClaim.laidByTextAt_later rfl rfl tie noOwnUnsafe
theorem practicePlansUpto_row_tie : Rows.practicePlansUptoRow.laidByTextAt .later Tryz.pinned [.data, .data, .funcs, .data, .funcs, .data, .data, .funcs] true :=
  OpenClaim.laidByTextAt_later rfl rfl tie noOwnUnsafe
theorem practiceTrueUpto_row_tie : Rows.practiceTrueUptoRow.laidByTextAt .later Tryz.pinned [.data, .data, .funcs, .data, .funcs, .data, .data, .funcs] true :=
  OpenClaim.laidByTextAt_later rfl rfl tie noOwnUnsafe
theorem practicePlanUpto_row_tie : Rows.practicePlanUptoRow.laidByTextAt .later Tryz.pinned [.data, .data, .funcs, .data, .funcs, .data, .data, .funcs] true :=
  OpenClaim.laidByTextAt_later rfl rfl tie noOwnUnsafe
theorem practiceSafeUpto_row_tie : Rows.practiceSafeUptoRow.laidByTextAt .later Tryz.pinned [.data, .data, .funcs, .data, .funcs, .data, .data, .funcs] true :=
  OpenClaim.laidByTextAt_later rfl rfl tie noOwnUnsafe
theorem practiceAloneUpto_row_tie : Rows.practiceAloneUptoRow.laidByTextAt .later Tryz.pinned [.data, .data, .funcs, .data, .funcs, .data, .data, .funcs] true :=
  OpenClaim.laidByTextAt_later rfl rfl tie noOwnUnsafe
theorem practiceKeptUpto_row_tie : Rows.practiceKeptUptoRow.laidByTextAt .later Tryz.pinned [.data, .data, .funcs, .data, .funcs, .data, .data, .funcs] true :=
  OpenClaim.laidByTextAt_later rfl rfl tie noOwnUnsafe
theorem practiceWellUpto_row_tie : Rows.practiceWellUptoRow.laidByTextAt .later Tryz.pinned [.data, .data, .funcs, .data, .funcs, .data, .data, .funcs] true :=
  OpenClaim.laidByTextAt_later rfl rfl tie noOwnUnsafe
theorem practiceMoreUpto_row_tie : Rows.practiceMoreUptoRow.laidByTextAt .later Tryz.pinned [.data, .data, .funcs, .data, .funcs, .data, .data, .funcs] true :=
  OpenClaim.laidByTextAt_later rfl rfl tie noOwnUnsafe
theorem practiceFirstUpto_row_tie : Rows.practiceFirstUptoRow.laidByTextAt .later Tryz.pinned [.data, .data, .funcs, .data, .funcs, .data, .data, .funcs] true :=
  OpenClaim.laidByTextAt_later rfl rfl tie noOwnUnsafe
theorem practiceKnownUpto_row_tie : Rows.practiceKnownUptoRow.laidByTextAt .later Tryz.pinned [.data, .data, .funcs, .data, .funcs, .data, .data, .funcs] true :=
  OpenClaim.laidByTextAt_later rfl rfl tie noOwnUnsafe
end Go.Proofs.YtdockaglpfejhaaGreatDoor
