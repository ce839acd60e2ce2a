/-
  DERIVED. GIVEN WITH THE SEED: THE CARDS: each row of YtdockaglpfejhaaGreatDoorRows.lean that lists a variable, with what it lists TIED to the program's text (the seventh form; the later family's looks); each row that meets fmt, with fmt's text TOLD by the authors' own Lean function (tested against real Go, not proved from fmt's source: count such statements apart). THE CARD IS WHAT COUNTS. Prove the row's statement (the work); the ties are given (YtdockaglpfejhaaGreatDoorTie.lean); close each card by the builder's one call (the guide's Derived/Test/ToyasCard.lean, 'card_holds'). Laid BY PROGRAM, IN A SANDBOX (cutbox-door.mjs). By AI agents, Wed Nov 11 2026. No macro, syntax, notation, axiom, sorry.
-/
import Derived.Test.YtdockaglpfejhaaGreatDoorRows
import GoSem.ClaimSeven
namespace Go.Proofs.YtdockaglpfejhaaGreatDoor
namespace Rows

/-- THE TIED CARD OF 'decanilaw10.PracticeKepts'. -/
def practiceKeptsCard : Claim7 := { stood := { row := practiceKeptsRow, standIns := [], harness := (true, "c29ee9e7d2f8e5b4b23798428a790e673e1e2270a7a51021ae00e48439bd4899"), looks := false }, kinds := [], alts := [], laidByText := true, laidKinds := [.data, .data, .funcs, .data, .funcs, .data, .data, .funcs], laidTests := true, laidLooks := .later }
def PracticeKeptsCardSaid : Prop := Claim7.holds Tryz.pinned (.plain (OpenSpec.ofChange practiceKeptsSpec)) practiceKeptsCard

/-- THE TIED CARD OF 'decanilaw10.PracticePlans'. -/
def practicePlansCard : Claim7 := { stood := { row := practicePlansRow, standIns := [], harness := (true, "c29ee9e7d2f8e5b4b23798428a790e673e1e2270a7a51021ae00e48439bd4899"), looks := false }, kinds := [], alts := [], laidByText := true, laidKinds := [.data, .data, .funcs, .data, .funcs, .data, .data, .funcs], laidTests := true, laidLooks := .later }
def PracticePlansCardSaid : Prop := Claim7.holds Tryz.pinned (.plain (OpenSpec.ofChange practicePlansSpec)) practicePlansCard

/-- THE TIED CARD OF 'decanilaw10.PracticeTrue'. -/
def practiceTrueCard : Claim7 := { stood := { row := practiceTrueRow, standIns := [], harness := (true, "c29ee9e7d2f8e5b4b23798428a790e673e1e2270a7a51021ae00e48439bd4899"), looks := false }, kinds := [], alts := [], laidByText := true, laidKinds := [.data, .data, .funcs, .data, .funcs, .data, .data, .funcs], laidTests := true, laidLooks := .later }
def PracticeTrueCardSaid : Prop := Claim7.holds Tryz.pinned (.plain (OpenSpec.ofChange practiceTrueSpec)) practiceTrueCard

/-- THE TIED CARD OF 'decanilaw10.PracticePlan'. -/
def practicePlanCard : Claim7 := { stood := { row := practicePlanRow, standIns := [], harness := (true, "c29ee9e7d2f8e5b4b23798428a790e673e1e2270a7a51021ae00e48439bd4899"), looks := false }, kinds := [], alts := [], laidByText := true, laidKinds := [.data, .data, .funcs, .data, .funcs, .data, .data, .funcs], laidTests := true, laidLooks := .later }
def PracticePlanCardSaid : Prop := Claim7.holds Tryz.pinned (.plain (OpenSpec.ofChange practicePlanSpec)) practicePlanCard

/-- THE TIED CARD OF 'decanilaw10.PracticeSafe'. -/
def practiceSafeCard : Claim7 := { stood := { row := practiceSafeRow, standIns := [], harness := (true, "c29ee9e7d2f8e5b4b23798428a790e673e1e2270a7a51021ae00e48439bd4899"), looks := false }, kinds := [], alts := [], laidByText := true, laidKinds := [.data, .data, .funcs, .data, .funcs, .data, .data, .funcs], laidTests := true, laidLooks := .later }
def PracticeSafeCardSaid : Prop := Claim7.holds Tryz.pinned (.plain (OpenSpec.ofChange practiceSafeSpec)) practiceSafeCard

/-- THE TIED CARD OF 'decanilaw10.PracticeAlone'. -/
def practiceAloneCard : Claim7 := { stood := { row := practiceAloneRow, standIns := [], harness := (true, "c29ee9e7d2f8e5b4b23798428a790e673e1e2270a7a51021ae00e48439bd4899"), looks := false }, kinds := [], alts := [], laidByText := true, laidKinds := [.data, .data, .funcs, .data, .funcs, .data, .data, .funcs], laidTests := true, laidLooks := .later }
def PracticeAloneCardSaid : Prop := Claim7.holds Tryz.pinned (.plain (OpenSpec.ofChange practiceAloneSpec)) practiceAloneCard

/-- THE TIED CARD OF 'decanilaw10.PracticeKept'. -/
def practiceKeptCard : Claim7 := { stood := { row := practiceKeptRow, standIns := [], harness := (true, "c29ee9e7d2f8e5b4b23798428a790e673e1e2270a7a51021ae00e48439bd4899"), looks := false }, kinds := [], alts := [], laidByText := true, laidKinds := [.data, .data, .funcs, .data, .funcs, .data, .data, .funcs], laidTests := true, laidLooks := .later }
def PracticeKeptCardSaid : Prop := Claim7.holds Tryz.pinned (.plain (OpenSpec.ofChange practiceKeptSpec)) practiceKeptCard

/-- THE TIED CARD OF 'decanilaw10.PracticeWell'. -/
def practiceWellCard : Claim7 := { stood := { row := practiceWellRow, standIns := [], harness := (true, "c29ee9e7d2f8e5b4b23798428a790e673e1e2270a7a51021ae00e48439bd4899"), looks := false }, kinds := [], alts := [], laidByText := true, laidKinds := [.data, .data, .funcs, .data, .funcs, .data, .data, .funcs], laidTests := true, laidLooks := .later }
def PracticeWellCardSaid : Prop := Claim7.holds Tryz.pinned (.plain (OpenSpec.ofChange practiceWellSpec)) practiceWellCard

/-- THE TIED CARD OF 'decanilaw10.PracticeMore'. -/
def practiceMoreCard : Claim7 := { stood := { row := practiceMoreRow, standIns := [], harness := (true, "c29ee9e7d2f8e5b4b23798428a790e673e1e2270a7a51021ae00e48439bd4899"), looks := false }, kinds := [], alts := [], laidByText := true, laidKinds := [.data, .data, .funcs, .data, .funcs, .data, .data, .funcs], laidTests := true, laidLooks := .later }
def PracticeMoreCardSaid : Prop := Claim7.holds Tryz.pinned (.plain (OpenSpec.ofChange practiceMoreSpec)) practiceMoreCard

/-- THE TIED CARD OF 'decanilaw10.PracticeFirst'. -/
def practiceFirstCard : Claim7 := { stood := { row := practiceFirstRow, standIns := [], harness := (true, "c29ee9e7d2f8e5b4b23798428a790e673e1e2270a7a51021ae00e48439bd4899"), looks := false }, kinds := [], alts := [], laidByText := true, laidKinds := [.data, .data, .funcs, .data, .funcs, .data, .data, .funcs], laidTests := true, laidLooks := .later }
def PracticeFirstCardSaid : Prop := Claim7.holds Tryz.pinned (.plain (OpenSpec.ofChange practiceFirstSpec)) practiceFirstCard

/-- THE TIED CARD OF 'decanilaw10.PracticeKnown'. -/
def practiceKnownCard : Claim7 := { stood := { row := practiceKnownRow, standIns := [], harness := (true, "c29ee9e7d2f8e5b4b23798428a790e673e1e2270a7a51021ae00e48439bd4899"), looks := false }, kinds := [], alts := [], laidByText := true, laidKinds := [.data, .data, .funcs, .data, .funcs, .data, .data, .funcs], laidTests := true, laidLooks := .later }
def PracticeKnownCardSaid : Prop := Claim7.holds Tryz.pinned (.plain (OpenSpec.ofChange practiceKnownSpec)) practiceKnownCard

/-- THE SECOND FORM's CARD OF 'decanilaw10.PracticeKepts'. -/
def practiceKeptsUptoCard : Claim7 := { stood := { row := practiceKeptsUptoRow, standIns := [], harness := (true, "c29ee9e7d2f8e5b4b23798428a790e673e1e2270a7a51021ae00e48439bd4899"), looks := false }, kinds := [], alts := [], laidByText := true, laidKinds := [.data, .data, .funcs, .data, .funcs, .data, .data, .funcs], laidTests := true, laidLooks := .later }
def PracticeKeptsUptoCardSaid : Prop := Claim7.holds Tryz.pinned (.plain (OpenSpec.upto practiceKeptsSpec)) practiceKeptsUptoCard

/-- THE SECOND FORM's CARD OF 'decanilaw10.PracticePlans'. -/
def practicePlansUptoCard : Claim7 := { stood := { row := practicePlansUptoRow, standIns := [], harness := (true, "c29ee9e7d2f8e5b4b23798428a790e673e1e2270a7a51021ae00e48439bd4899"), looks := false }, kinds := [], alts := [], laidByText := true, laidKinds := [.data, .data, .funcs, .data, .funcs, .data, .data, .funcs], laidTests := true, laidLooks := .later }
def PracticePlansUptoCardSaid : Prop := Claim7.holds Tryz.pinned (.plain (OpenSpec.upto practicePlansSpec)) practicePlansUptoCard

/-- THE SECOND FORM's CARD OF 'decanilaw10.PracticeTrue'. -/
def practiceTrueUptoCard : Claim7 := { stood := { row := practiceTrueUptoRow, standIns := [], harness := (true, "c29ee9e7d2f8e5b4b23798428a790e673e1e2270a7a51021ae00e48439bd4899"), looks := false }, kinds := [], alts := [], laidByText := true, laidKinds := [.data, .data, .funcs, .data, .funcs, .data, .data, .funcs], laidTests := true, laidLooks := .later }
def PracticeTrueUptoCardSaid : Prop := Claim7.holds Tryz.pinned (.plain (OpenSpec.upto practiceTrueSpec)) practiceTrueUptoCard

/-- THE SECOND FORM's CARD OF 'decanilaw10.PracticePlan'. -/
def practicePlanUptoCard : Claim7 := { stood := { row := practicePlanUptoRow, standIns := [], harness := (true, "c29ee9e7d2f8e5b4b23798428a790e673e1e2270a7a51021ae00e48439bd4899"), looks := false }, kinds := [], alts := [], laidByText := true, laidKinds := [.data, .data, .funcs, .data, .funcs, .data, .data, .funcs], laidTests := true, laidLooks := .later }
def PracticePlanUptoCardSaid : Prop := Claim7.holds Tryz.pinned (.plain (OpenSpec.upto practicePlanSpec)) practicePlanUptoCard

/-- THE SECOND FORM's CARD OF 'decanilaw10.PracticeSafe'. -/
def practiceSafeUptoCard : Claim7 := { stood := { row := practiceSafeUptoRow, standIns := [], harness := (true, "c29ee9e7d2f8e5b4b23798428a790e673e1e2270a7a51021ae00e48439bd4899"), looks := false }, kinds := [], alts := [], laidByText := true, laidKinds := [.data, .data, .funcs, .data, .funcs, .data, .data, .funcs], laidTests := true, laidLooks := .later }
def PracticeSafeUptoCardSaid : Prop := Claim7.holds Tryz.pinned (.plain (OpenSpec.upto practiceSafeSpec)) practiceSafeUptoCard

/-- THE SECOND FORM's CARD OF 'decanilaw10.PracticeAlone'. -/
def practiceAloneUptoCard : Claim7 := { stood := { row := practiceAloneUptoRow, standIns := [], harness := (true, "c29ee9e7d2f8e5b4b23798428a790e673e1e2270a7a51021ae00e48439bd4899"), looks := false }, kinds := [], alts := [], laidByText := true, laidKinds := [.data, .data, .funcs, .data, .funcs, .data, .data, .funcs], laidTests := true, laidLooks := .later }
def PracticeAloneUptoCardSaid : Prop := Claim7.holds Tryz.pinned (.plain (OpenSpec.upto practiceAloneSpec)) practiceAloneUptoCard

/-- THE SECOND FORM's CARD OF 'decanilaw10.PracticeKept'. -/
def practiceKeptUptoCard : Claim7 := { stood := { row := practiceKeptUptoRow, standIns := [], harness := (true, "c29ee9e7d2f8e5b4b23798428a790e673e1e2270a7a51021ae00e48439bd4899"), looks := false }, kinds := [], alts := [], laidByText := true, laidKinds := [.data, .data, .funcs, .data, .funcs, .data, .data, .funcs], laidTests := true, laidLooks := .later }
def PracticeKeptUptoCardSaid : Prop := Claim7.holds Tryz.pinned (.plain (OpenSpec.upto practiceKeptSpec)) practiceKeptUptoCard

/-- THE SECOND FORM's CARD OF 'decanilaw10.PracticeWell'. -/
def practiceWellUptoCard : Claim7 := { stood := { row := practiceWellUptoRow, standIns := [], harness := (true, "c29ee9e7d2f8e5b4b23798428a790e673e1e2270a7a51021ae00e48439bd4899"), looks := false }, kinds := [], alts := [], laidByText := true, laidKinds := [.data, .data, .funcs, .data, .funcs, .data, .data, .funcs], laidTests := true, laidLooks := .later }
def PracticeWellUptoCardSaid : Prop := Claim7.holds Tryz.pinned (.plain (OpenSpec.upto practiceWellSpec)) practiceWellUptoCard

/-- THE SECOND FORM's CARD OF 'decanilaw10.PracticeMore'. -/
def practiceMoreUptoCard : Claim7 := { stood := { row := practiceMoreUptoRow, standIns := [], harness := (true, "c29ee9e7d2f8e5b4b23798428a790e673e1e2270a7a51021ae00e48439bd4899"), looks := false }, kinds := [], alts := [], laidByText := true, laidKinds := [.data, .data, .funcs, .data, .funcs, .data, .data, .funcs], laidTests := true, laidLooks := .later }
def PracticeMoreUptoCardSaid : Prop := Claim7.holds Tryz.pinned (.plain (OpenSpec.upto practiceMoreSpec)) practiceMoreUptoCard

/-- THE SECOND FORM's CARD OF 'decanilaw10.PracticeFirst'. -/
def practiceFirstUptoCard : Claim7 := { stood := { row := practiceFirstUptoRow, standIns := [], harness := (true, "c29ee9e7d2f8e5b4b23798428a790e673e1e2270a7a51021ae00e48439bd4899"), looks := false }, kinds := [], alts := [], laidByText := true, laidKinds := [.data, .data, .funcs, .data, .funcs, .data, .data, .funcs], laidTests := true, laidLooks := .later }
def PracticeFirstUptoCardSaid : Prop := Claim7.holds Tryz.pinned (.plain (OpenSpec.upto practiceFirstSpec)) practiceFirstUptoCard

/-- THE SECOND FORM's CARD OF 'decanilaw10.PracticeKnown'. -/
def practiceKnownUptoCard : Claim7 := { stood := { row := practiceKnownUptoRow, standIns := [], harness := (true, "c29ee9e7d2f8e5b4b23798428a790e673e1e2270a7a51021ae00e48439bd4899"), looks := false }, kinds := [], alts := [], laidByText := true, laidKinds := [.data, .data, .funcs, .data, .funcs, .data, .data, .funcs], laidTests := true, laidLooks := .later }
def PracticeKnownUptoCardSaid : Prop := Claim7.holds Tryz.pinned (.plain (OpenSpec.upto practiceKnownSpec)) practiceKnownUptoCard
end Rows
end Go.Proofs.YtdockaglpfejhaaGreatDoor
