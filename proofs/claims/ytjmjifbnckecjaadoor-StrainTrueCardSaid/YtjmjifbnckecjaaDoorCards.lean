/-
  DERIVED. GIVEN WITH THE SEED: THE CARDS: each row of YtjmjifbnckecjaaDoorRows.lean that lists a variable, with what it lists TIED to the program's text (the seventh form; the later family's looks); each row that meets fmt, with fmt's text TOLD by the authors' own Lean function (tested against real Go, not proved from fmt's source: count such statements apart). THE CARD IS WHAT COUNTS. Prove the row's statement (the work); the ties are given (YtjmjifbnckecjaaDoorTie.lean); close each card by the builder's one call (the guide's Derived/Test/ToyasCard.lean, 'card_holds'). Laid BY PROGRAM, IN A SANDBOX (cutbox-door.mjs). By AI agents, Wed Nov 11 2026. No macro, syntax, notation, axiom, sorry.
-/
import Derived.Test.YtjmjifbnckecjaaDoorRows
import GoSem.ClaimSeven
namespace Go.Proofs.YtjmjifbnckecjaaDoor
namespace Rows

/-- THE TIED CARD OF 'decanilaw04.StrainFits'. -/
def strainFitsCard : Claim7 := { stood := { row := strainFitsRow, standIns := [], harness := (true, "020f958e95988743d1e347f53d218a9a927e4240d60c5912d862e6fb65aee05e"), looks := false }, kinds := [], alts := [], laidByText := true, laidKinds := [.data, .funcs], laidTests := true, laidLooks := .later }
def StrainFitsCardSaid : Prop := Claim7.holds Tryd.pinned (.plain (OpenSpec.ofChange strainFitsSpec)) strainFitsCard

/-- THE TIED CARD OF 'decanilaw04.StrainFirst'. -/
def strainFirstCard : Claim7 := { stood := { row := strainFirstRow, standIns := [], harness := (true, "020f958e95988743d1e347f53d218a9a927e4240d60c5912d862e6fb65aee05e"), looks := false }, kinds := [], alts := [], laidByText := true, laidKinds := [.data, .funcs], laidTests := true, laidLooks := .later }
def StrainFirstCardSaid : Prop := Claim7.holds Tryd.pinned (.plain (OpenSpec.ofChange strainFirstSpec)) strainFirstCard

/-- THE TIED CARD OF 'decanilaw04.StrainRules'. -/
def strainRulesCard : Claim7 := { stood := { row := strainRulesRow, standIns := [], harness := (true, "020f958e95988743d1e347f53d218a9a927e4240d60c5912d862e6fb65aee05e"), looks := false }, kinds := [], alts := [], laidByText := true, laidKinds := [.data, .funcs], laidTests := true, laidLooks := .later }
def StrainRulesCardSaid : Prop := Claim7.holds Tryd.pinned (.plain (OpenSpec.ofChange strainRulesSpec)) strainRulesCard

/-- THE TIED CARD OF 'decanilaw04.StrainRest'. -/
def strainRestCard : Claim7 := { stood := { row := strainRestRow, standIns := [], harness := (true, "020f958e95988743d1e347f53d218a9a927e4240d60c5912d862e6fb65aee05e"), looks := false }, kinds := [], alts := [], laidByText := true, laidKinds := [.data, .funcs], laidTests := true, laidLooks := .later }
def StrainRestCardSaid : Prop := Claim7.holds Tryd.pinned (.plain (OpenSpec.ofChange strainRestSpec)) strainRestCard

/-- THE TIED CARD OF 'decanilaw04.StrainLefts'. -/
def strainLeftsCard : Claim7 := { stood := { row := strainLeftsRow, standIns := [], harness := (true, "020f958e95988743d1e347f53d218a9a927e4240d60c5912d862e6fb65aee05e"), looks := false }, kinds := [], alts := [], laidByText := true, laidKinds := [.data, .funcs], laidTests := true, laidLooks := .later }
def StrainLeftsCardSaid : Prop := Claim7.holds Tryd.pinned (.plain (OpenSpec.ofChange strainLeftsSpec)) strainLeftsCard

/-- THE TIED CARD OF 'decanilaw04.StrainTrue'. -/
def strainTrueCard : Claim7 := { stood := { row := strainTrueRow, standIns := [], harness := (true, "020f958e95988743d1e347f53d218a9a927e4240d60c5912d862e6fb65aee05e"), looks := false }, kinds := [], alts := [], laidByText := true, laidKinds := [.data, .funcs], laidTests := true, laidLooks := .later }
def StrainTrueCardSaid : Prop := Claim7.holds Tryd.pinned (.plain (OpenSpec.ofChange strainTrueSpec)) strainTrueCard

/-- THE TIED CARD OF 'decanilaw04.StrainEnds'. -/
def strainEndsCard : Claim7 := { stood := { row := strainEndsRow, standIns := [], harness := (true, "020f958e95988743d1e347f53d218a9a927e4240d60c5912d862e6fb65aee05e"), looks := false }, kinds := [], alts := [], laidByText := true, laidKinds := [.data, .funcs], laidTests := true, laidLooks := .later }
def StrainEndsCardSaid : Prop := Claim7.holds Tryd.pinned (.plain (OpenSpec.ofChange strainEndsSpec)) strainEndsCard

/-- THE TIED CARD OF 'decanilaw04.StrainMore'. -/
def strainMoreCard : Claim7 := { stood := { row := strainMoreRow, standIns := [], harness := (true, "020f958e95988743d1e347f53d218a9a927e4240d60c5912d862e6fb65aee05e"), looks := false }, kinds := [], alts := [], laidByText := true, laidKinds := [.data, .funcs], laidTests := true, laidLooks := .later }
def StrainMoreCardSaid : Prop := Claim7.holds Tryd.pinned (.plain (OpenSpec.ofChange strainMoreSpec)) strainMoreCard

/-- THE TIED CARD OF 'decanilaw04.StrainPlan'. -/
def strainPlanCard : Claim7 := { stood := { row := strainPlanRow, standIns := [], harness := (true, "020f958e95988743d1e347f53d218a9a927e4240d60c5912d862e6fb65aee05e"), looks := false }, kinds := [], alts := [], laidByText := true, laidKinds := [.data, .funcs], laidTests := true, laidLooks := .later }
def StrainPlanCardSaid : Prop := Claim7.holds Tryd.pinned (.plain (OpenSpec.ofChange strainPlanSpec)) strainPlanCard

/-- THE TIED CARD OF 'decanilaw04.StrainWrong'. -/
def strainWrongCard : Claim7 := { stood := { row := strainWrongRow, standIns := [], harness := (true, "020f958e95988743d1e347f53d218a9a927e4240d60c5912d862e6fb65aee05e"), looks := false }, kinds := [], alts := [], laidByText := true, laidKinds := [.data, .funcs], laidTests := true, laidLooks := .later }
def StrainWrongCardSaid : Prop := Claim7.holds Tryd.pinned (.plain (OpenSpec.ofChange strainWrongSpec)) strainWrongCard

/-- THE TIED CARD OF 'decanilaw04.StrainKnown'. -/
def strainKnownCard : Claim7 := { stood := { row := strainKnownRow, standIns := [], harness := (true, "020f958e95988743d1e347f53d218a9a927e4240d60c5912d862e6fb65aee05e"), looks := false }, kinds := [], alts := [], laidByText := true, laidKinds := [.data, .funcs], laidTests := true, laidLooks := .later }
def StrainKnownCardSaid : Prop := Claim7.holds Tryd.pinned (.plain (OpenSpec.ofChange strainKnownSpec)) strainKnownCard

/-- THE SECOND FORM's CARD OF 'decanilaw04.StrainFits'. -/
def strainFitsUptoCard : Claim7 := { stood := { row := strainFitsUptoRow, standIns := [], harness := (true, "020f958e95988743d1e347f53d218a9a927e4240d60c5912d862e6fb65aee05e"), looks := false }, kinds := [], alts := [], laidByText := true, laidKinds := [.data, .funcs], laidTests := true, laidLooks := .later }
def StrainFitsUptoCardSaid : Prop := Claim7.holds Tryd.pinned (.plain (OpenSpec.upto strainFitsSpec)) strainFitsUptoCard

/-- THE SECOND FORM's CARD OF 'decanilaw04.StrainFirst'. -/
def strainFirstUptoCard : Claim7 := { stood := { row := strainFirstUptoRow, standIns := [], harness := (true, "020f958e95988743d1e347f53d218a9a927e4240d60c5912d862e6fb65aee05e"), looks := false }, kinds := [], alts := [], laidByText := true, laidKinds := [.data, .funcs], laidTests := true, laidLooks := .later }
def StrainFirstUptoCardSaid : Prop := Claim7.holds Tryd.pinned (.plain (OpenSpec.upto strainFirstSpec)) strainFirstUptoCard

/-- THE SECOND FORM's CARD OF 'decanilaw04.StrainRules'. -/
def strainRulesUptoCard : Claim7 := { stood := { row := strainRulesUptoRow, standIns := [], harness := (true, "020f958e95988743d1e347f53d218a9a927e4240d60c5912d862e6fb65aee05e"), looks := false }, kinds := [], alts := [], laidByText := true, laidKinds := [.data, .funcs], laidTests := true, laidLooks := .later }
def StrainRulesUptoCardSaid : Prop := Claim7.holds Tryd.pinned (.plain (OpenSpec.upto strainRulesSpec)) strainRulesUptoCard

/-- THE SECOND FORM's CARD OF 'decanilaw04.StrainRest'. -/
def strainRestUptoCard : Claim7 := { stood := { row := strainRestUptoRow, standIns := [], harness := (true, "020f958e95988743d1e347f53d218a9a927e4240d60c5912d862e6fb65aee05e"), looks := false }, kinds := [], alts := [], laidByText := true, laidKinds := [.data, .funcs], laidTests := true, laidLooks := .later }
def StrainRestUptoCardSaid : Prop := Claim7.holds Tryd.pinned (.plain (OpenSpec.upto strainRestSpec)) strainRestUptoCard

/-- THE SECOND FORM's CARD OF 'decanilaw04.StrainLefts'. -/
def strainLeftsUptoCard : Claim7 := { stood := { row := strainLeftsUptoRow, standIns := [], harness := (true, "020f958e95988743d1e347f53d218a9a927e4240d60c5912d862e6fb65aee05e"), looks := false }, kinds := [], alts := [], laidByText := true, laidKinds := [.data, .funcs], laidTests := true, laidLooks := .later }
def StrainLeftsUptoCardSaid : Prop := Claim7.holds Tryd.pinned (.plain (OpenSpec.upto strainLeftsSpec)) strainLeftsUptoCard

/-- THE SECOND FORM's CARD OF 'decanilaw04.StrainTrue'. -/
def strainTrueUptoCard : Claim7 := { stood := { row := strainTrueUptoRow, standIns := [], harness := (true, "020f958e95988743d1e347f53d218a9a927e4240d60c5912d862e6fb65aee05e"), looks := false }, kinds := [], alts := [], laidByText := true, laidKinds := [.data, .funcs], laidTests := true, laidLooks := .later }
def StrainTrueUptoCardSaid : Prop := Claim7.holds Tryd.pinned (.plain (OpenSpec.upto strainTrueSpec)) strainTrueUptoCard

/-- THE SECOND FORM's CARD OF 'decanilaw04.StrainEnds'. -/
def strainEndsUptoCard : Claim7 := { stood := { row := strainEndsUptoRow, standIns := [], harness := (true, "020f958e95988743d1e347f53d218a9a927e4240d60c5912d862e6fb65aee05e"), looks := false }, kinds := [], alts := [], laidByText := true, laidKinds := [.data, .funcs], laidTests := true, laidLooks := .later }
def StrainEndsUptoCardSaid : Prop := Claim7.holds Tryd.pinned (.plain (OpenSpec.upto strainEndsSpec)) strainEndsUptoCard

/-- THE SECOND FORM's CARD OF 'decanilaw04.StrainMore'. -/
def strainMoreUptoCard : Claim7 := { stood := { row := strainMoreUptoRow, standIns := [], harness := (true, "020f958e95988743d1e347f53d218a9a927e4240d60c5912d862e6fb65aee05e"), looks := false }, kinds := [], alts := [], laidByText := true, laidKinds := [.data, .funcs], laidTests := true, laidLooks := .later }
def StrainMoreUptoCardSaid : Prop := Claim7.holds Tryd.pinned (.plain (OpenSpec.upto strainMoreSpec)) strainMoreUptoCard

/-- THE SECOND FORM's CARD OF 'decanilaw04.StrainPlan'. -/
def strainPlanUptoCard : Claim7 := { stood := { row := strainPlanUptoRow, standIns := [], harness := (true, "020f958e95988743d1e347f53d218a9a927e4240d60c5912d862e6fb65aee05e"), looks := false }, kinds := [], alts := [], laidByText := true, laidKinds := [.data, .funcs], laidTests := true, laidLooks := .later }
def StrainPlanUptoCardSaid : Prop := Claim7.holds Tryd.pinned (.plain (OpenSpec.upto strainPlanSpec)) strainPlanUptoCard

/-- THE SECOND FORM's CARD OF 'decanilaw04.StrainWrong'. -/
def strainWrongUptoCard : Claim7 := { stood := { row := strainWrongUptoRow, standIns := [], harness := (true, "020f958e95988743d1e347f53d218a9a927e4240d60c5912d862e6fb65aee05e"), looks := false }, kinds := [], alts := [], laidByText := true, laidKinds := [.data, .funcs], laidTests := true, laidLooks := .later }
def StrainWrongUptoCardSaid : Prop := Claim7.holds Tryd.pinned (.plain (OpenSpec.upto strainWrongSpec)) strainWrongUptoCard

/-- THE SECOND FORM's CARD OF 'decanilaw04.StrainKnown'. -/
def strainKnownUptoCard : Claim7 := { stood := { row := strainKnownUptoRow, standIns := [], harness := (true, "020f958e95988743d1e347f53d218a9a927e4240d60c5912d862e6fb65aee05e"), looks := false }, kinds := [], alts := [], laidByText := true, laidKinds := [.data, .funcs], laidTests := true, laidLooks := .later }
def StrainKnownUptoCardSaid : Prop := Claim7.holds Tryd.pinned (.plain (OpenSpec.upto strainKnownSpec)) strainKnownUptoCard
end Rows
end Go.Proofs.YtjmjifbnckecjaaDoor
