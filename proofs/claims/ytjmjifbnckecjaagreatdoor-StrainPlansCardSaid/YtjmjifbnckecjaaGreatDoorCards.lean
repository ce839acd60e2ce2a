/-
  DERIVED. GIVEN WITH THE SEED: THE CARDS: each row of YtjmjifbnckecjaaGreatDoorRows.lean that lists a variable, with what it lists TIED to the program's text (the seventh form; the later family's looks); each row that meets fmt, with fmt's text TOLD by the authors' own Lean function (tested against real Go, not proved from fmt's source: count such statements apart). THE CARD IS WHAT COUNTS. Prove the row's statement (the work); the ties are given (YtjmjifbnckecjaaGreatDoorTie.lean); close each card by the builder's one call (the guide's Derived/Test/ToyasCard.lean, 'card_holds'). Laid BY PROGRAM, IN A SANDBOX (cutbox-door.mjs). By AI agents, Wed Nov 11 2026. No macro, syntax, notation, axiom, sorry.
-/
import Derived.Test.YtjmjifbnckecjaaGreatDoorRows
import GoSem.ClaimSeven
namespace Go.Proofs.YtjmjifbnckecjaaGreatDoor
namespace Rows

/-- THE TIED CARD OF 'decanilaw04.StrainPlans'. -/
def strainPlansCard : Claim7 := { stood := { row := strainPlansRow, standIns := [], harness := (true, "4fefbb4dd47b4bdf763753c13b8f9c40f2c2eda488fd38aa088b7f7d0706f9df"), looks := false }, kinds := [], alts := [], laidByText := true, laidKinds := [.data, .funcs], laidTests := true, laidLooks := .later }
def StrainPlansCardSaid : Prop := Claim7.holds Tryz.pinned (.plain (OpenSpec.ofChange strainPlansSpec)) strainPlansCard

/-- THE SECOND FORM's CARD OF 'decanilaw04.StrainPlans'. -/
def strainPlansUptoCard : Claim7 := { stood := { row := strainPlansUptoRow, standIns := [], harness := (true, "4fefbb4dd47b4bdf763753c13b8f9c40f2c2eda488fd38aa088b7f7d0706f9df"), looks := false }, kinds := [], alts := [], laidByText := true, laidKinds := [.data, .funcs], laidTests := true, laidLooks := .later }
def StrainPlansUptoCardSaid : Prop := Claim7.holds Tryz.pinned (.plain (OpenSpec.upto strainPlansSpec)) strainPlansUptoCard
end Rows
end Go.Proofs.YtjmjifbnckecjaaGreatDoor
