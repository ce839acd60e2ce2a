/-
  NARROWER THAN 'FOR EVERY INPUT', by the rows' own cells (each row's printed sentence says how): PracticeKepts: laid · PracticePlans: laid · PracticeTrue: laid · PracticePlan: laid · PracticeSafe: laid · PracticeAlone: laid · PracticeKept: laid · PracticeWell: laid · PracticeMore: laid · PracticeFirst: laid · PracticeKnown: laid.
  DERIVED. THE GIVEN ROWS OF THIS SEAT. 11 by the template 'for every input the law returns true; each argument reads behind the call as it read before'; 0 by the template 'total and deterministic' (their statements: YtdockaglpfejhaaGreatDoorTotals.lean).
  GIVEN WITH THE SEED: the statements are not yours to turn. If you find one false, say at which input.
  Laid BY PROGRAM, IN A SANDBOX (cutbox-rows.mjs): the forced cells as the released guide's own fill.sh prints them over the translation 588eb91c31886563… (all of the seat's roots in one cut). By AI agents, Wed Nov 11 2026. No macro, syntax, notation, axiom, sorry.
-/
import Derived.Test.YtdockaglpfejhaaGreatDoorChecked
import GoSem.Claim
import GoSem.ClaimJoined
import GoSem.ClaimMapViews
import Derived.JoinedTies
import Derived.KernelRfl
namespace Go.Proofs.YtdockaglpfejhaaGreatDoor
/- THE CELL 'sum', in the pinned program and in every row, IS THE sha256 OF THE DUMP (.gsa) THAT YtdockaglpfejhaaGreatDoorProg.lean LOADS. Nothing in Lean hashes anything: it is a label: what it is worth is what the hold of that sum in a sandbox is worth. -/
noncomputable def Tryz.pinned : Pinned := { name := "ytdockaglpfejhaagreatdoor", sum := "588eb91c3188656335e808a49748ceb6a52555a341cd91855659d4ca4e7ec786", checked := Tryz.checked }
namespace Rows
def none {H : Type} : Left H := { results := [], args := [] }

/- WHAT THE LISTED PACKAGE-LEVEL VARIABLES READ AS WHEN THE CALL BEGINS. Each datum BY PROGRAM (the guide's laid-datum.mjs) off the statement by which the dump's own 'gosem.cut.vars' lays the variable. In a bare row this is a premise. The card (YtdockaglpfejhaaGreatDoorCards.lean) ties it to the program's text. -/
def laid_decani_cold_nobody {H : Type} : DataW H := .agg [.lit (.int .i64 (-1)), .lit (.int .i64 (-1)), .lit (.int .i64 (-1)), .lit (.int .i64 (-1)), .lit (.int .i64 (-1))]
def laid_decani_cold_nowhere {H : Type} : DataW H := .agg [.lit (.int .i64 (-1)), .lit (.int .i64 (-1))]
def laid_decani_cold_kinds {H : Type} : DataW H := .iface "func table" (.agg [.iface "func" (.lit (.string [40, 100, 101, 99, 97, 110, 105, 47, 99, 111, 108, 100, 46, 118, 111, 116, 101, 115, 41, 46, 115, 111, 109, 101])), .iface "func" (.lit (.string [40, 100, 101, 99, 97, 110, 105, 47, 99, 111, 108, 100, 46, 118, 111, 116, 101, 115, 41, 46, 101, 97, 99, 104]))])
def laid_decani_strain_nowhere {H : Type} : DataW H := .agg [.lit (.int .i64 (-1)), .lit (.int .i64 (-1))]
def laid_decani_strain_ways {H : Type} : DataW H := .iface "func table" (.agg [.iface "func" (.lit (.string [40, 100, 101, 99, 97, 110, 105, 47, 115, 116, 114, 97, 105, 110, 46, 99, 111, 115, 116, 115, 41, 46, 114, 101, 115, 116])), .iface "func" (.lit (.string [40, 100, 101, 99, 97, 110, 105, 47, 115, 116, 114, 97, 105, 110, 46, 99, 111, 115, 116, 115, 41, 46, 115, 105, 110, 103]))])
def laid_decani_practice_unheld {H : Type} : DataW H := .agg [.lit (.int .i64 9), .lit (.int .i64 9), .lit (.int .i64 9)]
def laid_decani_practice_nowhere {H : Type} : DataW H := .agg [.lit (.int .i64 (-1)), .lit (.int .i64 (-1))]
def laid_decani_practice_counts {H : Type} : DataW H := .iface "func table" (.agg [.iface "func" (.lit (.string [40, 100, 101, 99, 97, 110, 105, 47, 112, 114, 97, 99, 116, 105, 99, 101, 46, 112, 108, 97, 110, 41, 46, 104, 111, 108, 100, 115])), .iface "func" (.lit (.string [40, 100, 101, 99, 97, 110, 105, 47, 112, 114, 97, 99, 116, 105, 99, 101, 46, 112, 108, 97, 110, 41, 46, 107, 101, 101, 112, 115]))])

/-- 'decanilaw10.PracticeKepts': WHATEVER THE INPUT: true; the input reads as it did. -/
def practiceKeptsSpec : ChangeSpec := { name := "practiceKepts", fn := fun _ => fun
  | [d1, d2] => { results := [.lit (.bool true)], args := [d1, d2] }
  | _ => none }
def practiceKeptsRow : OpenClaim := { program := "ytdockaglpfejhaagreatdoor", sum := "588eb91c3188656335e808a49748ceb6a52555a341cd91855659d4ca4e7ec786", func := "decani/decanilaw10.PracticeKepts", spec := "practiceKepts", unfollowed := true, recurses := true, named := ["decani/cold.nowhere", "decani/cold.nobody", "decani/strain.nowhere", "decani/strain.ways", "decani/practice.nowhere", "decani/cold.kinds", "decani/practice.unheld", "decani/practice.counts"], plainKeys := false, apart := false, laid := [("decani/cold.nobody", laid_decani_cold_nobody), ("decani/cold.nowhere", laid_decani_cold_nowhere), ("decani/cold.kinds", laid_decani_cold_kinds), ("decani/strain.nowhere", laid_decani_strain_nowhere), ("decani/strain.ways", laid_decani_strain_ways), ("decani/practice.unheld", laid_decani_practice_unheld), ("decani/practice.nowhere", laid_decani_practice_nowhere), ("decani/practice.counts", laid_decani_practice_counts)] }
def PracticeKeptsSaid : Prop := practiceKeptsRow.holds Tryz.pinned (OpenSpec.ofChange practiceKeptsSpec)

/-- ITS FALSE NEIGHBOUR: 'it returns false'. Refute it at one input. -/
def practiceKeptsWrong : ChangeSpec := { name := "practiceKepts", fn := fun _ => fun
  | [d1, d2] => { results := [.lit (.bool false)], args := [d1, d2] }
  | _ => none }
def PracticeKeptsWrongFalsely : Prop := practiceKeptsRow.holds Tryz.pinned (OpenSpec.ofChange practiceKeptsWrong)

/-- 'decanilaw10.PracticePlans': WHATEVER THE INPUT: true; the input reads as it did. -/
def practicePlansSpec : ChangeSpec := { name := "practicePlans", fn := fun _ => fun
  | [d1, d2] => { results := [.lit (.bool true)], args := [d1, d2] }
  | _ => none }
def practicePlansRow : OpenClaim := { program := "ytdockaglpfejhaagreatdoor", sum := "588eb91c3188656335e808a49748ceb6a52555a341cd91855659d4ca4e7ec786", func := "decani/decanilaw10.PracticePlans", spec := "practicePlans", unfollowed := true, recurses := true, named := ["decani/cold.nowhere", "decani/cold.nobody", "decani/strain.nowhere", "decani/strain.ways", "decani/practice.nowhere", "decani/cold.kinds", "decani/practice.unheld", "decani/practice.counts"], plainKeys := false, apart := false, laid := [("decani/cold.nobody", laid_decani_cold_nobody), ("decani/cold.nowhere", laid_decani_cold_nowhere), ("decani/cold.kinds", laid_decani_cold_kinds), ("decani/strain.nowhere", laid_decani_strain_nowhere), ("decani/strain.ways", laid_decani_strain_ways), ("decani/practice.unheld", laid_decani_practice_unheld), ("decani/practice.nowhere", laid_decani_practice_nowhere), ("decani/practice.counts", laid_decani_practice_counts)] }
def PracticePlansSaid : Prop := practicePlansRow.holds Tryz.pinned (OpenSpec.ofChange practicePlansSpec)

/-- ITS FALSE NEIGHBOUR: 'it returns false'. Refute it at one input. -/
def practicePlansWrong : ChangeSpec := { name := "practicePlans", fn := fun _ => fun
  | [d1, d2] => { results := [.lit (.bool false)], args := [d1, d2] }
  | _ => none }
def PracticePlansWrongFalsely : Prop := practicePlansRow.holds Tryz.pinned (OpenSpec.ofChange practicePlansWrong)

/-- 'decanilaw10.PracticeTrue': WHATEVER THE INPUT: true; the input reads as it did. -/
def practiceTrueSpec : ChangeSpec := { name := "practiceTrue", fn := fun _ => fun
  | [d1, d2] => { results := [.lit (.bool true)], args := [d1, d2] }
  | _ => none }
def practiceTrueRow : OpenClaim := { program := "ytdockaglpfejhaagreatdoor", sum := "588eb91c3188656335e808a49748ceb6a52555a341cd91855659d4ca4e7ec786", func := "decani/decanilaw10.PracticeTrue", spec := "practiceTrue", unfollowed := true, recurses := true, named := ["decani/cold.nowhere", "decani/cold.nobody", "decani/strain.nowhere", "decani/strain.ways", "decani/practice.nowhere", "decani/cold.kinds", "decani/practice.unheld", "decani/practice.counts"], plainKeys := false, apart := false, laid := [("decani/cold.nobody", laid_decani_cold_nobody), ("decani/cold.nowhere", laid_decani_cold_nowhere), ("decani/cold.kinds", laid_decani_cold_kinds), ("decani/strain.nowhere", laid_decani_strain_nowhere), ("decani/strain.ways", laid_decani_strain_ways), ("decani/practice.unheld", laid_decani_practice_unheld), ("decani/practice.nowhere", laid_decani_practice_nowhere), ("decani/practice.counts", laid_decani_practice_counts)] }
def PracticeTrueSaid : Prop := practiceTrueRow.holds Tryz.pinned (OpenSpec.ofChange practiceTrueSpec)

/-- ITS FALSE NEIGHBOUR: 'it returns false'. Refute it at one input. -/
def practiceTrueWrong : ChangeSpec := { name := "practiceTrue", fn := fun _ => fun
  | [d1, d2] => { results := [.lit (.bool false)], args := [d1, d2] }
  | _ => none }
def PracticeTrueWrongFalsely : Prop := practiceTrueRow.holds Tryz.pinned (OpenSpec.ofChange practiceTrueWrong)

/-- 'decanilaw10.PracticePlan': WHATEVER THE INPUT: true; the input reads as it did. -/
def practicePlanSpec : ChangeSpec := { name := "practicePlan", fn := fun _ => fun
  | [d1, d2] => { results := [.lit (.bool true)], args := [d1, d2] }
  | _ => none }
def practicePlanRow : OpenClaim := { program := "ytdockaglpfejhaagreatdoor", sum := "588eb91c3188656335e808a49748ceb6a52555a341cd91855659d4ca4e7ec786", func := "decani/decanilaw10.PracticePlan", spec := "practicePlan", unfollowed := true, recurses := true, named := ["decani/cold.nowhere", "decani/cold.nobody", "decani/strain.nowhere", "decani/strain.ways", "decani/practice.nowhere", "decani/cold.kinds", "decani/practice.counts", "decani/practice.unheld"], plainKeys := false, apart := false, laid := [("decani/cold.nobody", laid_decani_cold_nobody), ("decani/cold.nowhere", laid_decani_cold_nowhere), ("decani/cold.kinds", laid_decani_cold_kinds), ("decani/strain.nowhere", laid_decani_strain_nowhere), ("decani/strain.ways", laid_decani_strain_ways), ("decani/practice.unheld", laid_decani_practice_unheld), ("decani/practice.nowhere", laid_decani_practice_nowhere), ("decani/practice.counts", laid_decani_practice_counts)] }
def PracticePlanSaid : Prop := practicePlanRow.holds Tryz.pinned (OpenSpec.ofChange practicePlanSpec)

/-- ITS FALSE NEIGHBOUR: 'it returns false'. Refute it at one input. -/
def practicePlanWrong : ChangeSpec := { name := "practicePlan", fn := fun _ => fun
  | [d1, d2] => { results := [.lit (.bool false)], args := [d1, d2] }
  | _ => none }
def PracticePlanWrongFalsely : Prop := practicePlanRow.holds Tryz.pinned (OpenSpec.ofChange practicePlanWrong)

/-- 'decanilaw10.PracticeSafe': WHATEVER THE INPUT: true; the input reads as it did. -/
def practiceSafeSpec : ChangeSpec := { name := "practiceSafe", fn := fun _ => fun
  | [d1, d2] => { results := [.lit (.bool true)], args := [d1, d2] }
  | _ => none }
def practiceSafeRow : OpenClaim := { program := "ytdockaglpfejhaagreatdoor", sum := "588eb91c3188656335e808a49748ceb6a52555a341cd91855659d4ca4e7ec786", func := "decani/decanilaw10.PracticeSafe", spec := "practiceSafe", unfollowed := true, recurses := true, named := ["decani/cold.nowhere", "decani/cold.nobody", "decani/strain.nowhere", "decani/strain.ways", "decani/practice.nowhere", "decani/cold.kinds", "decani/practice.unheld", "decani/practice.counts"], plainKeys := false, apart := false, laid := [("decani/cold.nobody", laid_decani_cold_nobody), ("decani/cold.nowhere", laid_decani_cold_nowhere), ("decani/cold.kinds", laid_decani_cold_kinds), ("decani/strain.nowhere", laid_decani_strain_nowhere), ("decani/strain.ways", laid_decani_strain_ways), ("decani/practice.unheld", laid_decani_practice_unheld), ("decani/practice.nowhere", laid_decani_practice_nowhere), ("decani/practice.counts", laid_decani_practice_counts)] }
def PracticeSafeSaid : Prop := practiceSafeRow.holds Tryz.pinned (OpenSpec.ofChange practiceSafeSpec)

/-- ITS FALSE NEIGHBOUR: 'it returns false'. Refute it at one input. -/
def practiceSafeWrong : ChangeSpec := { name := "practiceSafe", fn := fun _ => fun
  | [d1, d2] => { results := [.lit (.bool false)], args := [d1, d2] }
  | _ => none }
def PracticeSafeWrongFalsely : Prop := practiceSafeRow.holds Tryz.pinned (OpenSpec.ofChange practiceSafeWrong)

/-- 'decanilaw10.PracticeAlone': WHATEVER THE INPUT: true; the input reads as it did. -/
def practiceAloneSpec : ChangeSpec := { name := "practiceAlone", fn := fun _ => fun
  | [d1, d2] => { results := [.lit (.bool true)], args := [d1, d2] }
  | _ => none }
def practiceAloneRow : OpenClaim := { program := "ytdockaglpfejhaagreatdoor", sum := "588eb91c3188656335e808a49748ceb6a52555a341cd91855659d4ca4e7ec786", func := "decani/decanilaw10.PracticeAlone", spec := "practiceAlone", unfollowed := true, recurses := true, named := ["decani/cold.nowhere", "decani/cold.nobody", "decani/strain.nowhere", "decani/strain.ways", "decani/practice.nowhere", "decani/cold.kinds", "decani/practice.unheld", "decani/practice.counts"], plainKeys := false, apart := false, laid := [("decani/cold.nobody", laid_decani_cold_nobody), ("decani/cold.nowhere", laid_decani_cold_nowhere), ("decani/cold.kinds", laid_decani_cold_kinds), ("decani/strain.nowhere", laid_decani_strain_nowhere), ("decani/strain.ways", laid_decani_strain_ways), ("decani/practice.unheld", laid_decani_practice_unheld), ("decani/practice.nowhere", laid_decani_practice_nowhere), ("decani/practice.counts", laid_decani_practice_counts)] }
def PracticeAloneSaid : Prop := practiceAloneRow.holds Tryz.pinned (OpenSpec.ofChange practiceAloneSpec)

/-- ITS FALSE NEIGHBOUR: 'it returns false'. Refute it at one input. -/
def practiceAloneWrong : ChangeSpec := { name := "practiceAlone", fn := fun _ => fun
  | [d1, d2] => { results := [.lit (.bool false)], args := [d1, d2] }
  | _ => none }
def PracticeAloneWrongFalsely : Prop := practiceAloneRow.holds Tryz.pinned (OpenSpec.ofChange practiceAloneWrong)

/-- 'decanilaw10.PracticeKept': WHATEVER THE INPUT: true; the input reads as it did. -/
def practiceKeptSpec : ChangeSpec := { name := "practiceKept", fn := fun _ => fun
  | [d1, d2] => { results := [.lit (.bool true)], args := [d1, d2] }
  | _ => none }
def practiceKeptRow : OpenClaim := { program := "ytdockaglpfejhaagreatdoor", sum := "588eb91c3188656335e808a49748ceb6a52555a341cd91855659d4ca4e7ec786", func := "decani/decanilaw10.PracticeKept", spec := "practiceKept", unfollowed := true, recurses := true, named := ["decani/cold.nowhere", "decani/cold.nobody", "decani/strain.nowhere", "decani/strain.ways", "decani/practice.nowhere", "decani/cold.kinds", "decani/practice.unheld", "decani/practice.counts"], plainKeys := false, apart := false, laid := [("decani/cold.nobody", laid_decani_cold_nobody), ("decani/cold.nowhere", laid_decani_cold_nowhere), ("decani/cold.kinds", laid_decani_cold_kinds), ("decani/strain.nowhere", laid_decani_strain_nowhere), ("decani/strain.ways", laid_decani_strain_ways), ("decani/practice.unheld", laid_decani_practice_unheld), ("decani/practice.nowhere", laid_decani_practice_nowhere), ("decani/practice.counts", laid_decani_practice_counts)] }
def PracticeKeptSaid : Prop := practiceKeptRow.holds Tryz.pinned (OpenSpec.ofChange practiceKeptSpec)

/-- ITS FALSE NEIGHBOUR: 'it returns false'. Refute it at one input. -/
def practiceKeptWrong : ChangeSpec := { name := "practiceKept", fn := fun _ => fun
  | [d1, d2] => { results := [.lit (.bool false)], args := [d1, d2] }
  | _ => none }
def PracticeKeptWrongFalsely : Prop := practiceKeptRow.holds Tryz.pinned (OpenSpec.ofChange practiceKeptWrong)

/-- 'decanilaw10.PracticeWell': WHATEVER THE INPUT: true; the input reads as it did. -/
def practiceWellSpec : ChangeSpec := { name := "practiceWell", fn := fun _ => fun
  | [d] => { results := [.lit (.bool true)], args := [d] }
  | _ => none }
def practiceWellRow : OpenClaim := { program := "ytdockaglpfejhaagreatdoor", sum := "588eb91c3188656335e808a49748ceb6a52555a341cd91855659d4ca4e7ec786", func := "decani/decanilaw10.PracticeWell", spec := "practiceWell", unfollowed := true, recurses := true, named := ["decani/cold.nowhere", "decani/cold.nobody", "decani/strain.nowhere", "decani/strain.ways", "decani/practice.nowhere", "decani/cold.kinds", "decani/practice.unheld", "decani/practice.counts"], plainKeys := false, apart := false, laid := [("decani/cold.nobody", laid_decani_cold_nobody), ("decani/cold.nowhere", laid_decani_cold_nowhere), ("decani/cold.kinds", laid_decani_cold_kinds), ("decani/strain.nowhere", laid_decani_strain_nowhere), ("decani/strain.ways", laid_decani_strain_ways), ("decani/practice.unheld", laid_decani_practice_unheld), ("decani/practice.nowhere", laid_decani_practice_nowhere), ("decani/practice.counts", laid_decani_practice_counts)] }
def PracticeWellSaid : Prop := practiceWellRow.holds Tryz.pinned (OpenSpec.ofChange practiceWellSpec)

/-- ITS FALSE NEIGHBOUR: 'it returns false'. Refute it at one input. -/
def practiceWellWrong : ChangeSpec := { name := "practiceWell", fn := fun _ => fun
  | [d] => { results := [.lit (.bool false)], args := [d] }
  | _ => none }
def PracticeWellWrongFalsely : Prop := practiceWellRow.holds Tryz.pinned (OpenSpec.ofChange practiceWellWrong)

/-- 'decanilaw10.PracticeMore': WHATEVER THE INPUT: true; the input reads as it did. -/
def practiceMoreSpec : ChangeSpec := { name := "practiceMore", fn := fun _ => fun
  | [d1, d2, d3] => { results := [.lit (.bool true)], args := [d1, d2, d3] }
  | _ => none }
def practiceMoreRow : OpenClaim := { program := "ytdockaglpfejhaagreatdoor", sum := "588eb91c3188656335e808a49748ceb6a52555a341cd91855659d4ca4e7ec786", func := "decani/decanilaw10.PracticeMore", spec := "practiceMore", unfollowed := true, recurses := true, named := ["decani/cold.nowhere", "decani/cold.nobody", "decani/strain.nowhere", "decani/strain.ways", "decani/practice.nowhere", "decani/cold.kinds", "decani/practice.unheld", "decani/practice.counts"], plainKeys := false, apart := false, laid := [("decani/cold.nobody", laid_decani_cold_nobody), ("decani/cold.nowhere", laid_decani_cold_nowhere), ("decani/cold.kinds", laid_decani_cold_kinds), ("decani/strain.nowhere", laid_decani_strain_nowhere), ("decani/strain.ways", laid_decani_strain_ways), ("decani/practice.unheld", laid_decani_practice_unheld), ("decani/practice.nowhere", laid_decani_practice_nowhere), ("decani/practice.counts", laid_decani_practice_counts)] }
def PracticeMoreSaid : Prop := practiceMoreRow.holds Tryz.pinned (OpenSpec.ofChange practiceMoreSpec)

/-- ITS FALSE NEIGHBOUR: 'it returns false'. Refute it at one input. -/
def practiceMoreWrong : ChangeSpec := { name := "practiceMore", fn := fun _ => fun
  | [d1, d2, d3] => { results := [.lit (.bool false)], args := [d1, d2, d3] }
  | _ => none }
def PracticeMoreWrongFalsely : Prop := practiceMoreRow.holds Tryz.pinned (OpenSpec.ofChange practiceMoreWrong)

/-- 'decanilaw10.PracticeFirst': WHATEVER THE INPUT: true; the input reads as it did. -/
def practiceFirstSpec : ChangeSpec := { name := "practiceFirst", fn := fun _ => fun
  | [d1, d2] => { results := [.lit (.bool true)], args := [d1, d2] }
  | _ => none }
def practiceFirstRow : OpenClaim := { program := "ytdockaglpfejhaagreatdoor", sum := "588eb91c3188656335e808a49748ceb6a52555a341cd91855659d4ca4e7ec786", func := "decani/decanilaw10.PracticeFirst", spec := "practiceFirst", unfollowed := true, recurses := true, named := ["decani/cold.nowhere", "decani/cold.nobody", "decani/strain.nowhere", "decani/strain.ways", "decani/practice.nowhere", "decani/cold.kinds", "decani/practice.unheld", "decani/practice.counts"], plainKeys := false, apart := false, laid := [("decani/cold.nobody", laid_decani_cold_nobody), ("decani/cold.nowhere", laid_decani_cold_nowhere), ("decani/cold.kinds", laid_decani_cold_kinds), ("decani/strain.nowhere", laid_decani_strain_nowhere), ("decani/strain.ways", laid_decani_strain_ways), ("decani/practice.unheld", laid_decani_practice_unheld), ("decani/practice.nowhere", laid_decani_practice_nowhere), ("decani/practice.counts", laid_decani_practice_counts)] }
def PracticeFirstSaid : Prop := practiceFirstRow.holds Tryz.pinned (OpenSpec.ofChange practiceFirstSpec)

/-- ITS FALSE NEIGHBOUR: 'it returns false'. Refute it at one input. -/
def practiceFirstWrong : ChangeSpec := { name := "practiceFirst", fn := fun _ => fun
  | [d1, d2] => { results := [.lit (.bool false)], args := [d1, d2] }
  | _ => none }
def PracticeFirstWrongFalsely : Prop := practiceFirstRow.holds Tryz.pinned (OpenSpec.ofChange practiceFirstWrong)

/-- 'decanilaw10.PracticeKnown': WHATEVER THE INPUT: true; the input reads as it did. -/
def practiceKnownSpec : ChangeSpec := { name := "practiceKnown", fn := fun _ => fun
  | [] => { results := [.lit (.bool true)], args := [] }
  | _ => none }
def practiceKnownRow : OpenClaim := { program := "ytdockaglpfejhaagreatdoor", sum := "588eb91c3188656335e808a49748ceb6a52555a341cd91855659d4ca4e7ec786", func := "decani/decanilaw10.PracticeKnown", spec := "practiceKnown", unfollowed := true, recurses := true, named := ["decani/cold.nowhere", "decani/cold.nobody", "decani/strain.nowhere", "decani/strain.ways", "decani/practice.nowhere", "decani/cold.kinds", "decani/practice.unheld", "decani/practice.counts"], plainKeys := false, apart := false, laid := [("decani/cold.nobody", laid_decani_cold_nobody), ("decani/cold.nowhere", laid_decani_cold_nowhere), ("decani/cold.kinds", laid_decani_cold_kinds), ("decani/strain.nowhere", laid_decani_strain_nowhere), ("decani/strain.ways", laid_decani_strain_ways), ("decani/practice.unheld", laid_decani_practice_unheld), ("decani/practice.nowhere", laid_decani_practice_nowhere), ("decani/practice.counts", laid_decani_practice_counts)] }
def PracticeKnownSaid : Prop := practiceKnownRow.holds Tryz.pinned (OpenSpec.ofChange practiceKnownSpec)

/-- ITS FALSE NEIGHBOUR: 'it returns false'. Refute it at one input. -/
def practiceKnownWrong : ChangeSpec := { name := "practiceKnown", fn := fun _ => fun
  | [] => { results := [.lit (.bool false)], args := [] }
  | _ => none }
def PracticeKnownWrongFalsely : Prop := practiceKnownRow.holds Tryz.pinned (OpenSpec.ofChange practiceKnownWrong)

/- THE SECOND FORM. 'bulk': how many values and letters a reading holds, each counted each time it is reached (what is shared counts as often as it is met; a slice's spare places count too). A statement '..UptoSaid' is the law's where the arguments, and the package variables that the reading takes, are together of bulk at most 1048576: NARROWER than '..Said'. Prove '..Said' where nothing that the law and all that it calls make is longer than what came in: it says more and counts as full. Else prove '..UptoSaid'. A law counts once. -/
mutual
def uptoBulk {H : Type} : DataW H → Nat
  | .lit (.string bytes) => bytes.length + 1
  | .lit _ => 1
  | .nil => 1
  | .ptr d => uptoBulk d + 1
  | .slice elems spare => uptoBulkAll elems + uptoBulkAll spare + 1
  | .agg parts => uptoBulkAll parts + 1
  | .iface _ d => uptoBulk d + 1
  | .map entries => uptoBulkEntries entries + 1
  | .held _ => 1
def uptoBulkAll {H : Type} : List (DataW H) → Nat
  | [] => 0
  | d :: r => uptoBulk d + uptoBulkAll r
def uptoBulkEntries {H : Type} : List (Lit × DataW H) → Nat
  | [] => 0
  | x :: r => uptoBulkEntry x + uptoBulkEntries r
def uptoBulkEntry {H : Type} : Lit × DataW H → Nat
  | (.string bytes, d) => bytes.length + uptoBulk d + 1
  | (_, d) => uptoBulk d + 1
 end
def uptoSmall : (H : Type) → List (DataW H) → Bool := fun _ ds => decide (uptoBulkAll ds ≤ 1048576)
def OpenSpec.upto (s : _root_.Go.ChangeSpec) : _root_.Go.OpenSpec := { _root_.Go.OpenSpec.ofChange s with cond := some uptoSmall }

/-- 'decanilaw10.PracticeKepts', WHERE WHAT IT READS IS OF BULK AT MOST 1048576: true; the input reads as it did. -/
def practiceKeptsUptoRow : OpenClaim := { program := "ytdockaglpfejhaagreatdoor", sum := "588eb91c3188656335e808a49748ceb6a52555a341cd91855659d4ca4e7ec786", func := "decani/decanilaw10.PracticeKepts", spec := "practiceKepts", unfollowed := true, recurses := true, named := ["decani/cold.nowhere", "decani/cold.nobody", "decani/strain.nowhere", "decani/strain.ways", "decani/practice.nowhere", "decani/cold.kinds", "decani/practice.unheld", "decani/practice.counts"], plainKeys := false, apart := false, laid := [("decani/cold.nobody", laid_decani_cold_nobody), ("decani/cold.nowhere", laid_decani_cold_nowhere), ("decani/cold.kinds", laid_decani_cold_kinds), ("decani/strain.nowhere", laid_decani_strain_nowhere), ("decani/strain.ways", laid_decani_strain_ways), ("decani/practice.unheld", laid_decani_practice_unheld), ("decani/practice.nowhere", laid_decani_practice_nowhere), ("decani/practice.counts", laid_decani_practice_counts)], narrowed := true }
def PracticeKeptsUptoSaid : Prop := practiceKeptsUptoRow.holds Tryz.pinned (OpenSpec.upto practiceKeptsSpec)

/-- 'decanilaw10.PracticePlans', WHERE WHAT IT READS IS OF BULK AT MOST 1048576: true; the input reads as it did. -/
def practicePlansUptoRow : OpenClaim := { program := "ytdockaglpfejhaagreatdoor", sum := "588eb91c3188656335e808a49748ceb6a52555a341cd91855659d4ca4e7ec786", func := "decani/decanilaw10.PracticePlans", spec := "practicePlans", unfollowed := true, recurses := true, named := ["decani/cold.nowhere", "decani/cold.nobody", "decani/strain.nowhere", "decani/strain.ways", "decani/practice.nowhere", "decani/cold.kinds", "decani/practice.unheld", "decani/practice.counts"], plainKeys := false, apart := false, laid := [("decani/cold.nobody", laid_decani_cold_nobody), ("decani/cold.nowhere", laid_decani_cold_nowhere), ("decani/cold.kinds", laid_decani_cold_kinds), ("decani/strain.nowhere", laid_decani_strain_nowhere), ("decani/strain.ways", laid_decani_strain_ways), ("decani/practice.unheld", laid_decani_practice_unheld), ("decani/practice.nowhere", laid_decani_practice_nowhere), ("decani/practice.counts", laid_decani_practice_counts)], narrowed := true }
def PracticePlansUptoSaid : Prop := practicePlansUptoRow.holds Tryz.pinned (OpenSpec.upto practicePlansSpec)

/-- 'decanilaw10.PracticeTrue', WHERE WHAT IT READS IS OF BULK AT MOST 1048576: true; the input reads as it did. -/
def practiceTrueUptoRow : OpenClaim := { program := "ytdockaglpfejhaagreatdoor", sum := "588eb91c3188656335e808a49748ceb6a52555a341cd91855659d4ca4e7ec786", func := "decani/decanilaw10.PracticeTrue", spec := "practiceTrue", unfollowed := true, recurses := true, named := ["decani/cold.nowhere", "decani/cold.nobody", "decani/strain.nowhere", "decani/strain.ways", "decani/practice.nowhere", "decani/cold.kinds", "decani/practice.unheld", "decani/practice.counts"], plainKeys := false, apart := false, laid := [("decani/cold.nobody", laid_decani_cold_nobody), ("decani/cold.nowhere", laid_decani_cold_nowhere), ("decani/cold.kinds", laid_decani_cold_kinds), ("decani/strain.nowhere", laid_decani_strain_nowhere), ("decani/strain.ways", laid_decani_strain_ways), ("decani/practice.unheld", laid_decani_practice_unheld), ("decani/practice.nowhere", laid_decani_practice_nowhere), ("decani/practice.counts", laid_decani_practice_counts)], narrowed := true }
def PracticeTrueUptoSaid : Prop := practiceTrueUptoRow.holds Tryz.pinned (OpenSpec.upto practiceTrueSpec)

/-- 'decanilaw10.PracticePlan', WHERE WHAT IT READS IS OF BULK AT MOST 1048576: true; the input reads as it did. -/
def practicePlanUptoRow : OpenClaim := { program := "ytdockaglpfejhaagreatdoor", sum := "588eb91c3188656335e808a49748ceb6a52555a341cd91855659d4ca4e7ec786", func := "decani/decanilaw10.PracticePlan", spec := "practicePlan", unfollowed := true, recurses := true, named := ["decani/cold.nowhere", "decani/cold.nobody", "decani/strain.nowhere", "decani/strain.ways", "decani/practice.nowhere", "decani/cold.kinds", "decani/practice.counts", "decani/practice.unheld"], plainKeys := false, apart := false, laid := [("decani/cold.nobody", laid_decani_cold_nobody), ("decani/cold.nowhere", laid_decani_cold_nowhere), ("decani/cold.kinds", laid_decani_cold_kinds), ("decani/strain.nowhere", laid_decani_strain_nowhere), ("decani/strain.ways", laid_decani_strain_ways), ("decani/practice.unheld", laid_decani_practice_unheld), ("decani/practice.nowhere", laid_decani_practice_nowhere), ("decani/practice.counts", laid_decani_practice_counts)], narrowed := true }
def PracticePlanUptoSaid : Prop := practicePlanUptoRow.holds Tryz.pinned (OpenSpec.upto practicePlanSpec)

/-- 'decanilaw10.PracticeSafe', WHERE WHAT IT READS IS OF BULK AT MOST 1048576: true; the input reads as it did. -/
def practiceSafeUptoRow : OpenClaim := { program := "ytdockaglpfejhaagreatdoor", sum := "588eb91c3188656335e808a49748ceb6a52555a341cd91855659d4ca4e7ec786", func := "decani/decanilaw10.PracticeSafe", spec := "practiceSafe", unfollowed := true, recurses := true, named := ["decani/cold.nowhere", "decani/cold.nobody", "decani/strain.nowhere", "decani/strain.ways", "decani/practice.nowhere", "decani/cold.kinds", "decani/practice.unheld", "decani/practice.counts"], plainKeys := false, apart := false, laid := [("decani/cold.nobody", laid_decani_cold_nobody), ("decani/cold.nowhere", laid_decani_cold_nowhere), ("decani/cold.kinds", laid_decani_cold_kinds), ("decani/strain.nowhere", laid_decani_strain_nowhere), ("decani/strain.ways", laid_decani_strain_ways), ("decani/practice.unheld", laid_decani_practice_unheld), ("decani/practice.nowhere", laid_decani_practice_nowhere), ("decani/practice.counts", laid_decani_practice_counts)], narrowed := true }
def PracticeSafeUptoSaid : Prop := practiceSafeUptoRow.holds Tryz.pinned (OpenSpec.upto practiceSafeSpec)

/-- 'decanilaw10.PracticeAlone', WHERE WHAT IT READS IS OF BULK AT MOST 1048576: true; the input reads as it did. -/
def practiceAloneUptoRow : OpenClaim := { program := "ytdockaglpfejhaagreatdoor", sum := "588eb91c3188656335e808a49748ceb6a52555a341cd91855659d4ca4e7ec786", func := "decani/decanilaw10.PracticeAlone", spec := "practiceAlone", unfollowed := true, recurses := true, named := ["decani/cold.nowhere", "decani/cold.nobody", "decani/strain.nowhere", "decani/strain.ways", "decani/practice.nowhere", "decani/cold.kinds", "decani/practice.unheld", "decani/practice.counts"], plainKeys := false, apart := false, laid := [("decani/cold.nobody", laid_decani_cold_nobody), ("decani/cold.nowhere", laid_decani_cold_nowhere), ("decani/cold.kinds", laid_decani_cold_kinds), ("decani/strain.nowhere", laid_decani_strain_nowhere), ("decani/strain.ways", laid_decani_strain_ways), ("decani/practice.unheld", laid_decani_practice_unheld), ("decani/practice.nowhere", laid_decani_practice_nowhere), ("decani/practice.counts", laid_decani_practice_counts)], narrowed := true }
def PracticeAloneUptoSaid : Prop := practiceAloneUptoRow.holds Tryz.pinned (OpenSpec.upto practiceAloneSpec)

/-- 'decanilaw10.PracticeKept', WHERE WHAT IT READS IS OF BULK AT MOST 1048576: true; the input reads as it did. -/
def practiceKeptUptoRow : OpenClaim := { program := "ytdockaglpfejhaagreatdoor", sum := "588eb91c3188656335e808a49748ceb6a52555a341cd91855659d4ca4e7ec786", func := "decani/decanilaw10.PracticeKept", spec := "practiceKept", unfollowed := true, recurses := true, named := ["decani/cold.nowhere", "decani/cold.nobody", "decani/strain.nowhere", "decani/strain.ways", "decani/practice.nowhere", "decani/cold.kinds", "decani/practice.unheld", "decani/practice.counts"], plainKeys := false, apart := false, laid := [("decani/cold.nobody", laid_decani_cold_nobody), ("decani/cold.nowhere", laid_decani_cold_nowhere), ("decani/cold.kinds", laid_decani_cold_kinds), ("decani/strain.nowhere", laid_decani_strain_nowhere), ("decani/strain.ways", laid_decani_strain_ways), ("decani/practice.unheld", laid_decani_practice_unheld), ("decani/practice.nowhere", laid_decani_practice_nowhere), ("decani/practice.counts", laid_decani_practice_counts)], narrowed := true }
def PracticeKeptUptoSaid : Prop := practiceKeptUptoRow.holds Tryz.pinned (OpenSpec.upto practiceKeptSpec)

/-- 'decanilaw10.PracticeWell', WHERE WHAT IT READS IS OF BULK AT MOST 1048576: true; the input reads as it did. -/
def practiceWellUptoRow : OpenClaim := { program := "ytdockaglpfejhaagreatdoor", sum := "588eb91c3188656335e808a49748ceb6a52555a341cd91855659d4ca4e7ec786", func := "decani/decanilaw10.PracticeWell", spec := "practiceWell", unfollowed := true, recurses := true, named := ["decani/cold.nowhere", "decani/cold.nobody", "decani/strain.nowhere", "decani/strain.ways", "decani/practice.nowhere", "decani/cold.kinds", "decani/practice.unheld", "decani/practice.counts"], plainKeys := false, apart := false, laid := [("decani/cold.nobody", laid_decani_cold_nobody), ("decani/cold.nowhere", laid_decani_cold_nowhere), ("decani/cold.kinds", laid_decani_cold_kinds), ("decani/strain.nowhere", laid_decani_strain_nowhere), ("decani/strain.ways", laid_decani_strain_ways), ("decani/practice.unheld", laid_decani_practice_unheld), ("decani/practice.nowhere", laid_decani_practice_nowhere), ("decani/practice.counts", laid_decani_practice_counts)], narrowed := true }
def PracticeWellUptoSaid : Prop := practiceWellUptoRow.holds Tryz.pinned (OpenSpec.upto practiceWellSpec)

/-- 'decanilaw10.PracticeMore', WHERE WHAT IT READS IS OF BULK AT MOST 1048576: true; the input reads as it did. -/
def practiceMoreUptoRow : OpenClaim := { program := "ytdockaglpfejhaagreatdoor", sum := "588eb91c3188656335e808a49748ceb6a52555a341cd91855659d4ca4e7ec786", func := "decani/decanilaw10.PracticeMore", spec := "practiceMore", unfollowed := true, recurses := true, named := ["decani/cold.nowhere", "decani/cold.nobody", "decani/strain.nowhere", "decani/strain.ways", "decani/practice.nowhere", "decani/cold.kinds", "decani/practice.unheld", "decani/practice.counts"], plainKeys := false, apart := false, laid := [("decani/cold.nobody", laid_decani_cold_nobody), ("decani/cold.nowhere", laid_decani_cold_nowhere), ("decani/cold.kinds", laid_decani_cold_kinds), ("decani/strain.nowhere", laid_decani_strain_nowhere), ("decani/strain.ways", laid_decani_strain_ways), ("decani/practice.unheld", laid_decani_practice_unheld), ("decani/practice.nowhere", laid_decani_practice_nowhere), ("decani/practice.counts", laid_decani_practice_counts)], narrowed := true }
def PracticeMoreUptoSaid : Prop := practiceMoreUptoRow.holds Tryz.pinned (OpenSpec.upto practiceMoreSpec)

/-- 'decanilaw10.PracticeFirst', WHERE WHAT IT READS IS OF BULK AT MOST 1048576: true; the input reads as it did. -/
def practiceFirstUptoRow : OpenClaim := { program := "ytdockaglpfejhaagreatdoor", sum := "588eb91c3188656335e808a49748ceb6a52555a341cd91855659d4ca4e7ec786", func := "decani/decanilaw10.PracticeFirst", spec := "practiceFirst", unfollowed := true, recurses := true, named := ["decani/cold.nowhere", "decani/cold.nobody", "decani/strain.nowhere", "decani/strain.ways", "decani/practice.nowhere", "decani/cold.kinds", "decani/practice.unheld", "decani/practice.counts"], plainKeys := false, apart := false, laid := [("decani/cold.nobody", laid_decani_cold_nobody), ("decani/cold.nowhere", laid_decani_cold_nowhere), ("decani/cold.kinds", laid_decani_cold_kinds), ("decani/strain.nowhere", laid_decani_strain_nowhere), ("decani/strain.ways", laid_decani_strain_ways), ("decani/practice.unheld", laid_decani_practice_unheld), ("decani/practice.nowhere", laid_decani_practice_nowhere), ("decani/practice.counts", laid_decani_practice_counts)], narrowed := true }
def PracticeFirstUptoSaid : Prop := practiceFirstUptoRow.holds Tryz.pinned (OpenSpec.upto practiceFirstSpec)

/-- 'decanilaw10.PracticeKnown', WHERE WHAT IT READS IS OF BULK AT MOST 1048576: true; the input reads as it did. -/
def practiceKnownUptoRow : OpenClaim := { program := "ytdockaglpfejhaagreatdoor", sum := "588eb91c3188656335e808a49748ceb6a52555a341cd91855659d4ca4e7ec786", func := "decani/decanilaw10.PracticeKnown", spec := "practiceKnown", unfollowed := true, recurses := true, named := ["decani/cold.nowhere", "decani/cold.nobody", "decani/strain.nowhere", "decani/strain.ways", "decani/practice.nowhere", "decani/cold.kinds", "decani/practice.unheld", "decani/practice.counts"], plainKeys := false, apart := false, laid := [("decani/cold.nobody", laid_decani_cold_nobody), ("decani/cold.nowhere", laid_decani_cold_nowhere), ("decani/cold.kinds", laid_decani_cold_kinds), ("decani/strain.nowhere", laid_decani_strain_nowhere), ("decani/strain.ways", laid_decani_strain_ways), ("decani/practice.unheld", laid_decani_practice_unheld), ("decani/practice.nowhere", laid_decani_practice_nowhere), ("decani/practice.counts", laid_decani_practice_counts)], narrowed := true }
def PracticeKnownUptoSaid : Prop := practiceKnownUptoRow.holds Tryz.pinned (OpenSpec.upto practiceKnownSpec)

end Rows
end Go.Proofs.YtdockaglpfejhaaGreatDoor
