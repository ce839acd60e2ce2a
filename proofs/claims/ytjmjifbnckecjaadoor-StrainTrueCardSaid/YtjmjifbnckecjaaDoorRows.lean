/-
  NARROWER THAN 'FOR EVERY INPUT', by the rows' own cells (each row's printed sentence says how): StrainFits: laid · StrainFirst: laid · StrainRules: laid · StrainRest: laid · StrainLefts: laid · StrainTrue: laid · StrainEnds: laid · StrainMore: laid · StrainPlan: laid · StrainWrong: laid · StrainKnown: laid.
  DERIVED. THE GIVEN ROWS OF THIS SEAT. 11 by the template 'for every input the law returns true; each argument reads behind the call as it read before'; 0 by the template 'total and deterministic' (their statements: YtjmjifbnckecjaaDoorTotals.lean).
  GIVEN WITH THE SEED: the statements are not yours to turn. If you find one false, say at which input.
  Laid BY PROGRAM, IN A SANDBOX (cutbox-rows.mjs): the forced cells as the released guide's own fill.sh prints them over the translation f103fc908d48aa34… (all of the seat's roots in one cut). By AI agents, Wed Nov 11 2026. No macro, syntax, notation, axiom, sorry.
-/
import Derived.Test.YtjmjifbnckecjaaDoorChecked
import GoSem.Claim
import GoSem.ClaimJoined
import GoSem.ClaimMapViews
import Derived.JoinedTies
import Derived.KernelRfl
namespace Go.Proofs.YtjmjifbnckecjaaDoor
/- THE CELL 'sum', in the pinned program and in every row, IS THE sha256 OF THE DUMP (.gsa) THAT YtjmjifbnckecjaaDoorProg.lean LOADS. Nothing in Lean hashes anything: it is a label: what it is worth is what the hold of that sum in a sandbox is worth. -/
noncomputable def Tryd.pinned : Pinned := { name := "ytjmjifbnckecjaadoor", sum := "f103fc908d48aa34b1a0c3a59f25bad77d2fd9d2f8470940bc58a72a6f38b537", checked := Tryd.checked }
namespace Rows
def none {H : Type} : Left H := { results := [], args := [] }

/- WHAT THE LISTED PACKAGE-LEVEL VARIABLES READ AS WHEN THE CALL BEGINS. Each datum BY PROGRAM (the guide's laid-datum.mjs) off the statement by which the dump's own 'gosem.cut.vars' lays the variable. In a bare row this is a premise. The card (YtjmjifbnckecjaaDoorCards.lean) ties it to the program's text. -/
def laid_decani_strain_nowhere {H : Type} : DataW H := .agg [.lit (.int .i64 (-1)), .lit (.int .i64 (-1))]
def laid_decani_strain_ways {H : Type} : DataW H := .iface "func table" (.agg [.iface "func" (.lit (.string [40, 100, 101, 99, 97, 110, 105, 47, 115, 116, 114, 97, 105, 110, 46, 99, 111, 115, 116, 115, 41, 46, 114, 101, 115, 116])), .iface "func" (.lit (.string [40, 100, 101, 99, 97, 110, 105, 47, 115, 116, 114, 97, 105, 110, 46, 99, 111, 115, 116, 115, 41, 46, 115, 105, 110, 103]))])

/-- 'decanilaw04.StrainFits': WHATEVER THE INPUT: true; the input reads as it did. -/
def strainFitsSpec : ChangeSpec := { name := "strainFits", fn := fun _ => fun
  | [d1, d2] => { results := [.lit (.bool true)], args := [d1, d2] }
  | _ => none }
def strainFitsRow : OpenClaim := { program := "ytjmjifbnckecjaadoor", sum := "f103fc908d48aa34b1a0c3a59f25bad77d2fd9d2f8470940bc58a72a6f38b537", func := "decani/decanilaw04.StrainFits", spec := "strainFits", unfollowed := true, recurses := true, named := ["decani/strain.nowhere", "decani/strain.ways"], plainKeys := false, apart := false, laid := [("decani/strain.nowhere", laid_decani_strain_nowhere), ("decani/strain.ways", laid_decani_strain_ways)] }
def StrainFitsSaid : Prop := strainFitsRow.holds Tryd.pinned (OpenSpec.ofChange strainFitsSpec)

/-- ITS FALSE NEIGHBOUR: 'it returns false'. Refute it at one input. -/
def strainFitsWrong : ChangeSpec := { name := "strainFits", fn := fun _ => fun
  | [d1, d2] => { results := [.lit (.bool false)], args := [d1, d2] }
  | _ => none }
def StrainFitsWrongFalsely : Prop := strainFitsRow.holds Tryd.pinned (OpenSpec.ofChange strainFitsWrong)

/-- 'decanilaw04.StrainFirst': WHATEVER THE INPUT: true; the input reads as it did. -/
def strainFirstSpec : ChangeSpec := { name := "strainFirst", fn := fun _ => fun
  | [d1, d2] => { results := [.lit (.bool true)], args := [d1, d2] }
  | _ => none }
def strainFirstRow : OpenClaim := { program := "ytjmjifbnckecjaadoor", sum := "f103fc908d48aa34b1a0c3a59f25bad77d2fd9d2f8470940bc58a72a6f38b537", func := "decani/decanilaw04.StrainFirst", spec := "strainFirst", unfollowed := true, recurses := true, named := ["decani/strain.nowhere", "decani/strain.ways"], plainKeys := false, apart := false, laid := [("decani/strain.nowhere", laid_decani_strain_nowhere), ("decani/strain.ways", laid_decani_strain_ways)] }
def StrainFirstSaid : Prop := strainFirstRow.holds Tryd.pinned (OpenSpec.ofChange strainFirstSpec)

/-- ITS FALSE NEIGHBOUR: 'it returns false'. Refute it at one input. -/
def strainFirstWrong : ChangeSpec := { name := "strainFirst", fn := fun _ => fun
  | [d1, d2] => { results := [.lit (.bool false)], args := [d1, d2] }
  | _ => none }
def StrainFirstWrongFalsely : Prop := strainFirstRow.holds Tryd.pinned (OpenSpec.ofChange strainFirstWrong)

/-- 'decanilaw04.StrainRules': WHATEVER THE INPUT: true; the input reads as it did. -/
def strainRulesSpec : ChangeSpec := { name := "strainRules", fn := fun _ => fun
  | [d1, d2] => { results := [.lit (.bool true)], args := [d1, d2] }
  | _ => none }
def strainRulesRow : OpenClaim := { program := "ytjmjifbnckecjaadoor", sum := "f103fc908d48aa34b1a0c3a59f25bad77d2fd9d2f8470940bc58a72a6f38b537", func := "decani/decanilaw04.StrainRules", spec := "strainRules", unfollowed := true, recurses := true, named := ["decani/strain.nowhere", "decani/strain.ways"], plainKeys := false, apart := false, laid := [("decani/strain.nowhere", laid_decani_strain_nowhere), ("decani/strain.ways", laid_decani_strain_ways)] }
def StrainRulesSaid : Prop := strainRulesRow.holds Tryd.pinned (OpenSpec.ofChange strainRulesSpec)

/-- ITS FALSE NEIGHBOUR: 'it returns false'. Refute it at one input. -/
def strainRulesWrong : ChangeSpec := { name := "strainRules", fn := fun _ => fun
  | [d1, d2] => { results := [.lit (.bool false)], args := [d1, d2] }
  | _ => none }
def StrainRulesWrongFalsely : Prop := strainRulesRow.holds Tryd.pinned (OpenSpec.ofChange strainRulesWrong)

/-- 'decanilaw04.StrainRest': WHATEVER THE INPUT: true; the input reads as it did. -/
def strainRestSpec : ChangeSpec := { name := "strainRest", fn := fun _ => fun
  | [d1, d2] => { results := [.lit (.bool true)], args := [d1, d2] }
  | _ => none }
def strainRestRow : OpenClaim := { program := "ytjmjifbnckecjaadoor", sum := "f103fc908d48aa34b1a0c3a59f25bad77d2fd9d2f8470940bc58a72a6f38b537", func := "decani/decanilaw04.StrainRest", spec := "strainRest", unfollowed := true, recurses := true, named := ["decani/strain.nowhere", "decani/strain.ways"], plainKeys := false, apart := false, laid := [("decani/strain.nowhere", laid_decani_strain_nowhere), ("decani/strain.ways", laid_decani_strain_ways)] }
def StrainRestSaid : Prop := strainRestRow.holds Tryd.pinned (OpenSpec.ofChange strainRestSpec)

/-- ITS FALSE NEIGHBOUR: 'it returns false'. Refute it at one input. -/
def strainRestWrong : ChangeSpec := { name := "strainRest", fn := fun _ => fun
  | [d1, d2] => { results := [.lit (.bool false)], args := [d1, d2] }
  | _ => none }
def StrainRestWrongFalsely : Prop := strainRestRow.holds Tryd.pinned (OpenSpec.ofChange strainRestWrong)

/-- 'decanilaw04.StrainLefts': WHATEVER THE INPUT: true; the input reads as it did. -/
def strainLeftsSpec : ChangeSpec := { name := "strainLefts", fn := fun _ => fun
  | [d1, d2] => { results := [.lit (.bool true)], args := [d1, d2] }
  | _ => none }
def strainLeftsRow : OpenClaim := { program := "ytjmjifbnckecjaadoor", sum := "f103fc908d48aa34b1a0c3a59f25bad77d2fd9d2f8470940bc58a72a6f38b537", func := "decani/decanilaw04.StrainLefts", spec := "strainLefts", unfollowed := true, recurses := true, named := ["decani/strain.nowhere", "decani/strain.ways"], plainKeys := false, apart := false, laid := [("decani/strain.nowhere", laid_decani_strain_nowhere), ("decani/strain.ways", laid_decani_strain_ways)] }
def StrainLeftsSaid : Prop := strainLeftsRow.holds Tryd.pinned (OpenSpec.ofChange strainLeftsSpec)

/-- ITS FALSE NEIGHBOUR: 'it returns false'. Refute it at one input. -/
def strainLeftsWrong : ChangeSpec := { name := "strainLefts", fn := fun _ => fun
  | [d1, d2] => { results := [.lit (.bool false)], args := [d1, d2] }
  | _ => none }
def StrainLeftsWrongFalsely : Prop := strainLeftsRow.holds Tryd.pinned (OpenSpec.ofChange strainLeftsWrong)

/-- 'decanilaw04.StrainTrue': WHATEVER THE INPUT: true; the input reads as it did. -/
def strainTrueSpec : ChangeSpec := { name := "strainTrue", fn := fun _ => fun
  | [d1, d2, d3] => { results := [.lit (.bool true)], args := [d1, d2, d3] }
  | _ => none }
def strainTrueRow : OpenClaim := { program := "ytjmjifbnckecjaadoor", sum := "f103fc908d48aa34b1a0c3a59f25bad77d2fd9d2f8470940bc58a72a6f38b537", func := "decani/decanilaw04.StrainTrue", spec := "strainTrue", unfollowed := true, recurses := true, named := ["decani/strain.nowhere", "decani/strain.ways"], plainKeys := false, apart := false, laid := [("decani/strain.nowhere", laid_decani_strain_nowhere), ("decani/strain.ways", laid_decani_strain_ways)] }
def StrainTrueSaid : Prop := strainTrueRow.holds Tryd.pinned (OpenSpec.ofChange strainTrueSpec)

/-- ITS FALSE NEIGHBOUR: 'it returns false'. Refute it at one input. -/
def strainTrueWrong : ChangeSpec := { name := "strainTrue", fn := fun _ => fun
  | [d1, d2, d3] => { results := [.lit (.bool false)], args := [d1, d2, d3] }
  | _ => none }
def StrainTrueWrongFalsely : Prop := strainTrueRow.holds Tryd.pinned (OpenSpec.ofChange strainTrueWrong)

/-- 'decanilaw04.StrainEnds': WHATEVER THE INPUT: true; the input reads as it did. -/
def strainEndsSpec : ChangeSpec := { name := "strainEnds", fn := fun _ => fun
  | [d1, d2] => { results := [.lit (.bool true)], args := [d1, d2] }
  | _ => none }
def strainEndsRow : OpenClaim := { program := "ytjmjifbnckecjaadoor", sum := "f103fc908d48aa34b1a0c3a59f25bad77d2fd9d2f8470940bc58a72a6f38b537", func := "decani/decanilaw04.StrainEnds", spec := "strainEnds", unfollowed := true, recurses := true, named := ["decani/strain.nowhere", "decani/strain.ways"], plainKeys := false, apart := false, laid := [("decani/strain.nowhere", laid_decani_strain_nowhere), ("decani/strain.ways", laid_decani_strain_ways)] }
def StrainEndsSaid : Prop := strainEndsRow.holds Tryd.pinned (OpenSpec.ofChange strainEndsSpec)

/-- ITS FALSE NEIGHBOUR: 'it returns false'. Refute it at one input. -/
def strainEndsWrong : ChangeSpec := { name := "strainEnds", fn := fun _ => fun
  | [d1, d2] => { results := [.lit (.bool false)], args := [d1, d2] }
  | _ => none }
def StrainEndsWrongFalsely : Prop := strainEndsRow.holds Tryd.pinned (OpenSpec.ofChange strainEndsWrong)

/-- 'decanilaw04.StrainMore': WHATEVER THE INPUT: true; the input reads as it did. -/
def strainMoreSpec : ChangeSpec := { name := "strainMore", fn := fun _ => fun
  | [d1, d2, d3] => { results := [.lit (.bool true)], args := [d1, d2, d3] }
  | _ => none }
def strainMoreRow : OpenClaim := { program := "ytjmjifbnckecjaadoor", sum := "f103fc908d48aa34b1a0c3a59f25bad77d2fd9d2f8470940bc58a72a6f38b537", func := "decani/decanilaw04.StrainMore", spec := "strainMore", unfollowed := true, recurses := true, named := ["decani/strain.nowhere", "decani/strain.ways"], plainKeys := false, apart := false, laid := [("decani/strain.nowhere", laid_decani_strain_nowhere), ("decani/strain.ways", laid_decani_strain_ways)] }
def StrainMoreSaid : Prop := strainMoreRow.holds Tryd.pinned (OpenSpec.ofChange strainMoreSpec)

/-- ITS FALSE NEIGHBOUR: 'it returns false'. Refute it at one input. -/
def strainMoreWrong : ChangeSpec := { name := "strainMore", fn := fun _ => fun
  | [d1, d2, d3] => { results := [.lit (.bool false)], args := [d1, d2, d3] }
  | _ => none }
def StrainMoreWrongFalsely : Prop := strainMoreRow.holds Tryd.pinned (OpenSpec.ofChange strainMoreWrong)

/-- 'decanilaw04.StrainPlan': WHATEVER THE INPUT: true; the input reads as it did. -/
def strainPlanSpec : ChangeSpec := { name := "strainPlan", fn := fun _ => fun
  | [d1, d2, d3] => { results := [.lit (.bool true)], args := [d1, d2, d3] }
  | _ => none }
def strainPlanRow : OpenClaim := { program := "ytjmjifbnckecjaadoor", sum := "f103fc908d48aa34b1a0c3a59f25bad77d2fd9d2f8470940bc58a72a6f38b537", func := "decani/decanilaw04.StrainPlan", spec := "strainPlan", unfollowed := true, recurses := true, named := ["decani/strain.nowhere", "decani/strain.ways"], plainKeys := false, apart := false, laid := [("decani/strain.nowhere", laid_decani_strain_nowhere), ("decani/strain.ways", laid_decani_strain_ways)] }
def StrainPlanSaid : Prop := strainPlanRow.holds Tryd.pinned (OpenSpec.ofChange strainPlanSpec)

/-- ITS FALSE NEIGHBOUR: 'it returns false'. Refute it at one input. -/
def strainPlanWrong : ChangeSpec := { name := "strainPlan", fn := fun _ => fun
  | [d1, d2, d3] => { results := [.lit (.bool false)], args := [d1, d2, d3] }
  | _ => none }
def StrainPlanWrongFalsely : Prop := strainPlanRow.holds Tryd.pinned (OpenSpec.ofChange strainPlanWrong)

/-- 'decanilaw04.StrainWrong': WHATEVER THE INPUT: true; the input reads as it did. -/
def strainWrongSpec : ChangeSpec := { name := "strainWrong", fn := fun _ => fun
  | [d1, d2] => { results := [.lit (.bool true)], args := [d1, d2] }
  | _ => none }
def strainWrongRow : OpenClaim := { program := "ytjmjifbnckecjaadoor", sum := "f103fc908d48aa34b1a0c3a59f25bad77d2fd9d2f8470940bc58a72a6f38b537", func := "decani/decanilaw04.StrainWrong", spec := "strainWrong", unfollowed := true, recurses := true, named := ["decani/strain.nowhere", "decani/strain.ways"], plainKeys := false, apart := false, laid := [("decani/strain.nowhere", laid_decani_strain_nowhere), ("decani/strain.ways", laid_decani_strain_ways)] }
def StrainWrongSaid : Prop := strainWrongRow.holds Tryd.pinned (OpenSpec.ofChange strainWrongSpec)

/-- ITS FALSE NEIGHBOUR: 'it returns false'. Refute it at one input. -/
def strainWrongWrong : ChangeSpec := { name := "strainWrong", fn := fun _ => fun
  | [d1, d2] => { results := [.lit (.bool false)], args := [d1, d2] }
  | _ => none }
def StrainWrongWrongFalsely : Prop := strainWrongRow.holds Tryd.pinned (OpenSpec.ofChange strainWrongWrong)

/-- 'decanilaw04.StrainKnown': WHATEVER THE INPUT: true; the input reads as it did. -/
def strainKnownSpec : ChangeSpec := { name := "strainKnown", fn := fun _ => fun
  | [] => { results := [.lit (.bool true)], args := [] }
  | _ => none }
def strainKnownRow : OpenClaim := { program := "ytjmjifbnckecjaadoor", sum := "f103fc908d48aa34b1a0c3a59f25bad77d2fd9d2f8470940bc58a72a6f38b537", func := "decani/decanilaw04.StrainKnown", spec := "strainKnown", unfollowed := true, recurses := true, named := ["decani/strain.nowhere", "decani/strain.ways"], plainKeys := false, apart := false, laid := [("decani/strain.nowhere", laid_decani_strain_nowhere), ("decani/strain.ways", laid_decani_strain_ways)] }
def StrainKnownSaid : Prop := strainKnownRow.holds Tryd.pinned (OpenSpec.ofChange strainKnownSpec)

/-- ITS FALSE NEIGHBOUR: 'it returns false'. Refute it at one input. -/
def strainKnownWrong : ChangeSpec := { name := "strainKnown", fn := fun _ => fun
  | [] => { results := [.lit (.bool false)], args := [] }
  | _ => none }
def StrainKnownWrongFalsely : Prop := strainKnownRow.holds Tryd.pinned (OpenSpec.ofChange strainKnownWrong)

/- THE SECOND FORM. 'bulk': how many values and letters a reading holds, each counted each time it is reached (what is shared counts as often as it is met; a slice's spare places count too). A statement '..UptoSaid' is the law's where the arguments, and the package variables that the reading takes, are together of bulk at most 1048576: NARROWER than '..Said'. Prove '..Said' where nothing that the law and all that it calls make is longer than what came in: it says more and counts as full. Else prove '..UptoSaid'. A law counts once. -/
mutual
def uptoBulk {H : Type} : DataW H → Nat
  | .lit (.string bytes) => bytes.length + 1
  | .lit _ => 1
  | .nil => 1
  | .ptr d => uptoBulk d + 1
  | .slice elems spare => uptoBulkAll elems + uptoBulkAll spare + 1
  | .agg parts => uptoBulkAll parts + 1
  | .iface _ d => uptoBulk d + 1
  | .map entries => uptoBulkEntries entries + 1
  | .held _ => 1
def uptoBulkAll {H : Type} : List (DataW H) → Nat
  | [] => 0
  | d :: r => uptoBulk d + uptoBulkAll r
def uptoBulkEntries {H : Type} : List (Lit × DataW H) → Nat
  | [] => 0
  | x :: r => uptoBulkEntry x + uptoBulkEntries r
def uptoBulkEntry {H : Type} : Lit × DataW H → Nat
  | (.string bytes, d) => bytes.length + uptoBulk d + 1
  | (_, d) => uptoBulk d + 1
 end
def uptoSmall : (H : Type) → List (DataW H) → Bool := fun _ ds => decide (uptoBulkAll ds ≤ 1048576)
def OpenSpec.upto (s : _root_.Go.ChangeSpec) : _root_.Go.OpenSpec := { _root_.Go.OpenSpec.ofChange s with cond := some uptoSmall }

/-- 'decanilaw04.StrainFits', WHERE WHAT IT READS IS OF BULK AT MOST 1048576: true; the input reads as it did. -/
def strainFitsUptoRow : OpenClaim := { program := "ytjmjifbnckecjaadoor", sum := "f103fc908d48aa34b1a0c3a59f25bad77d2fd9d2f8470940bc58a72a6f38b537", func := "decani/decanilaw04.StrainFits", spec := "strainFits", unfollowed := true, recurses := true, named := ["decani/strain.nowhere", "decani/strain.ways"], plainKeys := false, apart := false, laid := [("decani/strain.nowhere", laid_decani_strain_nowhere), ("decani/strain.ways", laid_decani_strain_ways)], narrowed := true }
def StrainFitsUptoSaid : Prop := strainFitsUptoRow.holds Tryd.pinned (OpenSpec.upto strainFitsSpec)

/-- 'decanilaw04.StrainFirst', WHERE WHAT IT READS IS OF BULK AT MOST 1048576: true; the input reads as it did. -/
def strainFirstUptoRow : OpenClaim := { program := "ytjmjifbnckecjaadoor", sum := "f103fc908d48aa34b1a0c3a59f25bad77d2fd9d2f8470940bc58a72a6f38b537", func := "decani/decanilaw04.StrainFirst", spec := "strainFirst", unfollowed := true, recurses := true, named := ["decani/strain.nowhere", "decani/strain.ways"], plainKeys := false, apart := false, laid := [("decani/strain.nowhere", laid_decani_strain_nowhere), ("decani/strain.ways", laid_decani_strain_ways)], narrowed := true }
def StrainFirstUptoSaid : Prop := strainFirstUptoRow.holds Tryd.pinned (OpenSpec.upto strainFirstSpec)

/-- 'decanilaw04.StrainRules', WHERE WHAT IT READS IS OF BULK AT MOST 1048576: true; the input reads as it did. -/
def strainRulesUptoRow : OpenClaim := { program := "ytjmjifbnckecjaadoor", sum := "f103fc908d48aa34b1a0c3a59f25bad77d2fd9d2f8470940bc58a72a6f38b537", func := "decani/decanilaw04.StrainRules", spec := "strainRules", unfollowed := true, recurses := true, named := ["decani/strain.nowhere", "decani/strain.ways"], plainKeys := false, apart := false, laid := [("decani/strain.nowhere", laid_decani_strain_nowhere), ("decani/strain.ways", laid_decani_strain_ways)], narrowed := true }
def StrainRulesUptoSaid : Prop := strainRulesUptoRow.holds Tryd.pinned (OpenSpec.upto strainRulesSpec)

/-- 'decanilaw04.StrainRest', WHERE WHAT IT READS IS OF BULK AT MOST 1048576: true; the input reads as it did. -/
def strainRestUptoRow : OpenClaim := { program := "ytjmjifbnckecjaadoor", sum := "f103fc908d48aa34b1a0c3a59f25bad77d2fd9d2f8470940bc58a72a6f38b537", func := "decani/decanilaw04.StrainRest", spec := "strainRest", unfollowed := true, recurses := true, named := ["decani/strain.nowhere", "decani/strain.ways"], plainKeys := false, apart := false, laid := [("decani/strain.nowhere", laid_decani_strain_nowhere), ("decani/strain.ways", laid_decani_strain_ways)], narrowed := true }
def StrainRestUptoSaid : Prop := strainRestUptoRow.holds Tryd.pinned (OpenSpec.upto strainRestSpec)

/-- 'decanilaw04.StrainLefts', WHERE WHAT IT READS IS OF BULK AT MOST 1048576: true; the input reads as it did. -/
def strainLeftsUptoRow : OpenClaim := { program := "ytjmjifbnckecjaadoor", sum := "f103fc908d48aa34b1a0c3a59f25bad77d2fd9d2f8470940bc58a72a6f38b537", func := "decani/decanilaw04.StrainLefts", spec := "strainLefts", unfollowed := true, recurses := true, named := ["decani/strain.nowhere", "decani/strain.ways"], plainKeys := false, apart := false, laid := [("decani/strain.nowhere", laid_decani_strain_nowhere), ("decani/strain.ways", laid_decani_strain_ways)], narrowed := true }
def StrainLeftsUptoSaid : Prop := strainLeftsUptoRow.holds Tryd.pinned (OpenSpec.upto strainLeftsSpec)

/-- 'decanilaw04.StrainTrue', WHERE WHAT IT READS IS OF BULK AT MOST 1048576: true; the input reads as it did. -/
def strainTrueUptoRow : OpenClaim := { program := "ytjmjifbnckecjaadoor", sum := "f103fc908d48aa34b1a0c3a59f25bad77d2fd9d2f8470940bc58a72a6f38b537", func := "decani/decanilaw04.StrainTrue", spec := "strainTrue", unfollowed := true, recurses := true, named := ["decani/strain.nowhere", "decani/strain.ways"], plainKeys := false, apart := false, laid := [("decani/strain.nowhere", laid_decani_strain_nowhere), ("decani/strain.ways", laid_decani_strain_ways)], narrowed := true }
def StrainTrueUptoSaid : Prop := strainTrueUptoRow.holds Tryd.pinned (OpenSpec.upto strainTrueSpec)

/-- 'decanilaw04.StrainEnds', WHERE WHAT IT READS IS OF BULK AT MOST 1048576: true; the input reads as it did. -/
def strainEndsUptoRow : OpenClaim := { program := "ytjmjifbnckecjaadoor", sum := "f103fc908d48aa34b1a0c3a59f25bad77d2fd9d2f8470940bc58a72a6f38b537", func := "decani/decanilaw04.StrainEnds", spec := "strainEnds", unfollowed := true, recurses := true, named := ["decani/strain.nowhere", "decani/strain.ways"], plainKeys := false, apart := false, laid := [("decani/strain.nowhere", laid_decani_strain_nowhere), ("decani/strain.ways", laid_decani_strain_ways)], narrowed := true }
def StrainEndsUptoSaid : Prop := strainEndsUptoRow.holds Tryd.pinned (OpenSpec.upto strainEndsSpec)

/-- 'decanilaw04.StrainMore', WHERE WHAT IT READS IS OF BULK AT MOST 1048576: true; the input reads as it did. -/
def strainMoreUptoRow : OpenClaim := { program := "ytjmjifbnckecjaadoor", sum := "f103fc908d48aa34b1a0c3a59f25bad77d2fd9d2f8470940bc58a72a6f38b537", func := "decani/decanilaw04.StrainMore", spec := "strainMore", unfollowed := true, recurses := true, named := ["decani/strain.nowhere", "decani/strain.ways"], plainKeys := false, apart := false, laid := [("decani/strain.nowhere", laid_decani_strain_nowhere), ("decani/strain.ways", laid_decani_strain_ways)], narrowed := true }
def StrainMoreUptoSaid : Prop := strainMoreUptoRow.holds Tryd.pinned (OpenSpec.upto strainMoreSpec)

/-- 'decanilaw04.StrainPlan', WHERE WHAT IT READS IS OF BULK AT MOST 1048576: true; the input reads as it did. -/
def strainPlanUptoRow : OpenClaim := { program := "ytjmjifbnckecjaadoor", sum := "f103fc908d48aa34b1a0c3a59f25bad77d2fd9d2f8470940bc58a72a6f38b537", func := "decani/decanilaw04.StrainPlan", spec := "strainPlan", unfollowed := true, recurses := true, named := ["decani/strain.nowhere", "decani/strain.ways"], plainKeys := false, apart := false, laid := [("decani/strain.nowhere", laid_decani_strain_nowhere), ("decani/strain.ways", laid_decani_strain_ways)], narrowed := true }
def StrainPlanUptoSaid : Prop := strainPlanUptoRow.holds Tryd.pinned (OpenSpec.upto strainPlanSpec)

/-- 'decanilaw04.StrainWrong', WHERE WHAT IT READS IS OF BULK AT MOST 1048576: true; the input reads as it did. -/
def strainWrongUptoRow : OpenClaim := { program := "ytjmjifbnckecjaadoor", sum := "f103fc908d48aa34b1a0c3a59f25bad77d2fd9d2f8470940bc58a72a6f38b537", func := "decani/decanilaw04.StrainWrong", spec := "strainWrong", unfollowed := true, recurses := true, named := ["decani/strain.nowhere", "decani/strain.ways"], plainKeys := false, apart := false, laid := [("decani/strain.nowhere", laid_decani_strain_nowhere), ("decani/strain.ways", laid_decani_strain_ways)], narrowed := true }
def StrainWrongUptoSaid : Prop := strainWrongUptoRow.holds Tryd.pinned (OpenSpec.upto strainWrongSpec)

/-- 'decanilaw04.StrainKnown', WHERE WHAT IT READS IS OF BULK AT MOST 1048576: true; the input reads as it did. -/
def strainKnownUptoRow : OpenClaim := { program := "ytjmjifbnckecjaadoor", sum := "f103fc908d48aa34b1a0c3a59f25bad77d2fd9d2f8470940bc58a72a6f38b537", func := "decani/decanilaw04.StrainKnown", spec := "strainKnown", unfollowed := true, recurses := true, named := ["decani/strain.nowhere", "decani/strain.ways"], plainKeys := false, apart := false, laid := [("decani/strain.nowhere", laid_decani_strain_nowhere), ("decani/strain.ways", laid_decani_strain_ways)], narrowed := true }
def StrainKnownUptoSaid : Prop := strainKnownUptoRow.holds Tryd.pinned (OpenSpec.upto strainKnownSpec)

end Rows
end Go.Proofs.YtjmjifbnckecjaaDoor
