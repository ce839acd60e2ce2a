/-
  NARROWER THAN 'FOR EVERY INPUT', by the rows' own cells (each row's printed sentence says how): CandleLefts: laid · CandleShorts: laid · CandleFits: laid · CandleTrue: laid · CandleEnds: laid · CandleMore: laid · CandleShort: laid · CandleBuy: laid · CandleOrder: laid · CandleIdle: laid · CandleWrong: laid · CandleKnown: laid.
  DERIVED. THE GIVEN ROWS OF THIS SEAT. 12 by the template 'for every input the law returns true; each argument reads behind the call as it read before'; 0 by the template 'total and deterministic' (their statements: YtdndhpoinffpbaaDoorTotals.lean).
  GIVEN WITH THE SEED: the statements are not yours to turn. If you find one false, say at which input.
  Laid BY PROGRAM, IN A SANDBOX (cutbox-rows.mjs): the forced cells as the released guide's own fill.sh prints them over the translation ed3855901b7dc275… (all of the seat's roots in one cut). By AI agents, Wed Nov 11 2026. No macro, syntax, notation, axiom, sorry.
-/
import Derived.Test.YtdndhpoinffpbaaDoorChecked
import GoSem.Claim
import GoSem.ClaimJoined
import GoSem.ClaimMapViews
import Derived.JoinedTies
import Derived.KernelRfl
namespace Go.Proofs.YtdndhpoinffpbaaDoor
/- THE CELL 'sum', in the pinned program and in every row, IS THE sha256 OF THE DUMP (.gsa) THAT YtdndhpoinffpbaaDoorProg.lean LOADS. Nothing in Lean hashes anything: it is a label: what it is worth is what the hold of that sum in a sandbox is worth. -/
noncomputable def Tryd.pinned : Pinned := { name := "ytdndhpoinffpbaadoor", sum := "ed3855901b7dc2751fd5b543cc2b712f7ece5614beece6499e4d8bc2e5d47910", checked := Tryd.checked }
namespace Rows
def none {H : Type} : Left H := { results := [], args := [] }

/- WHAT THE LISTED PACKAGE-LEVEL VARIABLES READ AS WHEN THE CALL BEGINS. Each datum BY PROGRAM (the guide's laid-datum.mjs) off the statement by which the dump's own 'gosem.cut.vars' lays the variable. In a bare row this is a premise. The card (YtdndhpoinffpbaaDoorCards.lean) ties it to the program's text. -/
def laid_decani_candle_nowhere {H : Type} : DataW H := .agg [.lit (.int .i64 (-1)), .lit (.int .i64 (-1))]
def laid_decani_candle_lacks {H : Type} : DataW H := .iface "func table" (.agg [.iface "func" (.lit (.string [40, 100, 101, 99, 97, 110, 105, 47, 99, 97, 110, 100, 108, 101, 46, 98, 111, 111, 107, 41, 46, 109, 97, 121])), .iface "func" (.lit (.string [40, 100, 101, 99, 97, 110, 105, 47, 99, 97, 110, 100, 108, 101, 46, 98, 111, 111, 107, 41, 46, 109, 117, 115, 116]))])

/-- 'decanilaw06.CandleLefts': WHATEVER THE INPUT: true; the input reads as it did. -/
def candleLeftsSpec : ChangeSpec := { name := "candleLefts", fn := fun _ => fun
  | [d1, d2] => { results := [.lit (.bool true)], args := [d1, d2] }
  | _ => none }
def candleLeftsRow : OpenClaim := { program := "ytdndhpoinffpbaadoor", sum := "ed3855901b7dc2751fd5b543cc2b712f7ece5614beece6499e4d8bc2e5d47910", func := "decani/decanilaw06.CandleLefts", spec := "candleLefts", unfollowed := true, recurses := true, named := ["decani/candle.nowhere", "decani/candle.lacks"], plainKeys := false, apart := false, laid := [("decani/candle.nowhere", laid_decani_candle_nowhere), ("decani/candle.lacks", laid_decani_candle_lacks)] }
def CandleLeftsSaid : Prop := candleLeftsRow.holds Tryd.pinned (OpenSpec.ofChange candleLeftsSpec)

/-- ITS FALSE NEIGHBOUR: 'it returns false'. Refute it at one input. -/
def candleLeftsWrong : ChangeSpec := { name := "candleLefts", fn := fun _ => fun
  | [d1, d2] => { results := [.lit (.bool false)], args := [d1, d2] }
  | _ => none }
def CandleLeftsWrongFalsely : Prop := candleLeftsRow.holds Tryd.pinned (OpenSpec.ofChange candleLeftsWrong)

/-- 'decanilaw06.CandleShorts': WHATEVER THE INPUT: true; the input reads as it did. -/
def candleShortsSpec : ChangeSpec := { name := "candleShorts", fn := fun _ => fun
  | [d1, d2] => { results := [.lit (.bool true)], args := [d1, d2] }
  | _ => none }
def candleShortsRow : OpenClaim := { program := "ytdndhpoinffpbaadoor", sum := "ed3855901b7dc2751fd5b543cc2b712f7ece5614beece6499e4d8bc2e5d47910", func := "decani/decanilaw06.CandleShorts", spec := "candleShorts", unfollowed := true, recurses := true, named := ["decani/candle.lacks", "decani/candle.nowhere"], plainKeys := false, apart := false, laid := [("decani/candle.nowhere", laid_decani_candle_nowhere), ("decani/candle.lacks", laid_decani_candle_lacks)] }
def CandleShortsSaid : Prop := candleShortsRow.holds Tryd.pinned (OpenSpec.ofChange candleShortsSpec)

/-- ITS FALSE NEIGHBOUR: 'it returns false'. Refute it at one input. -/
def candleShortsWrong : ChangeSpec := { name := "candleShorts", fn := fun _ => fun
  | [d1, d2] => { results := [.lit (.bool false)], args := [d1, d2] }
  | _ => none }
def CandleShortsWrongFalsely : Prop := candleShortsRow.holds Tryd.pinned (OpenSpec.ofChange candleShortsWrong)

/-- 'decanilaw06.CandleFits': WHATEVER THE INPUT: true; the input reads as it did. -/
def candleFitsSpec : ChangeSpec := { name := "candleFits", fn := fun _ => fun
  | [d1, d2] => { results := [.lit (.bool true)], args := [d1, d2] }
  | _ => none }
def candleFitsRow : OpenClaim := { program := "ytdndhpoinffpbaadoor", sum := "ed3855901b7dc2751fd5b543cc2b712f7ece5614beece6499e4d8bc2e5d47910", func := "decani/decanilaw06.CandleFits", spec := "candleFits", unfollowed := true, recurses := true, named := ["decani/candle.nowhere", "decani/candle.lacks"], plainKeys := false, apart := false, laid := [("decani/candle.nowhere", laid_decani_candle_nowhere), ("decani/candle.lacks", laid_decani_candle_lacks)] }
def CandleFitsSaid : Prop := candleFitsRow.holds Tryd.pinned (OpenSpec.ofChange candleFitsSpec)

/-- ITS FALSE NEIGHBOUR: 'it returns false'. Refute it at one input. -/
def candleFitsWrong : ChangeSpec := { name := "candleFits", fn := fun _ => fun
  | [d1, d2] => { results := [.lit (.bool false)], args := [d1, d2] }
  | _ => none }
def CandleFitsWrongFalsely : Prop := candleFitsRow.holds Tryd.pinned (OpenSpec.ofChange candleFitsWrong)

/-- 'decanilaw06.CandleTrue': WHATEVER THE INPUT: true; the input reads as it did. -/
def candleTrueSpec : ChangeSpec := { name := "candleTrue", fn := fun _ => fun
  | [d1, d2, d3] => { results := [.lit (.bool true)], args := [d1, d2, d3] }
  | _ => none }
def candleTrueRow : OpenClaim := { program := "ytdndhpoinffpbaadoor", sum := "ed3855901b7dc2751fd5b543cc2b712f7ece5614beece6499e4d8bc2e5d47910", func := "decani/decanilaw06.CandleTrue", spec := "candleTrue", unfollowed := true, recurses := true, named := ["decani/candle.nowhere", "decani/candle.lacks"], plainKeys := false, apart := false, laid := [("decani/candle.nowhere", laid_decani_candle_nowhere), ("decani/candle.lacks", laid_decani_candle_lacks)] }
def CandleTrueSaid : Prop := candleTrueRow.holds Tryd.pinned (OpenSpec.ofChange candleTrueSpec)

/-- ITS FALSE NEIGHBOUR: 'it returns false'. Refute it at one input. -/
def candleTrueWrong : ChangeSpec := { name := "candleTrue", fn := fun _ => fun
  | [d1, d2, d3] => { results := [.lit (.bool false)], args := [d1, d2, d3] }
  | _ => none }
def CandleTrueWrongFalsely : Prop := candleTrueRow.holds Tryd.pinned (OpenSpec.ofChange candleTrueWrong)

/-- 'decanilaw06.CandleEnds': WHATEVER THE INPUT: true; the input reads as it did. -/
def candleEndsSpec : ChangeSpec := { name := "candleEnds", fn := fun _ => fun
  | [d1, d2] => { results := [.lit (.bool true)], args := [d1, d2] }
  | _ => none }
def candleEndsRow : OpenClaim := { program := "ytdndhpoinffpbaadoor", sum := "ed3855901b7dc2751fd5b543cc2b712f7ece5614beece6499e4d8bc2e5d47910", func := "decani/decanilaw06.CandleEnds", spec := "candleEnds", unfollowed := true, recurses := true, named := ["decani/candle.nowhere", "decani/candle.lacks"], plainKeys := false, apart := false, laid := [("decani/candle.nowhere", laid_decani_candle_nowhere), ("decani/candle.lacks", laid_decani_candle_lacks)] }
def CandleEndsSaid : Prop := candleEndsRow.holds Tryd.pinned (OpenSpec.ofChange candleEndsSpec)

/-- ITS FALSE NEIGHBOUR: 'it returns false'. Refute it at one input. -/
def candleEndsWrong : ChangeSpec := { name := "candleEnds", fn := fun _ => fun
  | [d1, d2] => { results := [.lit (.bool false)], args := [d1, d2] }
  | _ => none }
def CandleEndsWrongFalsely : Prop := candleEndsRow.holds Tryd.pinned (OpenSpec.ofChange candleEndsWrong)

/-- 'decanilaw06.CandleMore': WHATEVER THE INPUT: true; the input reads as it did. -/
def candleMoreSpec : ChangeSpec := { name := "candleMore", fn := fun _ => fun
  | [d1, d2, d3] => { results := [.lit (.bool true)], args := [d1, d2, d3] }
  | _ => none }
def candleMoreRow : OpenClaim := { program := "ytdndhpoinffpbaadoor", sum := "ed3855901b7dc2751fd5b543cc2b712f7ece5614beece6499e4d8bc2e5d47910", func := "decani/decanilaw06.CandleMore", spec := "candleMore", unfollowed := true, recurses := true, named := ["decani/candle.nowhere", "decani/candle.lacks"], plainKeys := false, apart := false, laid := [("decani/candle.nowhere", laid_decani_candle_nowhere), ("decani/candle.lacks", laid_decani_candle_lacks)] }
def CandleMoreSaid : Prop := candleMoreRow.holds Tryd.pinned (OpenSpec.ofChange candleMoreSpec)

/-- ITS FALSE NEIGHBOUR: 'it returns false'. Refute it at one input. -/
def candleMoreWrong : ChangeSpec := { name := "candleMore", fn := fun _ => fun
  | [d1, d2, d3] => { results := [.lit (.bool false)], args := [d1, d2, d3] }
  | _ => none }
def CandleMoreWrongFalsely : Prop := candleMoreRow.holds Tryd.pinned (OpenSpec.ofChange candleMoreWrong)

/-- 'decanilaw06.CandleShort': WHATEVER THE INPUT: true; the input reads as it did. -/
def candleShortSpec : ChangeSpec := { name := "candleShort", fn := fun _ => fun
  | [d1, d2] => { results := [.lit (.bool true)], args := [d1, d2] }
  | _ => none }
def candleShortRow : OpenClaim := { program := "ytdndhpoinffpbaadoor", sum := "ed3855901b7dc2751fd5b543cc2b712f7ece5614beece6499e4d8bc2e5d47910", func := "decani/decanilaw06.CandleShort", spec := "candleShort", unfollowed := true, recurses := true, named := ["decani/candle.nowhere", "decani/candle.lacks"], plainKeys := false, apart := false, laid := [("decani/candle.nowhere", laid_decani_candle_nowhere), ("decani/candle.lacks", laid_decani_candle_lacks)] }
def CandleShortSaid : Prop := candleShortRow.holds Tryd.pinned (OpenSpec.ofChange candleShortSpec)

/-- ITS FALSE NEIGHBOUR: 'it returns false'. Refute it at one input. -/
def candleShortWrong : ChangeSpec := { name := "candleShort", fn := fun _ => fun
  | [d1, d2] => { results := [.lit (.bool false)], args := [d1, d2] }
  | _ => none }
def CandleShortWrongFalsely : Prop := candleShortRow.holds Tryd.pinned (OpenSpec.ofChange candleShortWrong)

/-- 'decanilaw06.CandleBuy': WHATEVER THE INPUT: true; the input reads as it did. -/
def candleBuySpec : ChangeSpec := { name := "candleBuy", fn := fun _ => fun
  | [d1, d2] => { results := [.lit (.bool true)], args := [d1, d2] }
  | _ => none }
def candleBuyRow : OpenClaim := { program := "ytdndhpoinffpbaadoor", sum := "ed3855901b7dc2751fd5b543cc2b712f7ece5614beece6499e4d8bc2e5d47910", func := "decani/decanilaw06.CandleBuy", spec := "candleBuy", unfollowed := true, recurses := true, named := ["decani/candle.nowhere", "decani/candle.lacks"], plainKeys := false, apart := false, laid := [("decani/candle.nowhere", laid_decani_candle_nowhere), ("decani/candle.lacks", laid_decani_candle_lacks)] }
def CandleBuySaid : Prop := candleBuyRow.holds Tryd.pinned (OpenSpec.ofChange candleBuySpec)

/-- ITS FALSE NEIGHBOUR: 'it returns false'. Refute it at one input. -/
def candleBuyWrong : ChangeSpec := { name := "candleBuy", fn := fun _ => fun
  | [d1, d2] => { results := [.lit (.bool false)], args := [d1, d2] }
  | _ => none }
def CandleBuyWrongFalsely : Prop := candleBuyRow.holds Tryd.pinned (OpenSpec.ofChange candleBuyWrong)

/-- 'decanilaw06.CandleOrder': WHATEVER THE INPUT: true; the input reads as it did. -/
def candleOrderSpec : ChangeSpec := { name := "candleOrder", fn := fun _ => fun
  | [d1, d2] => { results := [.lit (.bool true)], args := [d1, d2] }
  | _ => none }
def candleOrderRow : OpenClaim := { program := "ytdndhpoinffpbaadoor", sum := "ed3855901b7dc2751fd5b543cc2b712f7ece5614beece6499e4d8bc2e5d47910", func := "decani/decanilaw06.CandleOrder", spec := "candleOrder", unfollowed := true, recurses := true, named := ["decani/candle.nowhere", "decani/candle.lacks"], plainKeys := false, apart := false, laid := [("decani/candle.nowhere", laid_decani_candle_nowhere), ("decani/candle.lacks", laid_decani_candle_lacks)] }
def CandleOrderSaid : Prop := candleOrderRow.holds Tryd.pinned (OpenSpec.ofChange candleOrderSpec)

/-- ITS FALSE NEIGHBOUR: 'it returns false'. Refute it at one input. -/
def candleOrderWrong : ChangeSpec := { name := "candleOrder", fn := fun _ => fun
  | [d1, d2] => { results := [.lit (.bool false)], args := [d1, d2] }
  | _ => none }
def CandleOrderWrongFalsely : Prop := candleOrderRow.holds Tryd.pinned (OpenSpec.ofChange candleOrderWrong)

/-- 'decanilaw06.CandleIdle': WHATEVER THE INPUT: true; the input reads as it did. -/
def candleIdleSpec : ChangeSpec := { name := "candleIdle", fn := fun _ => fun
  | [d1, d2] => { results := [.lit (.bool true)], args := [d1, d2] }
  | _ => none }
def candleIdleRow : OpenClaim := { program := "ytdndhpoinffpbaadoor", sum := "ed3855901b7dc2751fd5b543cc2b712f7ece5614beece6499e4d8bc2e5d47910", func := "decani/decanilaw06.CandleIdle", spec := "candleIdle", unfollowed := true, recurses := true, named := ["decani/candle.nowhere", "decani/candle.lacks"], plainKeys := false, apart := false, laid := [("decani/candle.nowhere", laid_decani_candle_nowhere), ("decani/candle.lacks", laid_decani_candle_lacks)] }
def CandleIdleSaid : Prop := candleIdleRow.holds Tryd.pinned (OpenSpec.ofChange candleIdleSpec)

/-- ITS FALSE NEIGHBOUR: 'it returns false'. Refute it at one input. -/
def candleIdleWrong : ChangeSpec := { name := "candleIdle", fn := fun _ => fun
  | [d1, d2] => { results := [.lit (.bool false)], args := [d1, d2] }
  | _ => none }
def CandleIdleWrongFalsely : Prop := candleIdleRow.holds Tryd.pinned (OpenSpec.ofChange candleIdleWrong)

/-- 'decanilaw06.CandleWrong': WHATEVER THE INPUT: true; the input reads as it did. -/
def candleWrongSpec : ChangeSpec := { name := "candleWrong", fn := fun _ => fun
  | [d1, d2] => { results := [.lit (.bool true)], args := [d1, d2] }
  | _ => none }
def candleWrongRow : OpenClaim := { program := "ytdndhpoinffpbaadoor", sum := "ed3855901b7dc2751fd5b543cc2b712f7ece5614beece6499e4d8bc2e5d47910", func := "decani/decanilaw06.CandleWrong", spec := "candleWrong", unfollowed := true, recurses := true, named := ["decani/candle.nowhere", "decani/candle.lacks"], plainKeys := false, apart := false, laid := [("decani/candle.nowhere", laid_decani_candle_nowhere), ("decani/candle.lacks", laid_decani_candle_lacks)] }
def CandleWrongSaid : Prop := candleWrongRow.holds Tryd.pinned (OpenSpec.ofChange candleWrongSpec)

/-- ITS FALSE NEIGHBOUR: 'it returns false'. Refute it at one input. -/
def candleWrongWrong : ChangeSpec := { name := "candleWrong", fn := fun _ => fun
  | [d1, d2] => { results := [.lit (.bool false)], args := [d1, d2] }
  | _ => none }
def CandleWrongWrongFalsely : Prop := candleWrongRow.holds Tryd.pinned (OpenSpec.ofChange candleWrongWrong)

/-- 'decanilaw06.CandleKnown': WHATEVER THE INPUT: true; the input reads as it did. -/
def candleKnownSpec : ChangeSpec := { name := "candleKnown", fn := fun _ => fun
  | [] => { results := [.lit (.bool true)], args := [] }
  | _ => none }
def candleKnownRow : OpenClaim := { program := "ytdndhpoinffpbaadoor", sum := "ed3855901b7dc2751fd5b543cc2b712f7ece5614beece6499e4d8bc2e5d47910", func := "decani/decanilaw06.CandleKnown", spec := "candleKnown", unfollowed := true, recurses := true, named := ["decani/candle.nowhere", "decani/candle.lacks"], plainKeys := false, apart := false, laid := [("decani/candle.nowhere", laid_decani_candle_nowhere), ("decani/candle.lacks", laid_decani_candle_lacks)] }
def CandleKnownSaid : Prop := candleKnownRow.holds Tryd.pinned (OpenSpec.ofChange candleKnownSpec)

/-- ITS FALSE NEIGHBOUR: 'it returns false'. Refute it at one input. -/
def candleKnownWrong : ChangeSpec := { name := "candleKnown", fn := fun _ => fun
  | [] => { results := [.lit (.bool false)], args := [] }
  | _ => none }
def CandleKnownWrongFalsely : Prop := candleKnownRow.holds Tryd.pinned (OpenSpec.ofChange candleKnownWrong)

/- THE SECOND FORM. 'bulk': how many values and letters a reading holds, each counted each time it is reached (what is shared counts as often as it is met; a slice's spare places count too). A statement '..UptoSaid' is the law's where the arguments, and the package variables that the reading takes, are together of bulk at most 1048576: NARROWER than '..Said'. Prove '..Said' where nothing that the law and all that it calls make is longer than what came in: it says more and counts as full. Else prove '..UptoSaid'. A law counts once. -/
mutual
def uptoBulk {H : Type} : DataW H → Nat
  | .lit (.string bytes) => bytes.length + 1
  | .lit _ => 1
  | .nil => 1
  | .ptr d => uptoBulk d + 1
  | .slice elems spare => uptoBulkAll elems + uptoBulkAll spare + 1
  | .agg parts => uptoBulkAll parts + 1
  | .iface _ d => uptoBulk d + 1
  | .map entries => uptoBulkEntries entries + 1
  | .held _ => 1
def uptoBulkAll {H : Type} : List (DataW H) → Nat
  | [] => 0
  | d :: r => uptoBulk d + uptoBulkAll r
def uptoBulkEntries {H : Type} : List (Lit × DataW H) → Nat
  | [] => 0
  | x :: r => uptoBulkEntry x + uptoBulkEntries r
def uptoBulkEntry {H : Type} : Lit × DataW H → Nat
  | (.string bytes, d) => bytes.length + uptoBulk d + 1
  | (_, d) => uptoBulk d + 1
 end
def uptoSmall : (H : Type) → List (DataW H) → Bool := fun _ ds => decide (uptoBulkAll ds ≤ 1048576)
def OpenSpec.upto (s : _root_.Go.ChangeSpec) : _root_.Go.OpenSpec := { _root_.Go.OpenSpec.ofChange s with cond := some uptoSmall }

/-- 'decanilaw06.CandleLefts', WHERE WHAT IT READS IS OF BULK AT MOST 1048576: true; the input reads as it did. -/
def candleLeftsUptoRow : OpenClaim := { program := "ytdndhpoinffpbaadoor", sum := "ed3855901b7dc2751fd5b543cc2b712f7ece5614beece6499e4d8bc2e5d47910", func := "decani/decanilaw06.CandleLefts", spec := "candleLefts", unfollowed := true, recurses := true, named := ["decani/candle.nowhere", "decani/candle.lacks"], plainKeys := false, apart := false, laid := [("decani/candle.nowhere", laid_decani_candle_nowhere), ("decani/candle.lacks", laid_decani_candle_lacks)], narrowed := true }
def CandleLeftsUptoSaid : Prop := candleLeftsUptoRow.holds Tryd.pinned (OpenSpec.upto candleLeftsSpec)

/-- 'decanilaw06.CandleShorts', WHERE WHAT IT READS IS OF BULK AT MOST 1048576: true; the input reads as it did. -/
def candleShortsUptoRow : OpenClaim := { program := "ytdndhpoinffpbaadoor", sum := "ed3855901b7dc2751fd5b543cc2b712f7ece5614beece6499e4d8bc2e5d47910", func := "decani/decanilaw06.CandleShorts", spec := "candleShorts", unfollowed := true, recurses := true, named := ["decani/candle.lacks", "decani/candle.nowhere"], plainKeys := false, apart := false, laid := [("decani/candle.nowhere", laid_decani_candle_nowhere), ("decani/candle.lacks", laid_decani_candle_lacks)], narrowed := true }
def CandleShortsUptoSaid : Prop := candleShortsUptoRow.holds Tryd.pinned (OpenSpec.upto candleShortsSpec)

/-- 'decanilaw06.CandleFits', WHERE WHAT IT READS IS OF BULK AT MOST 1048576: true; the input reads as it did. -/
def candleFitsUptoRow : OpenClaim := { program := "ytdndhpoinffpbaadoor", sum := "ed3855901b7dc2751fd5b543cc2b712f7ece5614beece6499e4d8bc2e5d47910", func := "decani/decanilaw06.CandleFits", spec := "candleFits", unfollowed := true, recurses := true, named := ["decani/candle.nowhere", "decani/candle.lacks"], plainKeys := false, apart := false, laid := [("decani/candle.nowhere", laid_decani_candle_nowhere), ("decani/candle.lacks", laid_decani_candle_lacks)], narrowed := true }
def CandleFitsUptoSaid : Prop := candleFitsUptoRow.holds Tryd.pinned (OpenSpec.upto candleFitsSpec)

/-- 'decanilaw06.CandleTrue', WHERE WHAT IT READS IS OF BULK AT MOST 1048576: true; the input reads as it did. -/
def candleTrueUptoRow : OpenClaim := { program := "ytdndhpoinffpbaadoor", sum := "ed3855901b7dc2751fd5b543cc2b712f7ece5614beece6499e4d8bc2e5d47910", func := "decani/decanilaw06.CandleTrue", spec := "candleTrue", unfollowed := true, recurses := true, named := ["decani/candle.nowhere", "decani/candle.lacks"], plainKeys := false, apart := false, laid := [("decani/candle.nowhere", laid_decani_candle_nowhere), ("decani/candle.lacks", laid_decani_candle_lacks)], narrowed := true }
def CandleTrueUptoSaid : Prop := candleTrueUptoRow.holds Tryd.pinned (OpenSpec.upto candleTrueSpec)

/-- 'decanilaw06.CandleEnds', WHERE WHAT IT READS IS OF BULK AT MOST 1048576: true; the input reads as it did. -/
def candleEndsUptoRow : OpenClaim := { program := "ytdndhpoinffpbaadoor", sum := "ed3855901b7dc2751fd5b543cc2b712f7ece5614beece6499e4d8bc2e5d47910", func := "decani/decanilaw06.CandleEnds", spec := "candleEnds", unfollowed := true, recurses := true, named := ["decani/candle.nowhere", "decani/candle.lacks"], plainKeys := false, apart := false, laid := [("decani/candle.nowhere", laid_decani_candle_nowhere), ("decani/candle.lacks", laid_decani_candle_lacks)], narrowed := true }
def CandleEndsUptoSaid : Prop := candleEndsUptoRow.holds Tryd.pinned (OpenSpec.upto candleEndsSpec)

/-- 'decanilaw06.CandleMore', WHERE WHAT IT READS IS OF BULK AT MOST 1048576: true; the input reads as it did. -/
def candleMoreUptoRow : OpenClaim := { program := "ytdndhpoinffpbaadoor", sum := "ed3855901b7dc2751fd5b543cc2b712f7ece5614beece6499e4d8bc2e5d47910", func := "decani/decanilaw06.CandleMore", spec := "candleMore", unfollowed := true, recurses := true, named := ["decani/candle.nowhere", "decani/candle.lacks"], plainKeys := false, apart := false, laid := [("decani/candle.nowhere", laid_decani_candle_nowhere), ("decani/candle.lacks", laid_decani_candle_lacks)], narrowed := true }
def CandleMoreUptoSaid : Prop := candleMoreUptoRow.holds Tryd.pinned (OpenSpec.upto candleMoreSpec)

/-- 'decanilaw06.CandleShort', WHERE WHAT IT READS IS OF BULK AT MOST 1048576: true; the input reads as it did. -/
def candleShortUptoRow : OpenClaim := { program := "ytdndhpoinffpbaadoor", sum := "ed3855901b7dc2751fd5b543cc2b712f7ece5614beece6499e4d8bc2e5d47910", func := "decani/decanilaw06.CandleShort", spec := "candleShort", unfollowed := true, recurses := true, named := ["decani/candle.nowhere", "decani/candle.lacks"], plainKeys := false, apart := false, laid := [("decani/candle.nowhere", laid_decani_candle_nowhere), ("decani/candle.lacks", laid_decani_candle_lacks)], narrowed := true }
def CandleShortUptoSaid : Prop := candleShortUptoRow.holds Tryd.pinned (OpenSpec.upto candleShortSpec)

/-- 'decanilaw06.CandleBuy', WHERE WHAT IT READS IS OF BULK AT MOST 1048576: true; the input reads as it did. -/
def candleBuyUptoRow : OpenClaim := { program := "ytdndhpoinffpbaadoor", sum := "ed3855901b7dc2751fd5b543cc2b712f7ece5614beece6499e4d8bc2e5d47910", func := "decani/decanilaw06.CandleBuy", spec := "candleBuy", unfollowed := true, recurses := true, named := ["decani/candle.nowhere", "decani/candle.lacks"], plainKeys := false, apart := false, laid := [("decani/candle.nowhere", laid_decani_candle_nowhere), ("decani/candle.lacks", laid_decani_candle_lacks)], narrowed := true }
def CandleBuyUptoSaid : Prop := candleBuyUptoRow.holds Tryd.pinned (OpenSpec.upto candleBuySpec)

/-- 'decanilaw06.CandleOrder', WHERE WHAT IT READS IS OF BULK AT MOST 1048576: true; the input reads as it did. -/
def candleOrderUptoRow : OpenClaim := { program := "ytdndhpoinffpbaadoor", sum := "ed3855901b7dc2751fd5b543cc2b712f7ece5614beece6499e4d8bc2e5d47910", func := "decani/decanilaw06.CandleOrder", spec := "candleOrder", unfollowed := true, recurses := true, named := ["decani/candle.nowhere", "decani/candle.lacks"], plainKeys := false, apart := false, laid := [("decani/candle.nowhere", laid_decani_candle_nowhere), ("decani/candle.lacks", laid_decani_candle_lacks)], narrowed := true }
def CandleOrderUptoSaid : Prop := candleOrderUptoRow.holds Tryd.pinned (OpenSpec.upto candleOrderSpec)

/-- 'decanilaw06.CandleIdle', WHERE WHAT IT READS IS OF BULK AT MOST 1048576: true; the input reads as it did. -/
def candleIdleUptoRow : OpenClaim := { program := "ytdndhpoinffpbaadoor", sum := "ed3855901b7dc2751fd5b543cc2b712f7ece5614beece6499e4d8bc2e5d47910", func := "decani/decanilaw06.CandleIdle", spec := "candleIdle", unfollowed := true, recurses := true, named := ["decani/candle.nowhere", "decani/candle.lacks"], plainKeys := false, apart := false, laid := [("decani/candle.nowhere", laid_decani_candle_nowhere), ("decani/candle.lacks", laid_decani_candle_lacks)], narrowed := true }
def CandleIdleUptoSaid : Prop := candleIdleUptoRow.holds Tryd.pinned (OpenSpec.upto candleIdleSpec)

/-- 'decanilaw06.CandleWrong', WHERE WHAT IT READS IS OF BULK AT MOST 1048576: true; the input reads as it did. -/
def candleWrongUptoRow : OpenClaim := { program := "ytdndhpoinffpbaadoor", sum := "ed3855901b7dc2751fd5b543cc2b712f7ece5614beece6499e4d8bc2e5d47910", func := "decani/decanilaw06.CandleWrong", spec := "candleWrong", unfollowed := true, recurses := true, named := ["decani/candle.nowhere", "decani/candle.lacks"], plainKeys := false, apart := false, laid := [("decani/candle.nowhere", laid_decani_candle_nowhere), ("decani/candle.lacks", laid_decani_candle_lacks)], narrowed := true }
def CandleWrongUptoSaid : Prop := candleWrongUptoRow.holds Tryd.pinned (OpenSpec.upto candleWrongSpec)

/-- 'decanilaw06.CandleKnown', WHERE WHAT IT READS IS OF BULK AT MOST 1048576: true; the input reads as it did. -/
def candleKnownUptoRow : OpenClaim := { program := "ytdndhpoinffpbaadoor", sum := "ed3855901b7dc2751fd5b543cc2b712f7ece5614beece6499e4d8bc2e5d47910", func := "decani/decanilaw06.CandleKnown", spec := "candleKnown", unfollowed := true, recurses := true, named := ["decani/candle.nowhere", "decani/candle.lacks"], plainKeys := false, apart := false, laid := [("decani/candle.nowhere", laid_decani_candle_nowhere), ("decani/candle.lacks", laid_decani_candle_lacks)], narrowed := true }
def CandleKnownUptoSaid : Prop := candleKnownUptoRow.holds Tryd.pinned (OpenSpec.upto candleKnownSpec)

end Rows
end Go.Proofs.YtdndhpoinffpbaaDoor
