/-
  DERIVED. GIVEN WITH THE SEED: THE CARDS: each row of YtdndhpoinffpbaaDoorRows.lean that lists a variable, with what it lists TIED to the program's text (the seventh form; the later family's looks); each row that meets fmt, with fmt's text TOLD by the authors' own Lean function (tested against real Go, not proved from fmt's source: count such statements apart). THE CARD IS WHAT COUNTS. Prove the row's statement (the work); the ties are given (YtdndhpoinffpbaaDoorTie.lean); close each card by the builder's one call (the guide's Derived/Test/ToyasCard.lean, 'card_holds'). Laid BY PROGRAM, IN A SANDBOX (cutbox-door.mjs). By AI agents, Wed Nov 11 2026. No macro, syntax, notation, axiom, sorry.
-/
import Derived.Test.YtdndhpoinffpbaaDoorRows
import GoSem.ClaimSeven
namespace Go.Proofs.YtdndhpoinffpbaaDoor
namespace Rows

/-- THE TIED CARD OF 'decanilaw06.CandleLefts'. -/
def candleLeftsCard : Claim7 := { stood := { row := candleLeftsRow, standIns := [], harness := (true, "60d50f35f64f42411113777cba31078ec0ca6d528e83348940a62dd418a71482"), looks := false }, kinds := [], alts := [], laidByText := true, laidKinds := [.data, .funcs], laidTests := true, laidLooks := .later }
def CandleLeftsCardSaid : Prop := Claim7.holds Tryd.pinned (.plain (OpenSpec.ofChange candleLeftsSpec)) candleLeftsCard

/-- THE TIED CARD OF 'decanilaw06.CandleShorts'. -/
def candleShortsCard : Claim7 := { stood := { row := candleShortsRow, standIns := [], harness := (true, "60d50f35f64f42411113777cba31078ec0ca6d528e83348940a62dd418a71482"), looks := false }, kinds := [], alts := [], laidByText := true, laidKinds := [.data, .funcs], laidTests := true, laidLooks := .later }
def CandleShortsCardSaid : Prop := Claim7.holds Tryd.pinned (.plain (OpenSpec.ofChange candleShortsSpec)) candleShortsCard

/-- THE TIED CARD OF 'decanilaw06.CandleFits'. -/
def candleFitsCard : Claim7 := { stood := { row := candleFitsRow, standIns := [], harness := (true, "60d50f35f64f42411113777cba31078ec0ca6d528e83348940a62dd418a71482"), looks := false }, kinds := [], alts := [], laidByText := true, laidKinds := [.data, .funcs], laidTests := true, laidLooks := .later }
def CandleFitsCardSaid : Prop := Claim7.holds Tryd.pinned (.plain (OpenSpec.ofChange candleFitsSpec)) candleFitsCard

/-- THE TIED CARD OF 'decanilaw06.CandleTrue'. -/
def candleTrueCard : Claim7 := { stood := { row := candleTrueRow, standIns := [], harness := (true, "60d50f35f64f42411113777cba31078ec0ca6d528e83348940a62dd418a71482"), looks := false }, kinds := [], alts := [], laidByText := true, laidKinds := [.data, .funcs], laidTests := true, laidLooks := .later }
def CandleTrueCardSaid : Prop := Claim7.holds Tryd.pinned (.plain (OpenSpec.ofChange candleTrueSpec)) candleTrueCard

/-- THE TIED CARD OF 'decanilaw06.CandleEnds'. -/
def candleEndsCard : Claim7 := { stood := { row := candleEndsRow, standIns := [], harness := (true, "60d50f35f64f42411113777cba31078ec0ca6d528e83348940a62dd418a71482"), looks := false }, kinds := [], alts := [], laidByText := true, laidKinds := [.data, .funcs], laidTests := true, laidLooks := .later }
def CandleEndsCardSaid : Prop := Claim7.holds Tryd.pinned (.plain (OpenSpec.ofChange candleEndsSpec)) candleEndsCard

/-- THE TIED CARD OF 'decanilaw06.CandleMore'. -/
def candleMoreCard : Claim7 := { stood := { row := candleMoreRow, standIns := [], harness := (true, "60d50f35f64f42411113777cba31078ec0ca6d528e83348940a62dd418a71482"), looks := false }, kinds := [], alts := [], laidByText := true, laidKinds := [.data, .funcs], laidTests := true, laidLooks := .later }
def CandleMoreCardSaid : Prop := Claim7.holds Tryd.pinned (.plain (OpenSpec.ofChange candleMoreSpec)) candleMoreCard

/-- THE TIED CARD OF 'decanilaw06.CandleShort'. -/
def candleShortCard : Claim7 := { stood := { row := candleShortRow, standIns := [], harness := (true, "60d50f35f64f42411113777cba31078ec0ca6d528e83348940a62dd418a71482"), looks := false }, kinds := [], alts := [], laidByText := true, laidKinds := [.data, .funcs], laidTests := true, laidLooks := .later }
def CandleShortCardSaid : Prop := Claim7.holds Tryd.pinned (.plain (OpenSpec.ofChange candleShortSpec)) candleShortCard

/-- THE TIED CARD OF 'decanilaw06.CandleBuy'. -/
def candleBuyCard : Claim7 := { stood := { row := candleBuyRow, standIns := [], harness := (true, "60d50f35f64f42411113777cba31078ec0ca6d528e83348940a62dd418a71482"), looks := false }, kinds := [], alts := [], laidByText := true, laidKinds := [.data, .funcs], laidTests := true, laidLooks := .later }
def CandleBuyCardSaid : Prop := Claim7.holds Tryd.pinned (.plain (OpenSpec.ofChange candleBuySpec)) candleBuyCard

/-- THE TIED CARD OF 'decanilaw06.CandleOrder'. -/
def candleOrderCard : Claim7 := { stood := { row := candleOrderRow, standIns := [], harness := (true, "60d50f35f64f42411113777cba31078ec0ca6d528e83348940a62dd418a71482"), looks := false }, kinds := [], alts := [], laidByText := true, laidKinds := [.data, .funcs], laidTests := true, laidLooks := .later }
def CandleOrderCardSaid : Prop := Claim7.holds Tryd.pinned (.plain (OpenSpec.ofChange candleOrderSpec)) candleOrderCard

/-- THE TIED CARD OF 'decanilaw06.CandleIdle'. -/
def candleIdleCard : Claim7 := { stood := { row := candleIdleRow, standIns := [], harness := (true, "60d50f35f64f42411113777cba31078ec0ca6d528e83348940a62dd418a71482"), looks := false }, kinds := [], alts := [], laidByText := true, laidKinds := [.data, .funcs], laidTests := true, laidLooks := .later }
def CandleIdleCardSaid : Prop := Claim7.holds Tryd.pinned (.plain (OpenSpec.ofChange candleIdleSpec)) candleIdleCard

/-- THE TIED CARD OF 'decanilaw06.CandleWrong'. -/
def candleWrongCard : Claim7 := { stood := { row := candleWrongRow, standIns := [], harness := (true, "60d50f35f64f42411113777cba31078ec0ca6d528e83348940a62dd418a71482"), looks := false }, kinds := [], alts := [], laidByText := true, laidKinds := [.data, .funcs], laidTests := true, laidLooks := .later }
def CandleWrongCardSaid : Prop := Claim7.holds Tryd.pinned (.plain (OpenSpec.ofChange candleWrongSpec)) candleWrongCard

/-- THE TIED CARD OF 'decanilaw06.CandleKnown'. -/
def candleKnownCard : Claim7 := { stood := { row := candleKnownRow, standIns := [], harness := (true, "60d50f35f64f42411113777cba31078ec0ca6d528e83348940a62dd418a71482"), looks := false }, kinds := [], alts := [], laidByText := true, laidKinds := [.data, .funcs], laidTests := true, laidLooks := .later }
def CandleKnownCardSaid : Prop := Claim7.holds Tryd.pinned (.plain (OpenSpec.ofChange candleKnownSpec)) candleKnownCard

/-- THE SECOND FORM's CARD OF 'decanilaw06.CandleLefts'. -/
def candleLeftsUptoCard : Claim7 := { stood := { row := candleLeftsUptoRow, standIns := [], harness := (true, "60d50f35f64f42411113777cba31078ec0ca6d528e83348940a62dd418a71482"), looks := false }, kinds := [], alts := [], laidByText := true, laidKinds := [.data, .funcs], laidTests := true, laidLooks := .later }
def CandleLeftsUptoCardSaid : Prop := Claim7.holds Tryd.pinned (.plain (OpenSpec.upto candleLeftsSpec)) candleLeftsUptoCard

/-- THE SECOND FORM's CARD OF 'decanilaw06.CandleShorts'. -/
def candleShortsUptoCard : Claim7 := { stood := { row := candleShortsUptoRow, standIns := [], harness := (true, "60d50f35f64f42411113777cba31078ec0ca6d528e83348940a62dd418a71482"), looks := false }, kinds := [], alts := [], laidByText := true, laidKinds := [.data, .funcs], laidTests := true, laidLooks := .later }
def CandleShortsUptoCardSaid : Prop := Claim7.holds Tryd.pinned (.plain (OpenSpec.upto candleShortsSpec)) candleShortsUptoCard

/-- THE SECOND FORM's CARD OF 'decanilaw06.CandleFits'. -/
def candleFitsUptoCard : Claim7 := { stood := { row := candleFitsUptoRow, standIns := [], harness := (true, "60d50f35f64f42411113777cba31078ec0ca6d528e83348940a62dd418a71482"), looks := false }, kinds := [], alts := [], laidByText := true, laidKinds := [.data, .funcs], laidTests := true, laidLooks := .later }
def CandleFitsUptoCardSaid : Prop := Claim7.holds Tryd.pinned (.plain (OpenSpec.upto candleFitsSpec)) candleFitsUptoCard

/-- THE SECOND FORM's CARD OF 'decanilaw06.CandleTrue'. -/
def candleTrueUptoCard : Claim7 := { stood := { row := candleTrueUptoRow, standIns := [], harness := (true, "60d50f35f64f42411113777cba31078ec0ca6d528e83348940a62dd418a71482"), looks := false }, kinds := [], alts := [], laidByText := true, laidKinds := [.data, .funcs], laidTests := true, laidLooks := .later }
def CandleTrueUptoCardSaid : Prop := Claim7.holds Tryd.pinned (.plain (OpenSpec.upto candleTrueSpec)) candleTrueUptoCard

/-- THE SECOND FORM's CARD OF 'decanilaw06.CandleEnds'. -/
def candleEndsUptoCard : Claim7 := { stood := { row := candleEndsUptoRow, standIns := [], harness := (true, "60d50f35f64f42411113777cba31078ec0ca6d528e83348940a62dd418a71482"), looks := false }, kinds := [], alts := [], laidByText := true, laidKinds := [.data, .funcs], laidTests := true, laidLooks := .later }
def CandleEndsUptoCardSaid : Prop := Claim7.holds Tryd.pinned (.plain (OpenSpec.upto candleEndsSpec)) candleEndsUptoCard

/-- THE SECOND FORM's CARD OF 'decanilaw06.CandleMore'. -/
def candleMoreUptoCard : Claim7 := { stood := { row := candleMoreUptoRow, standIns := [], harness := (true, "60d50f35f64f42411113777cba31078ec0ca6d528e83348940a62dd418a71482"), looks := false }, kinds := [], alts := [], laidByText := true, laidKinds := [.data, .funcs], laidTests := true, laidLooks := .later }
def CandleMoreUptoCardSaid : Prop := Claim7.holds Tryd.pinned (.plain (OpenSpec.upto candleMoreSpec)) candleMoreUptoCard

/-- THE SECOND FORM's CARD OF 'decanilaw06.CandleShort'. -/
def candleShortUptoCard : Claim7 := { stood := { row := candleShortUptoRow, standIns := [], harness := (true, "60d50f35f64f42411113777cba31078ec0ca6d528e83348940a62dd418a71482"), looks := false }, kinds := [], alts := [], laidByText := true, laidKinds := [.data, .funcs], laidTests := true, laidLooks := .later }
def CandleShortUptoCardSaid : Prop := Claim7.holds Tryd.pinned (.plain (OpenSpec.upto candleShortSpec)) candleShortUptoCard

/-- THE SECOND FORM's CARD OF 'decanilaw06.CandleBuy'. -/
def candleBuyUptoCard : Claim7 := { stood := { row := candleBuyUptoRow, standIns := [], harness := (true, "60d50f35f64f42411113777cba31078ec0ca6d528e83348940a62dd418a71482"), looks := false }, kinds := [], alts := [], laidByText := true, laidKinds := [.data, .funcs], laidTests := true, laidLooks := .later }
def CandleBuyUptoCardSaid : Prop := Claim7.holds Tryd.pinned (.plain (OpenSpec.upto candleBuySpec)) candleBuyUptoCard

/-- THE SECOND FORM's CARD OF 'decanilaw06.CandleOrder'. -/
def candleOrderUptoCard : Claim7 := { stood := { row := candleOrderUptoRow, standIns := [], harness := (true, "60d50f35f64f42411113777cba31078ec0ca6d528e83348940a62dd418a71482"), looks := false }, kinds := [], alts := [], laidByText := true, laidKinds := [.data, .funcs], laidTests := true, laidLooks := .later }
def CandleOrderUptoCardSaid : Prop := Claim7.holds Tryd.pinned (.plain (OpenSpec.upto candleOrderSpec)) candleOrderUptoCard

/-- THE SECOND FORM's CARD OF 'decanilaw06.CandleIdle'. -/
def candleIdleUptoCard : Claim7 := { stood := { row := candleIdleUptoRow, standIns := [], harness := (true, "60d50f35f64f42411113777cba31078ec0ca6d528e83348940a62dd418a71482"), looks := false }, kinds := [], alts := [], laidByText := true, laidKinds := [.data, .funcs], laidTests := true, laidLooks := .later }
def CandleIdleUptoCardSaid : Prop := Claim7.holds Tryd.pinned (.plain (OpenSpec.upto candleIdleSpec)) candleIdleUptoCard

/-- THE SECOND FORM's CARD OF 'decanilaw06.CandleWrong'. -/
def candleWrongUptoCard : Claim7 := { stood := { row := candleWrongUptoRow, standIns := [], harness := (true, "60d50f35f64f42411113777cba31078ec0ca6d528e83348940a62dd418a71482"), looks := false }, kinds := [], alts := [], laidByText := true, laidKinds := [.data, .funcs], laidTests := true, laidLooks := .later }
def CandleWrongUptoCardSaid : Prop := Claim7.holds Tryd.pinned (.plain (OpenSpec.upto candleWrongSpec)) candleWrongUptoCard

/-- THE SECOND FORM's CARD OF 'decanilaw06.CandleKnown'. -/
def candleKnownUptoCard : Claim7 := { stood := { row := candleKnownUptoRow, standIns := [], harness := (true, "60d50f35f64f42411113777cba31078ec0ca6d528e83348940a62dd418a71482"), looks := false }, kinds := [], alts := [], laidByText := true, laidKinds := [.data, .funcs], laidTests := true, laidLooks := .later }
def CandleKnownUptoCardSaid : Prop := Claim7.holds Tryd.pinned (.plain (OpenSpec.upto candleKnownSpec)) candleKnownUptoCard
end Rows
end Go.Proofs.YtdndhpoinffpbaaDoor
