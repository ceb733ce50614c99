/-
  DERIVED. GIVEN WITH THE SEED: THE CARDS: each row of YtbgjhdhdfdfpkaaDoorRows.lean that lists a variable, with what it lists TIED to the program's text (the seventh form; the later family's looks); each row that meets fmt, with fmt's text TOLD by the authors' own Lean function (tested against real Go, not proved from fmt's source: count such statements apart). THE CARD IS WHAT COUNTS. Prove the row's statement (the work); the ties are given (YtbgjhdhdfdfpkaaDoorTie.lean); close each card by the builder's one call (the guide's Derived/Test/ToyasCard.lean, 'card_holds'). Laid BY PROGRAM, IN A SANDBOX (cutbox-door.mjs). By AI agents, Wed Nov 11 2026. No macro, syntax, notation, axiom, sorry.
-/
import Derived.Test.YtbgjhdhdfdfpkaaDoorRows
import GoSem.ClaimSeven
namespace Go.Proofs.YtbgjhdhdfdfpkaaDoor
namespace Rows

/-- THE TIED CARD OF 'laws.FnExactLeastSteep'. -/
def fnExactLeastSteepCard : Claim7 := { stood := { row := fnExactLeastSteepRow, standIns := [], harness := (true, "16f06a7eac40633dca23f87df975bbd27e41ba711f7f7ff39cb89e91057127de"), looks := false }, kinds := [], alts := [], laidByText := true, laidKinds := [.data], laidTests := true, laidLooks := .later }
def FnExactLeastSteepCardSaid : Prop := Claim7.holds Tryd.pinned (.plain (OpenSpec.ofChange fnExactLeastSteepSpec)) fnExactLeastSteepCard

/-- THE TIED CARD OF 'laws.FnExactReachableFrom'. -/
def fnExactReachableFromCard : Claim7 := { stood := { row := fnExactReachableFromRow, standIns := [], harness := (true, "16f06a7eac40633dca23f87df975bbd27e41ba711f7f7ff39cb89e91057127de"), looks := false }, kinds := [], alts := [], laidByText := true, laidKinds := [.data], laidTests := true, laidLooks := .later }
def FnExactReachableFromCardSaid : Prop := Claim7.holds Tryd.pinned (.plain (OpenSpec.ofChange fnExactReachableFromSpec)) fnExactReachableFromCard

/-- THE TIED CARD OF 'laws.FnExactCostsFrom'. -/
def fnExactCostsFromCard : Claim7 := { stood := { row := fnExactCostsFromRow, standIns := [], harness := (true, "16f06a7eac40633dca23f87df975bbd27e41ba711f7f7ff39cb89e91057127de"), looks := false }, kinds := [], alts := [], laidByText := true, laidKinds := [.data], laidTests := true, laidLooks := .later }
def FnExactCostsFromCardSaid : Prop := Claim7.holds Tryd.pinned (.plain (OpenSpec.ofChange fnExactCostsFromSpec)) fnExactCostsFromCard

/-- THE TIED CARD OF 'laws.FnExactCheapestWay'. -/
def fnExactCheapestWayCard : Claim7 := { stood := { row := fnExactCheapestWayRow, standIns := [], harness := (true, "16f06a7eac40633dca23f87df975bbd27e41ba711f7f7ff39cb89e91057127de"), looks := false }, kinds := [], alts := [], laidByText := true, laidKinds := [.data], laidTests := true, laidLooks := .later }
def FnExactCheapestWayCardSaid : Prop := Claim7.holds Tryd.pinned (.plain (OpenSpec.ofChange fnExactCheapestWaySpec)) fnExactCheapestWayCard

/-- THE TIED CARD OF 'laws.FnExactHeightsText'. -/
def fnExactHeightsTextCard : Claim7 := { stood := { row := fnExactHeightsTextRow, standIns := [], harness := (true, "16f06a7eac40633dca23f87df975bbd27e41ba711f7f7ff39cb89e91057127de"), looks := false }, kinds := [], alts := [], laidByText := true, laidKinds := [.data, .data, .data], laidTests := true, laidLooks := .later }
def FnExactHeightsTextCardSaid : Prop := Claim7.holds Tryd.pinned (.plain (OpenSpec.ofChange fnExactHeightsTextSpec)) fnExactHeightsTextCard

/-- THE TIED CARD OF 'laws.FnRoads'. -/
def fnRoadsCard : Claim7 := { stood := { row := fnRoadsRow, standIns := [], harness := (true, "16f06a7eac40633dca23f87df975bbd27e41ba711f7f7ff39cb89e91057127de"), looks := false }, kinds := [], alts := [], laidByText := true, laidKinds := [.data], laidTests := true, laidLooks := .later }
def FnRoadsCardSaid : Prop := Claim7.holds Tryd.pinned (.plain (OpenSpec.ofChange fnRoadsSpec)) fnRoadsCard

/-- THE TIED CARD OF 'laws.FnReach'. -/
def fnReachCard : Claim7 := { stood := { row := fnReachRow, standIns := [], harness := (true, "16f06a7eac40633dca23f87df975bbd27e41ba711f7f7ff39cb89e91057127de"), looks := false }, kinds := [], alts := [], laidByText := true, laidKinds := [.data, .data, .data, .data], laidTests := true, laidLooks := .later }
def FnReachCardSaid : Prop := Claim7.holds Tryd.pinned (.plain (OpenSpec.ofChange fnReachSpec)) fnReachCard

/-- THE SECOND FORM's CARD OF 'laws.FnExactLeastSteep'. -/
def fnExactLeastSteepUptoCard : Claim7 := { stood := { row := fnExactLeastSteepUptoRow, standIns := [], harness := (true, "16f06a7eac40633dca23f87df975bbd27e41ba711f7f7ff39cb89e91057127de"), looks := false }, kinds := [], alts := [], laidByText := true, laidKinds := [.data], laidTests := true, laidLooks := .later }
def FnExactLeastSteepUptoCardSaid : Prop := Claim7.holds Tryd.pinned (.plain (OpenSpec.upto fnExactLeastSteepSpec)) fnExactLeastSteepUptoCard

/-- THE SECOND FORM's CARD OF 'laws.FnExactReachableFrom'. -/
def fnExactReachableFromUptoCard : Claim7 := { stood := { row := fnExactReachableFromUptoRow, standIns := [], harness := (true, "16f06a7eac40633dca23f87df975bbd27e41ba711f7f7ff39cb89e91057127de"), looks := false }, kinds := [], alts := [], laidByText := true, laidKinds := [.data], laidTests := true, laidLooks := .later }
def FnExactReachableFromUptoCardSaid : Prop := Claim7.holds Tryd.pinned (.plain (OpenSpec.upto fnExactReachableFromSpec)) fnExactReachableFromUptoCard

/-- THE SECOND FORM's CARD OF 'laws.FnExactCostsFrom'. -/
def fnExactCostsFromUptoCard : Claim7 := { stood := { row := fnExactCostsFromUptoRow, standIns := [], harness := (true, "16f06a7eac40633dca23f87df975bbd27e41ba711f7f7ff39cb89e91057127de"), looks := false }, kinds := [], alts := [], laidByText := true, laidKinds := [.data], laidTests := true, laidLooks := .later }
def FnExactCostsFromUptoCardSaid : Prop := Claim7.holds Tryd.pinned (.plain (OpenSpec.upto fnExactCostsFromSpec)) fnExactCostsFromUptoCard

/-- THE SECOND FORM's CARD OF 'laws.FnExactCheapestWay'. -/
def fnExactCheapestWayUptoCard : Claim7 := { stood := { row := fnExactCheapestWayUptoRow, standIns := [], harness := (true, "16f06a7eac40633dca23f87df975bbd27e41ba711f7f7ff39cb89e91057127de"), looks := false }, kinds := [], alts := [], laidByText := true, laidKinds := [.data], laidTests := true, laidLooks := .later }
def FnExactCheapestWayUptoCardSaid : Prop := Claim7.holds Tryd.pinned (.plain (OpenSpec.upto fnExactCheapestWaySpec)) fnExactCheapestWayUptoCard

/-- THE SECOND FORM's CARD OF 'laws.FnExactHeightsText'. -/
def fnExactHeightsTextUptoCard : Claim7 := { stood := { row := fnExactHeightsTextUptoRow, standIns := [], harness := (true, "16f06a7eac40633dca23f87df975bbd27e41ba711f7f7ff39cb89e91057127de"), looks := false }, kinds := [], alts := [], laidByText := true, laidKinds := [.data, .data, .data], laidTests := true, laidLooks := .later }
def FnExactHeightsTextUptoCardSaid : Prop := Claim7.holds Tryd.pinned (.plain (OpenSpec.upto fnExactHeightsTextSpec)) fnExactHeightsTextUptoCard

/-- THE SECOND FORM's CARD OF 'laws.FnRoads'. -/
def fnRoadsUptoCard : Claim7 := { stood := { row := fnRoadsUptoRow, standIns := [], harness := (true, "16f06a7eac40633dca23f87df975bbd27e41ba711f7f7ff39cb89e91057127de"), looks := false }, kinds := [], alts := [], laidByText := true, laidKinds := [.data], laidTests := true, laidLooks := .later }
def FnRoadsUptoCardSaid : Prop := Claim7.holds Tryd.pinned (.plain (OpenSpec.upto fnRoadsSpec)) fnRoadsUptoCard

/-- THE SECOND FORM's CARD OF 'laws.FnReach'. -/
def fnReachUptoCard : Claim7 := { stood := { row := fnReachUptoRow, standIns := [], harness := (true, "16f06a7eac40633dca23f87df975bbd27e41ba711f7f7ff39cb89e91057127de"), looks := false }, kinds := [], alts := [], laidByText := true, laidKinds := [.data, .data, .data, .data], laidTests := true, laidLooks := .later }
def FnReachUptoCardSaid : Prop := Claim7.holds Tryd.pinned (.plain (OpenSpec.upto fnReachSpec)) fnReachUptoCard
end Rows
end Go.Proofs.YtbgjhdhdfdfpkaaDoor
