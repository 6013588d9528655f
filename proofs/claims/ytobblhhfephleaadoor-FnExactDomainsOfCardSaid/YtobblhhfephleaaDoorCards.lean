/-
  DERIVED. GIVEN WITH THE SEED: THE CARDS: each row of YtobblhhfephleaaDoorRows.lean that lists a variable, with what it lists TIED to the program's text (the seventh form; the later family's looks); each row that meets fmt, with fmt's text TOLD by the authors' own Lean function (tested against real Go, not proved from fmt's source: count such statements apart). THE CARD IS WHAT COUNTS. Prove the row's statement (the work); the ties are given (YtobblhhfephleaaDoorTie.lean); close each card by the builder's one call (the guide's Derived/Test/ToyasCard.lean, 'card_holds'). Laid BY PROGRAM, IN A SANDBOX (cutbox-door.mjs). By AI agents, Wed Nov 11 2026. No macro, syntax, notation, axiom, sorry.
-/
import Derived.Test.YtobblhhfephleaaDoorRows
import GoSem.ClaimSeven
namespace Go.Proofs.YtobblhhfephleaaDoor
namespace Rows

/-- THE TIED CARD OF 'laws.FnExactConverseOf'. -/
def fnExactConverseOfCard : Claim7 := { stood := { row := fnExactConverseOfRow, standIns := [], harness := (true, "7f0c8f9e643e7a75b235a5f86be6d3010e93cac40c9d9b4b2de4acdbd81866fc"), looks := false }, kinds := [], alts := [], laidByText := true, laidKinds := [.data], laidTests := true, laidLooks := .later }
def FnExactConverseOfCardSaid : Prop := Claim7.holds Tryd.pinned (.plain (OpenSpec.ofChange fnExactConverseOfSpec)) fnExactConverseOfCard

/-- THE TIED CARD OF 'laws.FnExactDomainsOf'. -/
def fnExactDomainsOfCard : Claim7 := { stood := { row := fnExactDomainsOfRow, standIns := [], harness := (true, "7f0c8f9e643e7a75b235a5f86be6d3010e93cac40c9d9b4b2de4acdbd81866fc"), looks := false }, kinds := [], alts := [], laidByText := true, laidKinds := [.data], laidTests := true, laidLooks := .later }
def FnExactDomainsOfCardSaid : Prop := Claim7.holds Tryd.pinned (.plain (OpenSpec.ofChange fnExactDomainsOfSpec)) fnExactDomainsOfCard

/-- THE TIED CARD OF 'laws.FnExactIsOrder'. -/
def fnExactIsOrderCard : Claim7 := { stood := { row := fnExactIsOrderRow, standIns := [], harness := (true, "7f0c8f9e643e7a75b235a5f86be6d3010e93cac40c9d9b4b2de4acdbd81866fc"), looks := false }, kinds := [], alts := [], laidByText := true, laidKinds := [.data], laidTests := true, laidLooks := .later }
def FnExactIsOrderCardSaid : Prop := Claim7.holds Tryd.pinned (.plain (OpenSpec.ofChange fnExactIsOrderSpec)) fnExactIsOrderCard

/-- THE TIED CARD OF 'laws.FnMasks'. -/
def fnMasksCard : Claim7 := { stood := { row := fnMasksRow, standIns := [], harness := (true, "7f0c8f9e643e7a75b235a5f86be6d3010e93cac40c9d9b4b2de4acdbd81866fc"), looks := false }, kinds := [], alts := [], laidByText := true, laidKinds := [.data], laidTests := true, laidLooks := .later }
def FnMasksCardSaid : Prop := Claim7.holds Tryd.pinned (.plain (OpenSpec.ofChange fnMasksSpec)) fnMasksCard

/-- THE TIED CARD OF 'laws.FnExactComponentsOf'. -/
def fnExactComponentsOfCard : Claim7 := { stood := { row := fnExactComponentsOfRow, standIns := [], harness := (true, "7f0c8f9e643e7a75b235a5f86be6d3010e93cac40c9d9b4b2de4acdbd81866fc"), looks := false }, kinds := [], alts := [], laidByText := true, laidKinds := [.data], laidTests := true, laidLooks := .later }
def FnExactComponentsOfCardSaid : Prop := Claim7.holds Tryd.pinned (.plain (OpenSpec.ofChange fnExactComponentsOfSpec)) fnExactComponentsOfCard

/-- THE TIED CARD OF 'laws.FnExactCoversOf'. -/
def fnExactCoversOfCard : Claim7 := { stood := { row := fnExactCoversOfRow, standIns := [], harness := (true, "7f0c8f9e643e7a75b235a5f86be6d3010e93cac40c9d9b4b2de4acdbd81866fc"), looks := false }, kinds := [], alts := [], laidByText := true, laidKinds := [.data], laidTests := true, laidLooks := .later }
def FnExactCoversOfCardSaid : Prop := Claim7.holds Tryd.pinned (.plain (OpenSpec.ofChange fnExactCoversOfSpec)) fnExactCoversOfCard

/-- THE SECOND FORM's CARD OF 'laws.FnExactConverseOf'. -/
def fnExactConverseOfUptoCard : Claim7 := { stood := { row := fnExactConverseOfUptoRow, standIns := [], harness := (true, "7f0c8f9e643e7a75b235a5f86be6d3010e93cac40c9d9b4b2de4acdbd81866fc"), looks := false }, kinds := [], alts := [], laidByText := true, laidKinds := [.data], laidTests := true, laidLooks := .later }
def FnExactConverseOfUptoCardSaid : Prop := Claim7.holds Tryd.pinned (.plain (OpenSpec.upto fnExactConverseOfSpec)) fnExactConverseOfUptoCard

/-- THE SECOND FORM's CARD OF 'laws.FnExactDomainsOf'. -/
def fnExactDomainsOfUptoCard : Claim7 := { stood := { row := fnExactDomainsOfUptoRow, standIns := [], harness := (true, "7f0c8f9e643e7a75b235a5f86be6d3010e93cac40c9d9b4b2de4acdbd81866fc"), looks := false }, kinds := [], alts := [], laidByText := true, laidKinds := [.data], laidTests := true, laidLooks := .later }
def FnExactDomainsOfUptoCardSaid : Prop := Claim7.holds Tryd.pinned (.plain (OpenSpec.upto fnExactDomainsOfSpec)) fnExactDomainsOfUptoCard

/-- THE SECOND FORM's CARD OF 'laws.FnExactIsOrder'. -/
def fnExactIsOrderUptoCard : Claim7 := { stood := { row := fnExactIsOrderUptoRow, standIns := [], harness := (true, "7f0c8f9e643e7a75b235a5f86be6d3010e93cac40c9d9b4b2de4acdbd81866fc"), looks := false }, kinds := [], alts := [], laidByText := true, laidKinds := [.data], laidTests := true, laidLooks := .later }
def FnExactIsOrderUptoCardSaid : Prop := Claim7.holds Tryd.pinned (.plain (OpenSpec.upto fnExactIsOrderSpec)) fnExactIsOrderUptoCard

/-- THE SECOND FORM's CARD OF 'laws.FnMasks'. -/
def fnMasksUptoCard : Claim7 := { stood := { row := fnMasksUptoRow, standIns := [], harness := (true, "7f0c8f9e643e7a75b235a5f86be6d3010e93cac40c9d9b4b2de4acdbd81866fc"), looks := false }, kinds := [], alts := [], laidByText := true, laidKinds := [.data], laidTests := true, laidLooks := .later }
def FnMasksUptoCardSaid : Prop := Claim7.holds Tryd.pinned (.plain (OpenSpec.upto fnMasksSpec)) fnMasksUptoCard

/-- THE SECOND FORM's CARD OF 'laws.FnExactComponentsOf'. -/
def fnExactComponentsOfUptoCard : Claim7 := { stood := { row := fnExactComponentsOfUptoRow, standIns := [], harness := (true, "7f0c8f9e643e7a75b235a5f86be6d3010e93cac40c9d9b4b2de4acdbd81866fc"), looks := false }, kinds := [], alts := [], laidByText := true, laidKinds := [.data], laidTests := true, laidLooks := .later }
def FnExactComponentsOfUptoCardSaid : Prop := Claim7.holds Tryd.pinned (.plain (OpenSpec.upto fnExactComponentsOfSpec)) fnExactComponentsOfUptoCard

/-- THE SECOND FORM's CARD OF 'laws.FnExactCoversOf'. -/
def fnExactCoversOfUptoCard : Claim7 := { stood := { row := fnExactCoversOfUptoRow, standIns := [], harness := (true, "7f0c8f9e643e7a75b235a5f86be6d3010e93cac40c9d9b4b2de4acdbd81866fc"), looks := false }, kinds := [], alts := [], laidByText := true, laidKinds := [.data], laidTests := true, laidLooks := .later }
def FnExactCoversOfUptoCardSaid : Prop := Claim7.holds Tryd.pinned (.plain (OpenSpec.upto fnExactCoversOfSpec)) fnExactCoversOfUptoCard
end Rows
end Go.Proofs.YtobblhhfephleaaDoor
