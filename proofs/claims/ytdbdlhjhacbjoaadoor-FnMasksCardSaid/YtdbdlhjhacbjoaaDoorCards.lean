/-
  DERIVED. GIVEN WITH THE SEED: THE CARDS: each row of YtdbdlhjhacbjoaaDoorRows.lean that lists a variable, with what it lists TIED to the program's text (the seventh form; the later family's looks); each row that meets fmt, with fmt's text TOLD by the authors' own Lean function (tested against real Go, not proved from fmt's source: count such statements apart). THE CARD IS WHAT COUNTS. Prove the row's statement (the work); the ties are given (YtdbdlhjhacbjoaaDoorTie.lean); close each card by the builder's one call (the guide's Derived/Test/ToyasCard.lean, 'card_holds'). Laid BY PROGRAM, IN A SANDBOX (cutbox-door.mjs). By AI agents, Wed Nov 11 2026. No macro, syntax, notation, axiom, sorry.
-/
import Derived.Test.YtdbdlhjhacbjoaaDoorRows
import GoSem.ClaimSeven
namespace Go.Proofs.YtdbdlhjhacbjoaaDoor
namespace Rows

/-- THE TIED CARD OF 'laws.FnMasks'. -/
def fnMasksCard : Claim7 := { stood := { row := fnMasksRow, standIns := [], harness := (true, "fdf23f41effa307f53bede9cabf89b73625d37f570ff2e9450354d526bed4788"), looks := false }, kinds := [], alts := [], laidByText := true, laidKinds := [.data], laidTests := true, laidLooks := .later }
def FnMasksCardSaid : Prop := Claim7.holds Tryd.pinned (.plain (OpenSpec.ofChange fnMasksSpec)) fnMasksCard

/-- THE TIED CARD OF 'laws.FnExactIsOrder'. -/
def fnExactIsOrderCard : Claim7 := { stood := { row := fnExactIsOrderRow, standIns := [], harness := (true, "fdf23f41effa307f53bede9cabf89b73625d37f570ff2e9450354d526bed4788"), looks := false }, kinds := [], alts := [], laidByText := true, laidKinds := [.data], laidTests := true, laidLooks := .later }
def FnExactIsOrderCardSaid : Prop := Claim7.holds Tryd.pinned (.plain (OpenSpec.ofChange fnExactIsOrderSpec)) fnExactIsOrderCard

/-- THE TIED CARD OF 'laws.FnExactAlphabetOfProcesses'. -/
def fnExactAlphabetOfProcessesCard : Claim7 := { stood := { row := fnExactAlphabetOfProcessesRow, standIns := [], harness := (true, "fdf23f41effa307f53bede9cabf89b73625d37f570ff2e9450354d526bed4788"), looks := false }, kinds := [], alts := [], laidByText := true, laidKinds := [.data], laidTests := true, laidLooks := .later }
def FnExactAlphabetOfProcessesCardSaid : Prop := Claim7.holds Tryd.pinned (.plain (OpenSpec.ofChange fnExactAlphabetOfProcessesSpec)) fnExactAlphabetOfProcessesCard

/-- THE TIED CARD OF 'laws.FnExactComponentsOf'. -/
def fnExactComponentsOfCard : Claim7 := { stood := { row := fnExactComponentsOfRow, standIns := [], harness := (true, "fdf23f41effa307f53bede9cabf89b73625d37f570ff2e9450354d526bed4788"), looks := false }, kinds := [], alts := [], laidByText := true, laidKinds := [.data], laidTests := true, laidLooks := .later }
def FnExactComponentsOfCardSaid : Prop := Claim7.holds Tryd.pinned (.plain (OpenSpec.ofChange fnExactComponentsOfSpec)) fnExactComponentsOfCard

/-- THE TIED CARD OF 'laws.FnExactCoversOf'. -/
def fnExactCoversOfCard : Claim7 := { stood := { row := fnExactCoversOfRow, standIns := [], harness := (true, "fdf23f41effa307f53bede9cabf89b73625d37f570ff2e9450354d526bed4788"), looks := false }, kinds := [], alts := [], laidByText := true, laidKinds := [.data], laidTests := true, laidLooks := .later }
def FnExactCoversOfCardSaid : Prop := Claim7.holds Tryd.pinned (.plain (OpenSpec.ofChange fnExactCoversOfSpec)) fnExactCoversOfCard

/-- THE TIED CARD OF 'laws.FnExactHasTransitiveExchange'. -/
def fnExactHasTransitiveExchangeCard : Claim7 := { stood := { row := fnExactHasTransitiveExchangeRow, standIns := [], harness := (true, "fdf23f41effa307f53bede9cabf89b73625d37f570ff2e9450354d526bed4788"), looks := false }, kinds := [], alts := [], laidByText := true, laidKinds := [.data], laidTests := true, laidLooks := .later }
def FnExactHasTransitiveExchangeCardSaid : Prop := Claim7.holds Tryd.pinned (.plain (OpenSpec.ofChange fnExactHasTransitiveExchangeSpec)) fnExactHasTransitiveExchangeCard

/-- THE TIED CARD OF 'laws.FnExactPartOfAlphabet'. -/
def fnExactPartOfAlphabetCard : Claim7 := { stood := { row := fnExactPartOfAlphabetRow, standIns := [], harness := (true, "fdf23f41effa307f53bede9cabf89b73625d37f570ff2e9450354d526bed4788"), looks := false }, kinds := [], alts := [], laidByText := true, laidKinds := [.data], laidTests := true, laidLooks := .later }
def FnExactPartOfAlphabetCardSaid : Prop := Claim7.holds Tryd.pinned (.plain (OpenSpec.ofChange fnExactPartOfAlphabetSpec)) fnExactPartOfAlphabetCard

/-- THE TIED CARD OF 'laws.FnExactPartsOfAlphabet'. -/
def fnExactPartsOfAlphabetCard : Claim7 := { stood := { row := fnExactPartsOfAlphabetRow, standIns := [], harness := (true, "fdf23f41effa307f53bede9cabf89b73625d37f570ff2e9450354d526bed4788"), looks := false }, kinds := [], alts := [], laidByText := true, laidKinds := [.data], laidTests := true, laidLooks := .later }
def FnExactPartsOfAlphabetCardSaid : Prop := Claim7.holds Tryd.pinned (.plain (OpenSpec.ofChange fnExactPartsOfAlphabetSpec)) fnExactPartsOfAlphabetCard

/-- THE TIED CARD OF 'laws.FnExactDirectProduct'. -/
def fnExactDirectProductCard : Claim7 := { stood := { row := fnExactDirectProductRow, standIns := [], harness := (true, "fdf23f41effa307f53bede9cabf89b73625d37f570ff2e9450354d526bed4788"), looks := false }, kinds := [], alts := [], laidByText := true, laidKinds := [.data], laidTests := true, laidLooks := .later }
def FnExactDirectProductCardSaid : Prop := Claim7.holds Tryd.pinned (.plain (OpenSpec.ofChange fnExactDirectProductSpec)) fnExactDirectProductCard

/-- THE TIED CARD OF 'laws.FnExactFreeProduct'. -/
def fnExactFreeProductCard : Claim7 := { stood := { row := fnExactFreeProductRow, standIns := [], harness := (true, "fdf23f41effa307f53bede9cabf89b73625d37f570ff2e9450354d526bed4788"), looks := false }, kinds := [], alts := [], laidByText := true, laidKinds := [.data], laidTests := true, laidLooks := .later }
def FnExactFreeProductCardSaid : Prop := Claim7.holds Tryd.pinned (.plain (OpenSpec.ofChange fnExactFreeProductSpec)) fnExactFreeProductCard

/-- THE SECOND FORM's CARD OF 'laws.FnMasks'. -/
def fnMasksUptoCard : Claim7 := { stood := { row := fnMasksUptoRow, standIns := [], harness := (true, "fdf23f41effa307f53bede9cabf89b73625d37f570ff2e9450354d526bed4788"), looks := false }, kinds := [], alts := [], laidByText := true, laidKinds := [.data], laidTests := true, laidLooks := .later }
def FnMasksUptoCardSaid : Prop := Claim7.holds Tryd.pinned (.plain (OpenSpec.upto fnMasksSpec)) fnMasksUptoCard

/-- THE SECOND FORM's CARD OF 'laws.FnExactIsOrder'. -/
def fnExactIsOrderUptoCard : Claim7 := { stood := { row := fnExactIsOrderUptoRow, standIns := [], harness := (true, "fdf23f41effa307f53bede9cabf89b73625d37f570ff2e9450354d526bed4788"), looks := false }, kinds := [], alts := [], laidByText := true, laidKinds := [.data], laidTests := true, laidLooks := .later }
def FnExactIsOrderUptoCardSaid : Prop := Claim7.holds Tryd.pinned (.plain (OpenSpec.upto fnExactIsOrderSpec)) fnExactIsOrderUptoCard

/-- THE SECOND FORM's CARD OF 'laws.FnExactAlphabetOfProcesses'. -/
def fnExactAlphabetOfProcessesUptoCard : Claim7 := { stood := { row := fnExactAlphabetOfProcessesUptoRow, standIns := [], harness := (true, "fdf23f41effa307f53bede9cabf89b73625d37f570ff2e9450354d526bed4788"), looks := false }, kinds := [], alts := [], laidByText := true, laidKinds := [.data], laidTests := true, laidLooks := .later }
def FnExactAlphabetOfProcessesUptoCardSaid : Prop := Claim7.holds Tryd.pinned (.plain (OpenSpec.upto fnExactAlphabetOfProcessesSpec)) fnExactAlphabetOfProcessesUptoCard

/-- THE SECOND FORM's CARD OF 'laws.FnExactComponentsOf'. -/
def fnExactComponentsOfUptoCard : Claim7 := { stood := { row := fnExactComponentsOfUptoRow, standIns := [], harness := (true, "fdf23f41effa307f53bede9cabf89b73625d37f570ff2e9450354d526bed4788"), looks := false }, kinds := [], alts := [], laidByText := true, laidKinds := [.data], laidTests := true, laidLooks := .later }
def FnExactComponentsOfUptoCardSaid : Prop := Claim7.holds Tryd.pinned (.plain (OpenSpec.upto fnExactComponentsOfSpec)) fnExactComponentsOfUptoCard

/-- THE SECOND FORM's CARD OF 'laws.FnExactCoversOf'. -/
def fnExactCoversOfUptoCard : Claim7 := { stood := { row := fnExactCoversOfUptoRow, standIns := [], harness := (true, "fdf23f41effa307f53bede9cabf89b73625d37f570ff2e9450354d526bed4788"), looks := false }, kinds := [], alts := [], laidByText := true, laidKinds := [.data], laidTests := true, laidLooks := .later }
def FnExactCoversOfUptoCardSaid : Prop := Claim7.holds Tryd.pinned (.plain (OpenSpec.upto fnExactCoversOfSpec)) fnExactCoversOfUptoCard

/-- THE SECOND FORM's CARD OF 'laws.FnExactHasTransitiveExchange'. -/
def fnExactHasTransitiveExchangeUptoCard : Claim7 := { stood := { row := fnExactHasTransitiveExchangeUptoRow, standIns := [], harness := (true, "fdf23f41effa307f53bede9cabf89b73625d37f570ff2e9450354d526bed4788"), looks := false }, kinds := [], alts := [], laidByText := true, laidKinds := [.data], laidTests := true, laidLooks := .later }
def FnExactHasTransitiveExchangeUptoCardSaid : Prop := Claim7.holds Tryd.pinned (.plain (OpenSpec.upto fnExactHasTransitiveExchangeSpec)) fnExactHasTransitiveExchangeUptoCard

/-- THE SECOND FORM's CARD OF 'laws.FnExactPartOfAlphabet'. -/
def fnExactPartOfAlphabetUptoCard : Claim7 := { stood := { row := fnExactPartOfAlphabetUptoRow, standIns := [], harness := (true, "fdf23f41effa307f53bede9cabf89b73625d37f570ff2e9450354d526bed4788"), looks := false }, kinds := [], alts := [], laidByText := true, laidKinds := [.data], laidTests := true, laidLooks := .later }
def FnExactPartOfAlphabetUptoCardSaid : Prop := Claim7.holds Tryd.pinned (.plain (OpenSpec.upto fnExactPartOfAlphabetSpec)) fnExactPartOfAlphabetUptoCard

/-- THE SECOND FORM's CARD OF 'laws.FnExactPartsOfAlphabet'. -/
def fnExactPartsOfAlphabetUptoCard : Claim7 := { stood := { row := fnExactPartsOfAlphabetUptoRow, standIns := [], harness := (true, "fdf23f41effa307f53bede9cabf89b73625d37f570ff2e9450354d526bed4788"), looks := false }, kinds := [], alts := [], laidByText := true, laidKinds := [.data], laidTests := true, laidLooks := .later }
def FnExactPartsOfAlphabetUptoCardSaid : Prop := Claim7.holds Tryd.pinned (.plain (OpenSpec.upto fnExactPartsOfAlphabetSpec)) fnExactPartsOfAlphabetUptoCard

/-- THE SECOND FORM's CARD OF 'laws.FnExactDirectProduct'. -/
def fnExactDirectProductUptoCard : Claim7 := { stood := { row := fnExactDirectProductUptoRow, standIns := [], harness := (true, "fdf23f41effa307f53bede9cabf89b73625d37f570ff2e9450354d526bed4788"), looks := false }, kinds := [], alts := [], laidByText := true, laidKinds := [.data], laidTests := true, laidLooks := .later }
def FnExactDirectProductUptoCardSaid : Prop := Claim7.holds Tryd.pinned (.plain (OpenSpec.upto fnExactDirectProductSpec)) fnExactDirectProductUptoCard

/-- THE SECOND FORM's CARD OF 'laws.FnExactFreeProduct'. -/
def fnExactFreeProductUptoCard : Claim7 := { stood := { row := fnExactFreeProductUptoRow, standIns := [], harness := (true, "fdf23f41effa307f53bede9cabf89b73625d37f570ff2e9450354d526bed4788"), looks := false }, kinds := [], alts := [], laidByText := true, laidKinds := [.data], laidTests := true, laidLooks := .later }
def FnExactFreeProductUptoCardSaid : Prop := Claim7.holds Tryd.pinned (.plain (OpenSpec.upto fnExactFreeProductSpec)) fnExactFreeProductUptoCard
end Rows
end Go.Proofs.YtdbdlhjhacbjoaaDoor
