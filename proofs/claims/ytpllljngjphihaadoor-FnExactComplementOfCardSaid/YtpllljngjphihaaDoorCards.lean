/-
  DERIVED. GIVEN WITH THE SEED: THE CARDS: each row of YtpllljngjphihaaDoorRows.lean that lists a variable, with what it lists TIED to the program's text (the seventh form; the later family's looks); each row that meets fmt, with fmt's text TOLD by the authors' own Lean function (tested against real Go, not proved from fmt's source: count such statements apart). THE CARD IS WHAT COUNTS. Prove the row's statement (the work); the ties are given (YtpllljngjphihaaDoorTie.lean); close each card by the builder's one call (the guide's Derived/Test/ToyasCard.lean, 'card_holds'). Laid BY PROGRAM, IN A SANDBOX (cutbox-door.mjs). By AI agents, Wed Nov 11 2026. No macro, syntax, notation, axiom, sorry.
-/
import Derived.Test.YtpllljngjphihaaDoorRows
import GoSem.ClaimSeven
namespace Go.Proofs.YtpllljngjphihaaDoor
namespace Rows

/-- THE TIED CARD OF 'laws.FnExactIsAlphabet'. -/
def fnExactIsAlphabetCard : Claim7 := { stood := { row := fnExactIsAlphabetRow, standIns := [], harness := (true, "39ec5a876eda7fde0e4ecd076f3b92f72f269919de93512ea6dddd12d46a2c77"), looks := false }, kinds := [], alts := [], laidByText := true, laidKinds := [.data], laidTests := true, laidLooks := .later }
def FnExactIsAlphabetCardSaid : Prop := Claim7.holds Tryd.pinned (.plain (OpenSpec.ofChange fnExactIsAlphabetSpec)) fnExactIsAlphabetCard

/-- THE TIED CARD OF 'laws.FnExactIsWord'. -/
def fnExactIsWordCard : Claim7 := { stood := { row := fnExactIsWordRow, standIns := [], harness := (true, "39ec5a876eda7fde0e4ecd076f3b92f72f269919de93512ea6dddd12d46a2c77"), looks := false }, kinds := [], alts := [], laidByText := true, laidKinds := [.data], laidTests := true, laidLooks := .later }
def FnExactIsWordCardSaid : Prop := Claim7.holds Tryd.pinned (.plain (OpenSpec.ofChange fnExactIsWordSpec)) fnExactIsWordCard

/-- THE TIED CARD OF 'laws.FnExactAreDependent'. -/
def fnExactAreDependentCard : Claim7 := { stood := { row := fnExactAreDependentRow, standIns := [], harness := (true, "39ec5a876eda7fde0e4ecd076f3b92f72f269919de93512ea6dddd12d46a2c77"), looks := false }, kinds := [], alts := [], laidByText := true, laidKinds := [.data], laidTests := true, laidLooks := .later }
def FnExactAreDependentCardSaid : Prop := Claim7.holds Tryd.pinned (.plain (OpenSpec.ofChange fnExactAreDependentSpec)) fnExactAreDependentCard

/-- THE TIED CARD OF 'laws.FnExactAlphabetOfProcesses'. -/
def fnExactAlphabetOfProcessesCard : Claim7 := { stood := { row := fnExactAlphabetOfProcessesRow, standIns := [], harness := (true, "39ec5a876eda7fde0e4ecd076f3b92f72f269919de93512ea6dddd12d46a2c77"), looks := false }, kinds := [], alts := [], laidByText := true, laidKinds := [.data], laidTests := true, laidLooks := .later }
def FnExactAlphabetOfProcessesCardSaid : Prop := Claim7.holds Tryd.pinned (.plain (OpenSpec.ofChange fnExactAlphabetOfProcessesSpec)) fnExactAlphabetOfProcessesCard

/-- THE TIED CARD OF 'laws.FnExactComplementOf'. -/
def fnExactComplementOfCard : Claim7 := { stood := { row := fnExactComplementOfRow, standIns := [], harness := (true, "39ec5a876eda7fde0e4ecd076f3b92f72f269919de93512ea6dddd12d46a2c77"), looks := false }, kinds := [], alts := [], laidByText := true, laidKinds := [.data], laidTests := true, laidLooks := .later }
def FnExactComplementOfCardSaid : Prop := Claim7.holds Tryd.pinned (.plain (OpenSpec.ofChange fnExactComplementOfSpec)) fnExactComplementOfCard

/-- THE TIED CARD OF 'laws.FnExactHasTransitiveExchange'. -/
def fnExactHasTransitiveExchangeCard : Claim7 := { stood := { row := fnExactHasTransitiveExchangeRow, standIns := [], harness := (true, "39ec5a876eda7fde0e4ecd076f3b92f72f269919de93512ea6dddd12d46a2c77"), looks := false }, kinds := [], alts := [], laidByText := true, laidKinds := [.data], laidTests := true, laidLooks := .later }
def FnExactHasTransitiveExchangeCardSaid : Prop := Claim7.holds Tryd.pinned (.plain (OpenSpec.ofChange fnExactHasTransitiveExchangeSpec)) fnExactHasTransitiveExchangeCard

/-- THE TIED CARD OF 'laws.FnExactPartOfAlphabet'. -/
def fnExactPartOfAlphabetCard : Claim7 := { stood := { row := fnExactPartOfAlphabetRow, standIns := [], harness := (true, "39ec5a876eda7fde0e4ecd076f3b92f72f269919de93512ea6dddd12d46a2c77"), looks := false }, kinds := [], alts := [], laidByText := true, laidKinds := [.data], laidTests := true, laidLooks := .later }
def FnExactPartOfAlphabetCardSaid : Prop := Claim7.holds Tryd.pinned (.plain (OpenSpec.ofChange fnExactPartOfAlphabetSpec)) fnExactPartOfAlphabetCard

/-- THE TIED CARD OF 'laws.FnExactPartsOfAlphabet'. -/
def fnExactPartsOfAlphabetCard : Claim7 := { stood := { row := fnExactPartsOfAlphabetRow, standIns := [], harness := (true, "39ec5a876eda7fde0e4ecd076f3b92f72f269919de93512ea6dddd12d46a2c77"), looks := false }, kinds := [], alts := [], laidByText := true, laidKinds := [.data], laidTests := true, laidLooks := .later }
def FnExactPartsOfAlphabetCardSaid : Prop := Claim7.holds Tryd.pinned (.plain (OpenSpec.ofChange fnExactPartsOfAlphabetSpec)) fnExactPartsOfAlphabetCard

/-- THE SECOND FORM's CARD OF 'laws.FnExactIsAlphabet'. -/
def fnExactIsAlphabetUptoCard : Claim7 := { stood := { row := fnExactIsAlphabetUptoRow, standIns := [], harness := (true, "39ec5a876eda7fde0e4ecd076f3b92f72f269919de93512ea6dddd12d46a2c77"), looks := false }, kinds := [], alts := [], laidByText := true, laidKinds := [.data], laidTests := true, laidLooks := .later }
def FnExactIsAlphabetUptoCardSaid : Prop := Claim7.holds Tryd.pinned (.plain (OpenSpec.upto fnExactIsAlphabetSpec)) fnExactIsAlphabetUptoCard

/-- THE SECOND FORM's CARD OF 'laws.FnExactIsWord'. -/
def fnExactIsWordUptoCard : Claim7 := { stood := { row := fnExactIsWordUptoRow, standIns := [], harness := (true, "39ec5a876eda7fde0e4ecd076f3b92f72f269919de93512ea6dddd12d46a2c77"), looks := false }, kinds := [], alts := [], laidByText := true, laidKinds := [.data], laidTests := true, laidLooks := .later }
def FnExactIsWordUptoCardSaid : Prop := Claim7.holds Tryd.pinned (.plain (OpenSpec.upto fnExactIsWordSpec)) fnExactIsWordUptoCard

/-- THE SECOND FORM's CARD OF 'laws.FnExactAreDependent'. -/
def fnExactAreDependentUptoCard : Claim7 := { stood := { row := fnExactAreDependentUptoRow, standIns := [], harness := (true, "39ec5a876eda7fde0e4ecd076f3b92f72f269919de93512ea6dddd12d46a2c77"), looks := false }, kinds := [], alts := [], laidByText := true, laidKinds := [.data], laidTests := true, laidLooks := .later }
def FnExactAreDependentUptoCardSaid : Prop := Claim7.holds Tryd.pinned (.plain (OpenSpec.upto fnExactAreDependentSpec)) fnExactAreDependentUptoCard

/-- THE SECOND FORM's CARD OF 'laws.FnExactAlphabetOfProcesses'. -/
def fnExactAlphabetOfProcessesUptoCard : Claim7 := { stood := { row := fnExactAlphabetOfProcessesUptoRow, standIns := [], harness := (true, "39ec5a876eda7fde0e4ecd076f3b92f72f269919de93512ea6dddd12d46a2c77"), looks := false }, kinds := [], alts := [], laidByText := true, laidKinds := [.data], laidTests := true, laidLooks := .later }
def FnExactAlphabetOfProcessesUptoCardSaid : Prop := Claim7.holds Tryd.pinned (.plain (OpenSpec.upto fnExactAlphabetOfProcessesSpec)) fnExactAlphabetOfProcessesUptoCard

/-- THE SECOND FORM's CARD OF 'laws.FnExactComplementOf'. -/
def fnExactComplementOfUptoCard : Claim7 := { stood := { row := fnExactComplementOfUptoRow, standIns := [], harness := (true, "39ec5a876eda7fde0e4ecd076f3b92f72f269919de93512ea6dddd12d46a2c77"), looks := false }, kinds := [], alts := [], laidByText := true, laidKinds := [.data], laidTests := true, laidLooks := .later }
def FnExactComplementOfUptoCardSaid : Prop := Claim7.holds Tryd.pinned (.plain (OpenSpec.upto fnExactComplementOfSpec)) fnExactComplementOfUptoCard

/-- THE SECOND FORM's CARD OF 'laws.FnExactHasTransitiveExchange'. -/
def fnExactHasTransitiveExchangeUptoCard : Claim7 := { stood := { row := fnExactHasTransitiveExchangeUptoRow, standIns := [], harness := (true, "39ec5a876eda7fde0e4ecd076f3b92f72f269919de93512ea6dddd12d46a2c77"), looks := false }, kinds := [], alts := [], laidByText := true, laidKinds := [.data], laidTests := true, laidLooks := .later }
def FnExactHasTransitiveExchangeUptoCardSaid : Prop := Claim7.holds Tryd.pinned (.plain (OpenSpec.upto fnExactHasTransitiveExchangeSpec)) fnExactHasTransitiveExchangeUptoCard

/-- THE SECOND FORM's CARD OF 'laws.FnExactPartOfAlphabet'. -/
def fnExactPartOfAlphabetUptoCard : Claim7 := { stood := { row := fnExactPartOfAlphabetUptoRow, standIns := [], harness := (true, "39ec5a876eda7fde0e4ecd076f3b92f72f269919de93512ea6dddd12d46a2c77"), looks := false }, kinds := [], alts := [], laidByText := true, laidKinds := [.data], laidTests := true, laidLooks := .later }
def FnExactPartOfAlphabetUptoCardSaid : Prop := Claim7.holds Tryd.pinned (.plain (OpenSpec.upto fnExactPartOfAlphabetSpec)) fnExactPartOfAlphabetUptoCard

/-- THE SECOND FORM's CARD OF 'laws.FnExactPartsOfAlphabet'. -/
def fnExactPartsOfAlphabetUptoCard : Claim7 := { stood := { row := fnExactPartsOfAlphabetUptoRow, standIns := [], harness := (true, "39ec5a876eda7fde0e4ecd076f3b92f72f269919de93512ea6dddd12d46a2c77"), looks := false }, kinds := [], alts := [], laidByText := true, laidKinds := [.data], laidTests := true, laidLooks := .later }
def FnExactPartsOfAlphabetUptoCardSaid : Prop := Claim7.holds Tryd.pinned (.plain (OpenSpec.upto fnExactPartsOfAlphabetSpec)) fnExactPartsOfAlphabetUptoCard
end Rows
end Go.Proofs.YtpllljngjphihaaDoor
