/-
  DERIVED. GIVEN WITH THE SEED: THE CARDS: each row of YtleeihpmniabhaaDoorRows.lean that lists a variable, with what it lists TIED to the program's text (the seventh form; the later family's looks); each row that meets fmt, with fmt's text TOLD by the authors' own Lean function (tested against real Go, not proved from fmt's source: count such statements apart). THE CARD IS WHAT COUNTS. Prove the row's statement (the work); the ties are given (YtleeihpmniabhaaDoorTie.lean); close each card by the builder's one call (the guide's Derived/Test/ToyasCard.lean, 'card_holds'). Laid BY PROGRAM, IN A SANDBOX (cutbox-door.mjs). By AI agents, Wed Nov 11 2026. No macro, syntax, notation, axiom, sorry.
-/
import Derived.Test.YtleeihpmniabhaaDoorRows
import GoSem.ClaimSeven
namespace Go.Proofs.YtleeihpmniabhaaDoor
namespace Rows

/-- THE TIED CARD OF 'laws.FnNormalForms'. -/
def fnNormalFormsCard : Claim7 := { stood := { row := fnNormalFormsRow, standIns := [], harness := (true, "463ba386f86178df65d1bad20cadf9b9eee41b2e98e2b9d4ee45865b7062edc7"), looks := false }, kinds := [], alts := [], laidByText := true, laidKinds := [.data], laidTests := true, laidLooks := .later }
def FnNormalFormsCardSaid : Prop := Claim7.holds Tryd.pinned (.plain (OpenSpec.ofChange fnNormalFormsSpec)) fnNormalFormsCard

/-- THE TIED CARD OF 'laws.FnSameTraces'. -/
def fnSameTracesCard : Claim7 := { stood := { row := fnSameTracesRow, standIns := [], harness := (true, "463ba386f86178df65d1bad20cadf9b9eee41b2e98e2b9d4ee45865b7062edc7"), looks := false }, kinds := [], alts := [], laidByText := true, laidKinds := [.data], laidTests := true, laidLooks := .later }
def FnSameTracesCardSaid : Prop := Claim7.holds Tryd.pinned (.plain (OpenSpec.ofChange fnSameTracesSpec)) fnSameTracesCard

/-- THE TIED CARD OF 'laws.FnFoataForms'. -/
def fnFoataFormsCard : Claim7 := { stood := { row := fnFoataFormsRow, standIns := [], harness := (true, "463ba386f86178df65d1bad20cadf9b9eee41b2e98e2b9d4ee45865b7062edc7"), looks := false }, kinds := [], alts := [], laidByText := true, laidKinds := [.data], laidTests := true, laidLooks := .later }
def FnFoataFormsCardSaid : Prop := Claim7.holds Tryd.pinned (.plain (OpenSpec.ofChange fnFoataFormsSpec)) fnFoataFormsCard

/-- THE TIED CARD OF 'laws.FnProjections'. -/
def fnProjectionsCard : Claim7 := { stood := { row := fnProjectionsRow, standIns := [], harness := (true, "463ba386f86178df65d1bad20cadf9b9eee41b2e98e2b9d4ee45865b7062edc7"), looks := false }, kinds := [], alts := [], laidByText := true, laidKinds := [.data], laidTests := true, laidLooks := .later }
def FnProjectionsCardSaid : Prop := Claim7.holds Tryd.pinned (.plain (OpenSpec.ofChange fnProjectionsSpec)) fnProjectionsCard

/-- THE TIED CARD OF 'laws.FnAlphabetProducts'. -/
def fnAlphabetProductsCard : Claim7 := { stood := { row := fnAlphabetProductsRow, standIns := [], harness := (true, "463ba386f86178df65d1bad20cadf9b9eee41b2e98e2b9d4ee45865b7062edc7"), looks := false }, kinds := [], alts := [], laidByText := true, laidKinds := [.data], laidTests := true, laidLooks := .later }
def FnAlphabetProductsCardSaid : Prop := Claim7.holds Tryd.pinned (.plain (OpenSpec.ofChange fnAlphabetProductsSpec)) fnAlphabetProductsCard

/-- THE TIED CARD OF 'laws.FnExactStepsOf'. -/
def fnExactStepsOfCard : Claim7 := { stood := { row := fnExactStepsOfRow, standIns := [], harness := (true, "463ba386f86178df65d1bad20cadf9b9eee41b2e98e2b9d4ee45865b7062edc7"), looks := false }, kinds := [], alts := [], laidByText := true, laidKinds := [.data], laidTests := true, laidLooks := .later }
def FnExactStepsOfCardSaid : Prop := Claim7.holds Tryd.pinned (.plain (OpenSpec.ofChange fnExactStepsOfSpec)) fnExactStepsOfCard

/-- THE SECOND FORM's CARD OF 'laws.FnNormalForms'. -/
def fnNormalFormsUptoCard : Claim7 := { stood := { row := fnNormalFormsUptoRow, standIns := [], harness := (true, "463ba386f86178df65d1bad20cadf9b9eee41b2e98e2b9d4ee45865b7062edc7"), looks := false }, kinds := [], alts := [], laidByText := true, laidKinds := [.data], laidTests := true, laidLooks := .later }
def FnNormalFormsUptoCardSaid : Prop := Claim7.holds Tryd.pinned (.plain (OpenSpec.upto fnNormalFormsSpec)) fnNormalFormsUptoCard

/-- THE SECOND FORM's CARD OF 'laws.FnSameTraces'. -/
def fnSameTracesUptoCard : Claim7 := { stood := { row := fnSameTracesUptoRow, standIns := [], harness := (true, "463ba386f86178df65d1bad20cadf9b9eee41b2e98e2b9d4ee45865b7062edc7"), looks := false }, kinds := [], alts := [], laidByText := true, laidKinds := [.data], laidTests := true, laidLooks := .later }
def FnSameTracesUptoCardSaid : Prop := Claim7.holds Tryd.pinned (.plain (OpenSpec.upto fnSameTracesSpec)) fnSameTracesUptoCard

/-- THE SECOND FORM's CARD OF 'laws.FnFoataForms'. -/
def fnFoataFormsUptoCard : Claim7 := { stood := { row := fnFoataFormsUptoRow, standIns := [], harness := (true, "463ba386f86178df65d1bad20cadf9b9eee41b2e98e2b9d4ee45865b7062edc7"), looks := false }, kinds := [], alts := [], laidByText := true, laidKinds := [.data], laidTests := true, laidLooks := .later }
def FnFoataFormsUptoCardSaid : Prop := Claim7.holds Tryd.pinned (.plain (OpenSpec.upto fnFoataFormsSpec)) fnFoataFormsUptoCard

/-- THE SECOND FORM's CARD OF 'laws.FnProjections'. -/
def fnProjectionsUptoCard : Claim7 := { stood := { row := fnProjectionsUptoRow, standIns := [], harness := (true, "463ba386f86178df65d1bad20cadf9b9eee41b2e98e2b9d4ee45865b7062edc7"), looks := false }, kinds := [], alts := [], laidByText := true, laidKinds := [.data], laidTests := true, laidLooks := .later }
def FnProjectionsUptoCardSaid : Prop := Claim7.holds Tryd.pinned (.plain (OpenSpec.upto fnProjectionsSpec)) fnProjectionsUptoCard

/-- THE SECOND FORM's CARD OF 'laws.FnAlphabetProducts'. -/
def fnAlphabetProductsUptoCard : Claim7 := { stood := { row := fnAlphabetProductsUptoRow, standIns := [], harness := (true, "463ba386f86178df65d1bad20cadf9b9eee41b2e98e2b9d4ee45865b7062edc7"), looks := false }, kinds := [], alts := [], laidByText := true, laidKinds := [.data], laidTests := true, laidLooks := .later }
def FnAlphabetProductsUptoCardSaid : Prop := Claim7.holds Tryd.pinned (.plain (OpenSpec.upto fnAlphabetProductsSpec)) fnAlphabetProductsUptoCard

/-- THE SECOND FORM's CARD OF 'laws.FnExactStepsOf'. -/
def fnExactStepsOfUptoCard : Claim7 := { stood := { row := fnExactStepsOfUptoRow, standIns := [], harness := (true, "463ba386f86178df65d1bad20cadf9b9eee41b2e98e2b9d4ee45865b7062edc7"), looks := false }, kinds := [], alts := [], laidByText := true, laidKinds := [.data], laidTests := true, laidLooks := .later }
def FnExactStepsOfUptoCardSaid : Prop := Claim7.holds Tryd.pinned (.plain (OpenSpec.upto fnExactStepsOfSpec)) fnExactStepsOfUptoCard
end Rows
end Go.Proofs.YtleeihpmniabhaaDoor
