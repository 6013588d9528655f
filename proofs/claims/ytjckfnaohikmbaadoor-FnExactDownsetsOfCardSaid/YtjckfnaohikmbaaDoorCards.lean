/-
  DERIVED. GIVEN WITH THE SEED: THE CARDS: each row of YtjckfnaohikmbaaDoorRows.lean that lists a variable, with what it lists TIED to the program's text (the seventh form; the later family's looks); each row that meets fmt, with fmt's text TOLD by the authors' own Lean function (tested against real Go, not proved from fmt's source: count such statements apart). THE CARD IS WHAT COUNTS. Prove the row's statement (the work); the ties are given (YtjckfnaohikmbaaDoorTie.lean); close each card by the builder's one call (the guide's Derived/Test/ToyasCard.lean, 'card_holds'). Laid BY PROGRAM, IN A SANDBOX (cutbox-door.mjs). By AI agents, Wed Nov 11 2026. No macro, syntax, notation, axiom, sorry.
-/
import Derived.Test.YtjckfnaohikmbaaDoorRows
import GoSem.ClaimSeven
namespace Go.Proofs.YtjckfnaohikmbaaDoor
namespace Rows

/-- THE TIED CARD OF 'laws.FnExactCliquesOf'. -/
def fnExactCliquesOfCard : Claim7 := { stood := { row := fnExactCliquesOfRow, standIns := [], harness := (true, "f53a2570ca35572eabfcc0c437f4d5f0254b6b5e54e710a9eec2fc21f2ff2d68"), looks := false }, kinds := [], alts := [], laidByText := true, laidKinds := [.data], laidTests := true, laidLooks := .later }
def FnExactCliquesOfCardSaid : Prop := Claim7.holds Tryd.pinned (.plain (OpenSpec.ofChange fnExactCliquesOfSpec)) fnExactCliquesOfCard

/-- THE TIED CARD OF 'laws.FnExactMaximalCliques'. -/
def fnExactMaximalCliquesCard : Claim7 := { stood := { row := fnExactMaximalCliquesRow, standIns := [], harness := (true, "f53a2570ca35572eabfcc0c437f4d5f0254b6b5e54e710a9eec2fc21f2ff2d68"), looks := false }, kinds := [], alts := [], laidByText := true, laidKinds := [.data], laidTests := true, laidLooks := .later }
def FnExactMaximalCliquesCardSaid : Prop := Claim7.holds Tryd.pinned (.plain (OpenSpec.ofChange fnExactMaximalCliquesSpec)) fnExactMaximalCliquesCard

/-- THE TIED CARD OF 'laws.FnCliques'. -/
def fnCliquesCard : Claim7 := { stood := { row := fnCliquesRow, standIns := [], harness := (true, "f53a2570ca35572eabfcc0c437f4d5f0254b6b5e54e710a9eec2fc21f2ff2d68"), looks := false }, kinds := [], alts := [], laidByText := true, laidKinds := [.data], laidTests := true, laidLooks := .later }
def FnCliquesCardSaid : Prop := Claim7.holds Tryd.pinned (.plain (OpenSpec.ofChange fnCliquesSpec)) fnCliquesCard

/-- THE TIED CARD OF 'laws.FnExactDownsetsOf'. -/
def fnExactDownsetsOfCard : Claim7 := { stood := { row := fnExactDownsetsOfRow, standIns := [], harness := (true, "f53a2570ca35572eabfcc0c437f4d5f0254b6b5e54e710a9eec2fc21f2ff2d68"), looks := false }, kinds := [], alts := [], laidByText := true, laidKinds := [.data], laidTests := true, laidLooks := .later }
def FnExactDownsetsOfCardSaid : Prop := Claim7.holds Tryd.pinned (.plain (OpenSpec.ofChange fnExactDownsetsOfSpec)) fnExactDownsetsOfCard

/-- THE TIED CARD OF 'laws.FnOrders'. -/
def fnOrdersCard : Claim7 := { stood := { row := fnOrdersRow, standIns := [], harness := (true, "f53a2570ca35572eabfcc0c437f4d5f0254b6b5e54e710a9eec2fc21f2ff2d68"), looks := false }, kinds := [], alts := [], laidByText := true, laidKinds := [.data], laidTests := true, laidLooks := .later }
def FnOrdersCardSaid : Prop := Claim7.holds Tryd.pinned (.plain (OpenSpec.ofChange fnOrdersSpec)) fnOrdersCard

/-- THE SECOND FORM's CARD OF 'laws.FnExactCliquesOf'. -/
def fnExactCliquesOfUptoCard : Claim7 := { stood := { row := fnExactCliquesOfUptoRow, standIns := [], harness := (true, "f53a2570ca35572eabfcc0c437f4d5f0254b6b5e54e710a9eec2fc21f2ff2d68"), looks := false }, kinds := [], alts := [], laidByText := true, laidKinds := [.data], laidTests := true, laidLooks := .later }
def FnExactCliquesOfUptoCardSaid : Prop := Claim7.holds Tryd.pinned (.plain (OpenSpec.upto fnExactCliquesOfSpec)) fnExactCliquesOfUptoCard

/-- THE SECOND FORM's CARD OF 'laws.FnExactMaximalCliques'. -/
def fnExactMaximalCliquesUptoCard : Claim7 := { stood := { row := fnExactMaximalCliquesUptoRow, standIns := [], harness := (true, "f53a2570ca35572eabfcc0c437f4d5f0254b6b5e54e710a9eec2fc21f2ff2d68"), looks := false }, kinds := [], alts := [], laidByText := true, laidKinds := [.data], laidTests := true, laidLooks := .later }
def FnExactMaximalCliquesUptoCardSaid : Prop := Claim7.holds Tryd.pinned (.plain (OpenSpec.upto fnExactMaximalCliquesSpec)) fnExactMaximalCliquesUptoCard

/-- THE SECOND FORM's CARD OF 'laws.FnCliques'. -/
def fnCliquesUptoCard : Claim7 := { stood := { row := fnCliquesUptoRow, standIns := [], harness := (true, "f53a2570ca35572eabfcc0c437f4d5f0254b6b5e54e710a9eec2fc21f2ff2d68"), looks := false }, kinds := [], alts := [], laidByText := true, laidKinds := [.data], laidTests := true, laidLooks := .later }
def FnCliquesUptoCardSaid : Prop := Claim7.holds Tryd.pinned (.plain (OpenSpec.upto fnCliquesSpec)) fnCliquesUptoCard

/-- THE SECOND FORM's CARD OF 'laws.FnExactDownsetsOf'. -/
def fnExactDownsetsOfUptoCard : Claim7 := { stood := { row := fnExactDownsetsOfUptoRow, standIns := [], harness := (true, "f53a2570ca35572eabfcc0c437f4d5f0254b6b5e54e710a9eec2fc21f2ff2d68"), looks := false }, kinds := [], alts := [], laidByText := true, laidKinds := [.data], laidTests := true, laidLooks := .later }
def FnExactDownsetsOfUptoCardSaid : Prop := Claim7.holds Tryd.pinned (.plain (OpenSpec.upto fnExactDownsetsOfSpec)) fnExactDownsetsOfUptoCard

/-- THE SECOND FORM's CARD OF 'laws.FnOrders'. -/
def fnOrdersUptoCard : Claim7 := { stood := { row := fnOrdersUptoRow, standIns := [], harness := (true, "f53a2570ca35572eabfcc0c437f4d5f0254b6b5e54e710a9eec2fc21f2ff2d68"), looks := false }, kinds := [], alts := [], laidByText := true, laidKinds := [.data], laidTests := true, laidLooks := .later }
def FnOrdersUptoCardSaid : Prop := Claim7.holds Tryd.pinned (.plain (OpenSpec.upto fnOrdersSpec)) fnOrdersUptoCard
end Rows
end Go.Proofs.YtjckfnaohikmbaaDoor
