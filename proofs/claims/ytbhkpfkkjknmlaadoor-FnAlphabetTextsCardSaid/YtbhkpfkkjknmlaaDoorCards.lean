/-
  DERIVED. GIVEN WITH THE SEED: THE CARDS: each row of YtbhkpfkkjknmlaaDoorRows.lean that lists a variable, with what it lists TIED to the program's text (the seventh form; the later family's looks); each row that meets fmt, with fmt's text TOLD by the authors' own Lean function (tested against real Go, not proved from fmt's source: count such statements apart). THE CARD IS WHAT COUNTS. Prove the row's statement (the work); the ties are given (YtbhkpfkkjknmlaaDoorTie.lean); close each card by the builder's one call (the guide's Derived/Test/ToyasCard.lean, 'card_holds'). Laid BY PROGRAM, IN A SANDBOX (cutbox-door.mjs). By AI agents, Wed Nov 11 2026. No macro, syntax, notation, axiom, sorry.
-/
import Derived.Test.YtbhkpfkkjknmlaaDoorRows
import GoSem.ClaimSeven
namespace Go.Proofs.YtbhkpfkkjknmlaaDoor
namespace Rows

/-- THE TIED CARD OF 'laws.FnExactAlphabetText'. -/
def fnExactAlphabetTextCard : Claim7 := { stood := { row := fnExactAlphabetTextRow, standIns := [], harness := (true, "1f63201f8db07e70667c34161cad5f674fb686f2cf5dbf4079c3bcffc181deab"), looks := false }, kinds := [], alts := [], laidByText := true, laidKinds := [.data, .data, .data], laidTests := true, laidLooks := .later }
def FnExactAlphabetTextCardSaid : Prop := Claim7.holds Tryd.pinned (.plain (OpenSpec.ofChange fnExactAlphabetTextSpec)) fnExactAlphabetTextCard

/-- THE TIED CARD OF 'laws.FnExactParseAlphabet'. -/
def fnExactParseAlphabetCard : Claim7 := { stood := { row := fnExactParseAlphabetRow, standIns := [], harness := (true, "1f63201f8db07e70667c34161cad5f674fb686f2cf5dbf4079c3bcffc181deab"), looks := false }, kinds := [], alts := [], laidByText := true, laidKinds := [.data, .data, .data, .data, .pinned], laidTests := true, laidLooks := .later }
def FnExactParseAlphabetCardSaid : Prop := Claim7.holds Tryd.pinned (.plain (OpenSpec.ofChange fnExactParseAlphabetSpec)) fnExactParseAlphabetCard

/-- THE TIED CARD OF 'laws.FnAlphabetTexts'. -/
def fnAlphabetTextsCard : Claim7 := { stood := { row := fnAlphabetTextsRow, standIns := [], harness := (true, "1f63201f8db07e70667c34161cad5f674fb686f2cf5dbf4079c3bcffc181deab"), looks := false }, kinds := [], alts := [], laidByText := true, laidKinds := [.data, .data, .data, .data, .pinned], laidTests := true, laidLooks := .later }
def FnAlphabetTextsCardSaid : Prop := Claim7.holds Tryd.pinned (.plain (OpenSpec.ofChange fnAlphabetTextsSpec)) fnAlphabetTextsCard

/-- THE SECOND FORM's CARD OF 'laws.FnExactAlphabetText'. -/
def fnExactAlphabetTextUptoCard : Claim7 := { stood := { row := fnExactAlphabetTextUptoRow, standIns := [], harness := (true, "1f63201f8db07e70667c34161cad5f674fb686f2cf5dbf4079c3bcffc181deab"), looks := false }, kinds := [], alts := [], laidByText := true, laidKinds := [.data, .data, .data], laidTests := true, laidLooks := .later }
def FnExactAlphabetTextUptoCardSaid : Prop := Claim7.holds Tryd.pinned (.plain (OpenSpec.upto fnExactAlphabetTextSpec)) fnExactAlphabetTextUptoCard

/-- THE SECOND FORM's CARD OF 'laws.FnExactParseAlphabet'. -/
def fnExactParseAlphabetUptoCard : Claim7 := { stood := { row := fnExactParseAlphabetUptoRow, standIns := [], harness := (true, "1f63201f8db07e70667c34161cad5f674fb686f2cf5dbf4079c3bcffc181deab"), looks := false }, kinds := [], alts := [], laidByText := true, laidKinds := [.data, .data, .data, .data, .pinned], laidTests := true, laidLooks := .later }
def FnExactParseAlphabetUptoCardSaid : Prop := Claim7.holds Tryd.pinned (.plain (OpenSpec.upto fnExactParseAlphabetSpec)) fnExactParseAlphabetUptoCard

/-- THE SECOND FORM's CARD OF 'laws.FnAlphabetTexts'. -/
def fnAlphabetTextsUptoCard : Claim7 := { stood := { row := fnAlphabetTextsUptoRow, standIns := [], harness := (true, "1f63201f8db07e70667c34161cad5f674fb686f2cf5dbf4079c3bcffc181deab"), looks := false }, kinds := [], alts := [], laidByText := true, laidKinds := [.data, .data, .data, .data, .pinned], laidTests := true, laidLooks := .later }
def FnAlphabetTextsUptoCardSaid : Prop := Claim7.holds Tryd.pinned (.plain (OpenSpec.upto fnAlphabetTextsSpec)) fnAlphabetTextsUptoCard
end Rows
end Go.Proofs.YtbhkpfkkjknmlaaDoor
