/-
  DERIVED. GIVEN WITH THE SEED: THE CARDS: each row of YtjfdhkobaiplpaaDoorRows.lean that lists a variable, with what it lists TIED to the program's text (the seventh form; the later family's looks); each row that meets fmt, with fmt's text TOLD by the authors' own Lean function (tested against real Go, not proved from fmt's source: count such statements apart). THE CARD IS WHAT COUNTS. Prove the row's statement (the work); the ties are given (YtjfdhkobaiplpaaDoorTie.lean); close each card by the builder's one call (the guide's Derived/Test/ToyasCard.lean, 'card_holds'). Laid BY PROGRAM, IN A SANDBOX (cutbox-door.mjs). By AI agents, Wed Nov 11 2026. No macro, syntax, notation, axiom, sorry.
-/
import Derived.Test.YtjfdhkobaiplpaaDoorRows
import GoSem.ClaimSeven
namespace Go.Proofs.YtjfdhkobaiplpaaDoor
namespace Rows

/-- THE TIED CARD OF 'laws.FnExactLeastAlphabet'. -/
def fnExactLeastAlphabetCard : Claim7 := { stood := { row := fnExactLeastAlphabetRow, standIns := [], harness := (true, "011f3b3dc85288165bad454a850b18eb55dcc139a3604d7e9c2ac56db0150362"), looks := false }, kinds := [], alts := [], laidByText := true, laidKinds := [.data], laidTests := true, laidLooks := .later }
def FnExactLeastAlphabetCardSaid : Prop := Claim7.holds Tryd.pinned (.plain (OpenSpec.ofChange fnExactLeastAlphabetSpec)) fnExactLeastAlphabetCard

/-- THE TIED CARD OF 'laws.FnLeastAlphabets'. -/
def fnLeastAlphabetsCard : Claim7 := { stood := { row := fnLeastAlphabetsRow, standIns := [], harness := (true, "011f3b3dc85288165bad454a850b18eb55dcc139a3604d7e9c2ac56db0150362"), looks := false }, kinds := [], alts := [], laidByText := true, laidKinds := [.data], laidTests := true, laidLooks := .later }
def FnLeastAlphabetsCardSaid : Prop := Claim7.holds Tryd.pinned (.plain (OpenSpec.ofChange fnLeastAlphabetsSpec)) fnLeastAlphabetsCard

/-- THE SECOND FORM's CARD OF 'laws.FnExactLeastAlphabet'. -/
def fnExactLeastAlphabetUptoCard : Claim7 := { stood := { row := fnExactLeastAlphabetUptoRow, standIns := [], harness := (true, "011f3b3dc85288165bad454a850b18eb55dcc139a3604d7e9c2ac56db0150362"), looks := false }, kinds := [], alts := [], laidByText := true, laidKinds := [.data], laidTests := true, laidLooks := .later }
def FnExactLeastAlphabetUptoCardSaid : Prop := Claim7.holds Tryd.pinned (.plain (OpenSpec.upto fnExactLeastAlphabetSpec)) fnExactLeastAlphabetUptoCard

/-- THE SECOND FORM's CARD OF 'laws.FnLeastAlphabets'. -/
def fnLeastAlphabetsUptoCard : Claim7 := { stood := { row := fnLeastAlphabetsUptoRow, standIns := [], harness := (true, "011f3b3dc85288165bad454a850b18eb55dcc139a3604d7e9c2ac56db0150362"), looks := false }, kinds := [], alts := [], laidByText := true, laidKinds := [.data], laidTests := true, laidLooks := .later }
def FnLeastAlphabetsUptoCardSaid : Prop := Claim7.holds Tryd.pinned (.plain (OpenSpec.upto fnLeastAlphabetsSpec)) fnLeastAlphabetsUptoCard
end Rows
end Go.Proofs.YtjfdhkobaiplpaaDoor
