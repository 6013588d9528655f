/-
  DERIVED. GIVEN WITH THE SEED: THE CARDS: each row of YtpgfmpmppnmmcaaDoorRows.lean that lists a variable, with what it lists TIED to the program's text (the seventh form; the later family's looks); each row that meets fmt, with fmt's text TOLD by the authors' own Lean function (tested against real Go, not proved from fmt's source: count such statements apart). THE CARD IS WHAT COUNTS. Prove the row's statement (the work); the ties are given (YtpgfmpmppnmmcaaDoorTie.lean); close each card by the builder's one call (the guide's Derived/Test/ToyasCard.lean, 'card_holds'). Laid BY PROGRAM, IN A SANDBOX (cutbox-door.mjs). By AI agents, Wed Nov 11 2026. No macro, syntax, notation, axiom, sorry.
-/
import Derived.Test.YtpgfmpmppnmmcaaDoorRows
import GoSem.ClaimSeven
namespace Go.Proofs.YtpgfmpmppnmmcaaDoor
namespace Rows

/-- THE TIED CARD OF 'laws.FnExactWordOfProjections'. -/
def fnExactWordOfProjectionsCard : Claim7 := { stood := { row := fnExactWordOfProjectionsRow, standIns := [], harness := (true, "5983a5a49a1bdb102ea195cc1ae9058e8e9fdc4dcf1ae46c98592388e24b0110"), looks := false }, kinds := [], alts := [], laidByText := true, laidKinds := [.data], laidTests := true, laidLooks := .later }
def FnExactWordOfProjectionsCardSaid : Prop := Claim7.holds Tryd.pinned (.plain (OpenSpec.ofChange fnExactWordOfProjectionsSpec)) fnExactWordOfProjectionsCard

/-- THE TIED CARD OF 'laws.FnProjections'. -/
def fnProjectionsCard : Claim7 := { stood := { row := fnProjectionsRow, standIns := [], harness := (true, "5983a5a49a1bdb102ea195cc1ae9058e8e9fdc4dcf1ae46c98592388e24b0110"), looks := false }, kinds := [], alts := [], laidByText := true, laidKinds := [.data], laidTests := true, laidLooks := .later }
def FnProjectionsCardSaid : Prop := Claim7.holds Tryd.pinned (.plain (OpenSpec.ofChange fnProjectionsSpec)) fnProjectionsCard

/-- THE SECOND FORM's CARD OF 'laws.FnExactWordOfProjections'. -/
def fnExactWordOfProjectionsUptoCard : Claim7 := { stood := { row := fnExactWordOfProjectionsUptoRow, standIns := [], harness := (true, "5983a5a49a1bdb102ea195cc1ae9058e8e9fdc4dcf1ae46c98592388e24b0110"), looks := false }, kinds := [], alts := [], laidByText := true, laidKinds := [.data], laidTests := true, laidLooks := .later }
def FnExactWordOfProjectionsUptoCardSaid : Prop := Claim7.holds Tryd.pinned (.plain (OpenSpec.upto fnExactWordOfProjectionsSpec)) fnExactWordOfProjectionsUptoCard

/-- THE SECOND FORM's CARD OF 'laws.FnProjections'. -/
def fnProjectionsUptoCard : Claim7 := { stood := { row := fnProjectionsUptoRow, standIns := [], harness := (true, "5983a5a49a1bdb102ea195cc1ae9058e8e9fdc4dcf1ae46c98592388e24b0110"), looks := false }, kinds := [], alts := [], laidByText := true, laidKinds := [.data], laidTests := true, laidLooks := .later }
def FnProjectionsUptoCardSaid : Prop := Claim7.holds Tryd.pinned (.plain (OpenSpec.upto fnProjectionsSpec)) fnProjectionsUptoCard
end Rows
end Go.Proofs.YtpgfmpmppnmmcaaDoor
