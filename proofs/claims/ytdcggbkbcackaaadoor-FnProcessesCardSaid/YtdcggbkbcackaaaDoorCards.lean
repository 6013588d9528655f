/-
  DERIVED. GIVEN WITH THE SEED: THE CARDS: each row of YtdcggbkbcackaaaDoorRows.lean that lists a variable, with what it lists TIED to the program's text (the seventh form; the later family's looks); each row that meets fmt, with fmt's text TOLD by the authors' own Lean function (tested against real Go, not proved from fmt's source: count such statements apart). THE CARD IS WHAT COUNTS. Prove the row's statement (the work); the ties are given (YtdcggbkbcackaaaDoorTie.lean); close each card by the builder's one call (the guide's Derived/Test/ToyasCard.lean, 'card_holds'). Laid BY PROGRAM, IN A SANDBOX (cutbox-door.mjs). By AI agents, Wed Nov 11 2026. No macro, syntax, notation, axiom, sorry.
-/
import Derived.Test.YtdcggbkbcackaaaDoorRows
import GoSem.ClaimSeven
namespace Go.Proofs.YtdcggbkbcackaaaDoor
namespace Rows

/-- THE TIED CARD OF 'laws.FnExactProcessesOf'. -/
def fnExactProcessesOfCard : Claim7 := { stood := { row := fnExactProcessesOfRow, standIns := [], harness := (true, "55c41cff2b76b2004d0bc55e53f6b359d6cc1c4d7d737ee7f46b72e4d3a99e16"), looks := false }, kinds := [], alts := [], laidByText := true, laidKinds := [.data], laidTests := true, laidLooks := .later }
def FnExactProcessesOfCardSaid : Prop := Claim7.holds Tryd.pinned (.plain (OpenSpec.ofChange fnExactProcessesOfSpec)) fnExactProcessesOfCard

/-- THE TIED CARD OF 'laws.FnProcesses'. -/
def fnProcessesCard : Claim7 := { stood := { row := fnProcessesRow, standIns := [], harness := (true, "55c41cff2b76b2004d0bc55e53f6b359d6cc1c4d7d737ee7f46b72e4d3a99e16"), looks := false }, kinds := [], alts := [], laidByText := true, laidKinds := [.data], laidTests := true, laidLooks := .later }
def FnProcessesCardSaid : Prop := Claim7.holds Tryd.pinned (.plain (OpenSpec.ofChange fnProcessesSpec)) fnProcessesCard

/-- THE SECOND FORM's CARD OF 'laws.FnExactProcessesOf'. -/
def fnExactProcessesOfUptoCard : Claim7 := { stood := { row := fnExactProcessesOfUptoRow, standIns := [], harness := (true, "55c41cff2b76b2004d0bc55e53f6b359d6cc1c4d7d737ee7f46b72e4d3a99e16"), looks := false }, kinds := [], alts := [], laidByText := true, laidKinds := [.data], laidTests := true, laidLooks := .later }
def FnExactProcessesOfUptoCardSaid : Prop := Claim7.holds Tryd.pinned (.plain (OpenSpec.upto fnExactProcessesOfSpec)) fnExactProcessesOfUptoCard

/-- THE SECOND FORM's CARD OF 'laws.FnProcesses'. -/
def fnProcessesUptoCard : Claim7 := { stood := { row := fnProcessesUptoRow, standIns := [], harness := (true, "55c41cff2b76b2004d0bc55e53f6b359d6cc1c4d7d737ee7f46b72e4d3a99e16"), looks := false }, kinds := [], alts := [], laidByText := true, laidKinds := [.data], laidTests := true, laidLooks := .later }
def FnProcessesUptoCardSaid : Prop := Claim7.holds Tryd.pinned (.plain (OpenSpec.upto fnProcessesSpec)) fnProcessesUptoCard
end Rows
end Go.Proofs.YtdcggbkbcackaaaDoor
