/-
  DERIVED. GIVEN WITH THE SEED: THE CARDS: each row of YtlkomakenfpapaaDoorRows.lean that lists a variable, with what it lists TIED to the program's text (the seventh form; the later family's looks); each row that meets fmt, with fmt's text TOLD by the authors' own Lean function (tested against real Go, not proved from fmt's source: count such statements apart). THE CARD IS WHAT COUNTS. Prove the row's statement (the work); the ties are given (YtlkomakenfpapaaDoorTie.lean); close each card by the builder's one call (the guide's Derived/Test/ToyasCard.lean, 'card_holds'). Laid BY PROGRAM, IN A SANDBOX (cutbox-door.mjs). By AI agents, Wed Nov 11 2026. No macro, syntax, notation, axiom, sorry.
-/
import Derived.Test.YtlkomakenfpapaaDoorRows
import GoSem.ClaimSeven
namespace Go.Proofs.YtlkomakenfpapaaDoor
namespace Rows

/-- THE TIED CARD OF 'laws.FnExactMembersOf'. -/
def fnExactMembersOfCard : Claim7 := { stood := { row := fnExactMembersOfRow, standIns := [], harness := (true, "ef5e6ff6dd6ee5a7b26dee80465eb6cb10545f0bccd3d82607cc79a069c44245"), looks := false }, kinds := [], alts := [], laidByText := true, laidKinds := [.data], laidTests := true, laidLooks := .later }
def FnExactMembersOfCardSaid : Prop := Claim7.holds Tryd.pinned (.plain (OpenSpec.ofChange fnExactMembersOfSpec)) fnExactMembersOfCard

/-- THE SECOND FORM's CARD OF 'laws.FnExactMembersOf'. -/
def fnExactMembersOfUptoCard : Claim7 := { stood := { row := fnExactMembersOfUptoRow, standIns := [], harness := (true, "ef5e6ff6dd6ee5a7b26dee80465eb6cb10545f0bccd3d82607cc79a069c44245"), looks := false }, kinds := [], alts := [], laidByText := true, laidKinds := [.data], laidTests := true, laidLooks := .later }
def FnExactMembersOfUptoCardSaid : Prop := Claim7.holds Tryd.pinned (.plain (OpenSpec.upto fnExactMembersOfSpec)) fnExactMembersOfUptoCard
end Rows
end Go.Proofs.YtlkomakenfpapaaDoor
