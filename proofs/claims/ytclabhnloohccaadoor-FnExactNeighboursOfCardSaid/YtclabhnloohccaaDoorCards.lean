/-
  DERIVED. GIVEN WITH THE SEED: THE CARDS: each row of YtclabhnloohccaaDoorRows.lean that lists a variable, with what it lists TIED to the program's text (the seventh form; the later family's looks); each row that meets fmt, with fmt's text TOLD by the authors' own Lean function (tested against real Go, not proved from fmt's source: count such statements apart). THE CARD IS WHAT COUNTS. Prove the row's statement (the work); the ties are given (YtclabhnloohccaaDoorTie.lean); close each card by the builder's one call (the guide's Derived/Test/ToyasCard.lean, 'card_holds'). Laid BY PROGRAM, IN A SANDBOX (cutbox-door.mjs). By AI agents, Wed Nov 11 2026. No macro, syntax, notation, axiom, sorry.
-/
import Derived.Test.YtclabhnloohccaaDoorRows
import GoSem.ClaimSeven
namespace Go.Proofs.YtclabhnloohccaaDoor
namespace Rows

/-- THE TIED CARD OF 'laws.FnExactPairProjections'. -/
def fnExactPairProjectionsCard : Claim7 := { stood := { row := fnExactPairProjectionsRow, standIns := [], harness := (true, "a1d37d0d3ddca55b8af0e0183a8ae07d53f20f83b52e370228f820641a79fb98"), looks := false }, kinds := [], alts := [], laidByText := true, laidKinds := [.data], laidTests := true, laidLooks := .later }
def FnExactPairProjectionsCardSaid : Prop := Claim7.holds Tryd.pinned (.plain (OpenSpec.ofChange fnExactPairProjectionsSpec)) fnExactPairProjectionsCard

/-- THE TIED CARD OF 'laws.FnExactClassOf'. -/
def fnExactClassOfCard : Claim7 := { stood := { row := fnExactClassOfRow, standIns := [], harness := (true, "a1d37d0d3ddca55b8af0e0183a8ae07d53f20f83b52e370228f820641a79fb98"), looks := false }, kinds := [], alts := [], laidByText := true, laidKinds := [.data], laidTests := true, laidLooks := .later }
def FnExactClassOfCardSaid : Prop := Claim7.holds Tryd.pinned (.plain (OpenSpec.ofChange fnExactClassOfSpec)) fnExactClassOfCard

/-- THE TIED CARD OF 'laws.FnExactWordOfProjections'. -/
def fnExactWordOfProjectionsCard : Claim7 := { stood := { row := fnExactWordOfProjectionsRow, standIns := [], harness := (true, "a1d37d0d3ddca55b8af0e0183a8ae07d53f20f83b52e370228f820641a79fb98"), looks := false }, kinds := [], alts := [], laidByText := true, laidKinds := [.data], laidTests := true, laidLooks := .later }
def FnExactWordOfProjectionsCardSaid : Prop := Claim7.holds Tryd.pinned (.plain (OpenSpec.ofChange fnExactWordOfProjectionsSpec)) fnExactWordOfProjectionsCard

/-- THE TIED CARD OF 'laws.FnExactNeighboursOf'. -/
def fnExactNeighboursOfCard : Claim7 := { stood := { row := fnExactNeighboursOfRow, standIns := [], harness := (true, "a1d37d0d3ddca55b8af0e0183a8ae07d53f20f83b52e370228f820641a79fb98"), looks := false }, kinds := [], alts := [], laidByText := true, laidKinds := [.data], laidTests := true, laidLooks := .later }
def FnExactNeighboursOfCardSaid : Prop := Claim7.holds Tryd.pinned (.plain (OpenSpec.ofChange fnExactNeighboursOfSpec)) fnExactNeighboursOfCard

/-- THE SECOND FORM's CARD OF 'laws.FnExactPairProjections'. -/
def fnExactPairProjectionsUptoCard : Claim7 := { stood := { row := fnExactPairProjectionsUptoRow, standIns := [], harness := (true, "a1d37d0d3ddca55b8af0e0183a8ae07d53f20f83b52e370228f820641a79fb98"), looks := false }, kinds := [], alts := [], laidByText := true, laidKinds := [.data], laidTests := true, laidLooks := .later }
def FnExactPairProjectionsUptoCardSaid : Prop := Claim7.holds Tryd.pinned (.plain (OpenSpec.upto fnExactPairProjectionsSpec)) fnExactPairProjectionsUptoCard

/-- THE SECOND FORM's CARD OF 'laws.FnExactClassOf'. -/
def fnExactClassOfUptoCard : Claim7 := { stood := { row := fnExactClassOfUptoRow, standIns := [], harness := (true, "a1d37d0d3ddca55b8af0e0183a8ae07d53f20f83b52e370228f820641a79fb98"), looks := false }, kinds := [], alts := [], laidByText := true, laidKinds := [.data], laidTests := true, laidLooks := .later }
def FnExactClassOfUptoCardSaid : Prop := Claim7.holds Tryd.pinned (.plain (OpenSpec.upto fnExactClassOfSpec)) fnExactClassOfUptoCard

/-- THE SECOND FORM's CARD OF 'laws.FnExactWordOfProjections'. -/
def fnExactWordOfProjectionsUptoCard : Claim7 := { stood := { row := fnExactWordOfProjectionsUptoRow, standIns := [], harness := (true, "a1d37d0d3ddca55b8af0e0183a8ae07d53f20f83b52e370228f820641a79fb98"), looks := false }, kinds := [], alts := [], laidByText := true, laidKinds := [.data], laidTests := true, laidLooks := .later }
def FnExactWordOfProjectionsUptoCardSaid : Prop := Claim7.holds Tryd.pinned (.plain (OpenSpec.upto fnExactWordOfProjectionsSpec)) fnExactWordOfProjectionsUptoCard

/-- THE SECOND FORM's CARD OF 'laws.FnExactNeighboursOf'. -/
def fnExactNeighboursOfUptoCard : Claim7 := { stood := { row := fnExactNeighboursOfUptoRow, standIns := [], harness := (true, "a1d37d0d3ddca55b8af0e0183a8ae07d53f20f83b52e370228f820641a79fb98"), looks := false }, kinds := [], alts := [], laidByText := true, laidKinds := [.data], laidTests := true, laidLooks := .later }
def FnExactNeighboursOfUptoCardSaid : Prop := Claim7.holds Tryd.pinned (.plain (OpenSpec.upto fnExactNeighboursOfSpec)) fnExactNeighboursOfUptoCard
end Rows
end Go.Proofs.YtclabhnloohccaaDoor
