/-
  DERIVED. GIVEN WITH THE SEED: THE CARDS: each row of YtlpodkpnoopnnaaDoorRows.lean that lists a variable, with what it lists TIED to the program's text (the seventh form; the later family's looks); each row that meets fmt, with fmt's text TOLD by the authors' own Lean function (tested against real Go, not proved from fmt's source: count such statements apart). THE CARD IS WHAT COUNTS. Prove the row's statement (the work); the ties are given (YtlpodkpnoopnnaaDoorTie.lean); close each card by the builder's one call (the guide's Derived/Test/ToyasCard.lean, 'card_holds'). Laid BY PROGRAM, IN A SANDBOX (cutbox-door.mjs). By AI agents, Wed Nov 11 2026. No macro, syntax, notation, axiom, sorry.
-/
import Derived.Test.YtlpodkpnoopnnaaDoorRows
import GoSem.ClaimSeven
namespace Go.Proofs.YtlpodkpnoopnnaaDoor
namespace Rows

/-- THE TIED CARD OF 'laws.FnExactFirstLetters'. -/
def fnExactFirstLettersCard : Claim7 := { stood := { row := fnExactFirstLettersRow, standIns := [], harness := (true, "ebd655d3c71afcfaf3f8db15a950a5fda04b03f3a684fb93c10e3d12c54d0950"), looks := false }, kinds := [], alts := [], laidByText := true, laidKinds := [.data], laidTests := true, laidLooks := .later }
def FnExactFirstLettersCardSaid : Prop := Claim7.holds Tryd.pinned (.plain (OpenSpec.ofChange fnExactFirstLettersSpec)) fnExactFirstLettersCard

/-- THE TIED CARD OF 'laws.FnExactContentOf'. -/
def fnExactContentOfCard : Claim7 := { stood := { row := fnExactContentOfRow, standIns := [], harness := (true, "ebd655d3c71afcfaf3f8db15a950a5fda04b03f3a684fb93c10e3d12c54d0950"), looks := false }, kinds := [], alts := [], laidByText := true, laidKinds := [.data], laidTests := true, laidLooks := .later }
def FnExactContentOfCardSaid : Prop := Claim7.holds Tryd.pinned (.plain (OpenSpec.ofChange fnExactContentOfSpec)) fnExactContentOfCard

/-- THE TIED CARD OF 'laws.FnExactFoataForm'. -/
def fnExactFoataFormCard : Claim7 := { stood := { row := fnExactFoataFormRow, standIns := [], harness := (true, "ebd655d3c71afcfaf3f8db15a950a5fda04b03f3a684fb93c10e3d12c54d0950"), looks := false }, kinds := [], alts := [], laidByText := true, laidKinds := [.data], laidTests := true, laidLooks := .later }
def FnExactFoataFormCardSaid : Prop := Claim7.holds Tryd.pinned (.plain (OpenSpec.ofChange fnExactFoataFormSpec)) fnExactFoataFormCard

/-- THE TIED CARD OF 'laws.FnExactIsFoataForm'. -/
def fnExactIsFoataFormCard : Claim7 := { stood := { row := fnExactIsFoataFormRow, standIns := [], harness := (true, "ebd655d3c71afcfaf3f8db15a950a5fda04b03f3a684fb93c10e3d12c54d0950"), looks := false }, kinds := [], alts := [], laidByText := true, laidKinds := [.data], laidTests := true, laidLooks := .later }
def FnExactIsFoataFormCardSaid : Prop := Claim7.holds Tryd.pinned (.plain (OpenSpec.ofChange fnExactIsFoataFormSpec)) fnExactIsFoataFormCard

/-- THE TIED CARD OF 'laws.FnExactPairProjections'. -/
def fnExactPairProjectionsCard : Claim7 := { stood := { row := fnExactPairProjectionsRow, standIns := [], harness := (true, "ebd655d3c71afcfaf3f8db15a950a5fda04b03f3a684fb93c10e3d12c54d0950"), looks := false }, kinds := [], alts := [], laidByText := true, laidKinds := [.data], laidTests := true, laidLooks := .later }
def FnExactPairProjectionsCardSaid : Prop := Claim7.holds Tryd.pinned (.plain (OpenSpec.ofChange fnExactPairProjectionsSpec)) fnExactPairProjectionsCard

/-- THE TIED CARD OF 'laws.FnExactNormalForm'. -/
def fnExactNormalFormCard : Claim7 := { stood := { row := fnExactNormalFormRow, standIns := [], harness := (true, "ebd655d3c71afcfaf3f8db15a950a5fda04b03f3a684fb93c10e3d12c54d0950"), looks := false }, kinds := [], alts := [], laidByText := true, laidKinds := [.data], laidTests := true, laidLooks := .later }
def FnExactNormalFormCardSaid : Prop := Claim7.holds Tryd.pinned (.plain (OpenSpec.ofChange fnExactNormalFormSpec)) fnExactNormalFormCard

/-- THE TIED CARD OF 'laws.FnExactAreSameTrace'. -/
def fnExactAreSameTraceCard : Claim7 := { stood := { row := fnExactAreSameTraceRow, standIns := [], harness := (true, "ebd655d3c71afcfaf3f8db15a950a5fda04b03f3a684fb93c10e3d12c54d0950"), looks := false }, kinds := [], alts := [], laidByText := true, laidKinds := [.data], laidTests := true, laidLooks := .later }
def FnExactAreSameTraceCardSaid : Prop := Claim7.holds Tryd.pinned (.plain (OpenSpec.ofChange fnExactAreSameTraceSpec)) fnExactAreSameTraceCard

/-- THE TIED CARD OF 'laws.FnExactReverseOf'. -/
def fnExactReverseOfCard : Claim7 := { stood := { row := fnExactReverseOfRow, standIns := [], harness := (true, "ebd655d3c71afcfaf3f8db15a950a5fda04b03f3a684fb93c10e3d12c54d0950"), looks := false }, kinds := [], alts := [], laidByText := true, laidKinds := [.data], laidTests := true, laidLooks := .later }
def FnExactReverseOfCardSaid : Prop := Claim7.holds Tryd.pinned (.plain (OpenSpec.ofChange fnExactReverseOfSpec)) fnExactReverseOfCard

/-- THE TIED CARD OF 'laws.FnExactProjectionOf'. -/
def fnExactProjectionOfCard : Claim7 := { stood := { row := fnExactProjectionOfRow, standIns := [], harness := (true, "ebd655d3c71afcfaf3f8db15a950a5fda04b03f3a684fb93c10e3d12c54d0950"), looks := false }, kinds := [], alts := [], laidByText := true, laidKinds := [.data], laidTests := true, laidLooks := .later }
def FnExactProjectionOfCardSaid : Prop := Claim7.holds Tryd.pinned (.plain (OpenSpec.ofChange fnExactProjectionOfSpec)) fnExactProjectionOfCard

/-- THE TIED CARD OF 'laws.FnExactClassOf'. -/
def fnExactClassOfCard : Claim7 := { stood := { row := fnExactClassOfRow, standIns := [], harness := (true, "ebd655d3c71afcfaf3f8db15a950a5fda04b03f3a684fb93c10e3d12c54d0950"), looks := false }, kinds := [], alts := [], laidByText := true, laidKinds := [.data], laidTests := true, laidLooks := .later }
def FnExactClassOfCardSaid : Prop := Claim7.holds Tryd.pinned (.plain (OpenSpec.ofChange fnExactClassOfSpec)) fnExactClassOfCard

/-- THE TIED CARD OF 'laws.FnExactWordOfFoata'. -/
def fnExactWordOfFoataCard : Claim7 := { stood := { row := fnExactWordOfFoataRow, standIns := [], harness := (true, "ebd655d3c71afcfaf3f8db15a950a5fda04b03f3a684fb93c10e3d12c54d0950"), looks := false }, kinds := [], alts := [], laidByText := true, laidKinds := [.data], laidTests := true, laidLooks := .later }
def FnExactWordOfFoataCardSaid : Prop := Claim7.holds Tryd.pinned (.plain (OpenSpec.ofChange fnExactWordOfFoataSpec)) fnExactWordOfFoataCard

/-- THE TIED CARD OF 'laws.FnTraceForms'. -/
def fnTraceFormsCard : Claim7 := { stood := { row := fnTraceFormsRow, standIns := [], harness := (true, "ebd655d3c71afcfaf3f8db15a950a5fda04b03f3a684fb93c10e3d12c54d0950"), looks := false }, kinds := [], alts := [], laidByText := true, laidKinds := [.data], laidTests := true, laidLooks := .later }
def FnTraceFormsCardSaid : Prop := Claim7.holds Tryd.pinned (.plain (OpenSpec.ofChange fnTraceFormsSpec)) fnTraceFormsCard

/-- THE SECOND FORM's CARD OF 'laws.FnExactFirstLetters'. -/
def fnExactFirstLettersUptoCard : Claim7 := { stood := { row := fnExactFirstLettersUptoRow, standIns := [], harness := (true, "ebd655d3c71afcfaf3f8db15a950a5fda04b03f3a684fb93c10e3d12c54d0950"), looks := false }, kinds := [], alts := [], laidByText := true, laidKinds := [.data], laidTests := true, laidLooks := .later }
def FnExactFirstLettersUptoCardSaid : Prop := Claim7.holds Tryd.pinned (.plain (OpenSpec.upto fnExactFirstLettersSpec)) fnExactFirstLettersUptoCard

/-- THE SECOND FORM's CARD OF 'laws.FnExactContentOf'. -/
def fnExactContentOfUptoCard : Claim7 := { stood := { row := fnExactContentOfUptoRow, standIns := [], harness := (true, "ebd655d3c71afcfaf3f8db15a950a5fda04b03f3a684fb93c10e3d12c54d0950"), looks := false }, kinds := [], alts := [], laidByText := true, laidKinds := [.data], laidTests := true, laidLooks := .later }
def FnExactContentOfUptoCardSaid : Prop := Claim7.holds Tryd.pinned (.plain (OpenSpec.upto fnExactContentOfSpec)) fnExactContentOfUptoCard

/-- THE SECOND FORM's CARD OF 'laws.FnExactFoataForm'. -/
def fnExactFoataFormUptoCard : Claim7 := { stood := { row := fnExactFoataFormUptoRow, standIns := [], harness := (true, "ebd655d3c71afcfaf3f8db15a950a5fda04b03f3a684fb93c10e3d12c54d0950"), looks := false }, kinds := [], alts := [], laidByText := true, laidKinds := [.data], laidTests := true, laidLooks := .later }
def FnExactFoataFormUptoCardSaid : Prop := Claim7.holds Tryd.pinned (.plain (OpenSpec.upto fnExactFoataFormSpec)) fnExactFoataFormUptoCard

/-- THE SECOND FORM's CARD OF 'laws.FnExactIsFoataForm'. -/
def fnExactIsFoataFormUptoCard : Claim7 := { stood := { row := fnExactIsFoataFormUptoRow, standIns := [], harness := (true, "ebd655d3c71afcfaf3f8db15a950a5fda04b03f3a684fb93c10e3d12c54d0950"), looks := false }, kinds := [], alts := [], laidByText := true, laidKinds := [.data], laidTests := true, laidLooks := .later }
def FnExactIsFoataFormUptoCardSaid : Prop := Claim7.holds Tryd.pinned (.plain (OpenSpec.upto fnExactIsFoataFormSpec)) fnExactIsFoataFormUptoCard

/-- THE SECOND FORM's CARD OF 'laws.FnExactPairProjections'. -/
def fnExactPairProjectionsUptoCard : Claim7 := { stood := { row := fnExactPairProjectionsUptoRow, standIns := [], harness := (true, "ebd655d3c71afcfaf3f8db15a950a5fda04b03f3a684fb93c10e3d12c54d0950"), looks := false }, kinds := [], alts := [], laidByText := true, laidKinds := [.data], laidTests := true, laidLooks := .later }
def FnExactPairProjectionsUptoCardSaid : Prop := Claim7.holds Tryd.pinned (.plain (OpenSpec.upto fnExactPairProjectionsSpec)) fnExactPairProjectionsUptoCard

/-- THE SECOND FORM's CARD OF 'laws.FnExactNormalForm'. -/
def fnExactNormalFormUptoCard : Claim7 := { stood := { row := fnExactNormalFormUptoRow, standIns := [], harness := (true, "ebd655d3c71afcfaf3f8db15a950a5fda04b03f3a684fb93c10e3d12c54d0950"), looks := false }, kinds := [], alts := [], laidByText := true, laidKinds := [.data], laidTests := true, laidLooks := .later }
def FnExactNormalFormUptoCardSaid : Prop := Claim7.holds Tryd.pinned (.plain (OpenSpec.upto fnExactNormalFormSpec)) fnExactNormalFormUptoCard

/-- THE SECOND FORM's CARD OF 'laws.FnExactAreSameTrace'. -/
def fnExactAreSameTraceUptoCard : Claim7 := { stood := { row := fnExactAreSameTraceUptoRow, standIns := [], harness := (true, "ebd655d3c71afcfaf3f8db15a950a5fda04b03f3a684fb93c10e3d12c54d0950"), looks := false }, kinds := [], alts := [], laidByText := true, laidKinds := [.data], laidTests := true, laidLooks := .later }
def FnExactAreSameTraceUptoCardSaid : Prop := Claim7.holds Tryd.pinned (.plain (OpenSpec.upto fnExactAreSameTraceSpec)) fnExactAreSameTraceUptoCard

/-- THE SECOND FORM's CARD OF 'laws.FnExactReverseOf'. -/
def fnExactReverseOfUptoCard : Claim7 := { stood := { row := fnExactReverseOfUptoRow, standIns := [], harness := (true, "ebd655d3c71afcfaf3f8db15a950a5fda04b03f3a684fb93c10e3d12c54d0950"), looks := false }, kinds := [], alts := [], laidByText := true, laidKinds := [.data], laidTests := true, laidLooks := .later }
def FnExactReverseOfUptoCardSaid : Prop := Claim7.holds Tryd.pinned (.plain (OpenSpec.upto fnExactReverseOfSpec)) fnExactReverseOfUptoCard

/-- THE SECOND FORM's CARD OF 'laws.FnExactProjectionOf'. -/
def fnExactProjectionOfUptoCard : Claim7 := { stood := { row := fnExactProjectionOfUptoRow, standIns := [], harness := (true, "ebd655d3c71afcfaf3f8db15a950a5fda04b03f3a684fb93c10e3d12c54d0950"), looks := false }, kinds := [], alts := [], laidByText := true, laidKinds := [.data], laidTests := true, laidLooks := .later }
def FnExactProjectionOfUptoCardSaid : Prop := Claim7.holds Tryd.pinned (.plain (OpenSpec.upto fnExactProjectionOfSpec)) fnExactProjectionOfUptoCard

/-- THE SECOND FORM's CARD OF 'laws.FnExactClassOf'. -/
def fnExactClassOfUptoCard : Claim7 := { stood := { row := fnExactClassOfUptoRow, standIns := [], harness := (true, "ebd655d3c71afcfaf3f8db15a950a5fda04b03f3a684fb93c10e3d12c54d0950"), looks := false }, kinds := [], alts := [], laidByText := true, laidKinds := [.data], laidTests := true, laidLooks := .later }
def FnExactClassOfUptoCardSaid : Prop := Claim7.holds Tryd.pinned (.plain (OpenSpec.upto fnExactClassOfSpec)) fnExactClassOfUptoCard

/-- THE SECOND FORM's CARD OF 'laws.FnExactWordOfFoata'. -/
def fnExactWordOfFoataUptoCard : Claim7 := { stood := { row := fnExactWordOfFoataUptoRow, standIns := [], harness := (true, "ebd655d3c71afcfaf3f8db15a950a5fda04b03f3a684fb93c10e3d12c54d0950"), looks := false }, kinds := [], alts := [], laidByText := true, laidKinds := [.data], laidTests := true, laidLooks := .later }
def FnExactWordOfFoataUptoCardSaid : Prop := Claim7.holds Tryd.pinned (.plain (OpenSpec.upto fnExactWordOfFoataSpec)) fnExactWordOfFoataUptoCard

/-- THE SECOND FORM's CARD OF 'laws.FnTraceForms'. -/
def fnTraceFormsUptoCard : Claim7 := { stood := { row := fnTraceFormsUptoRow, standIns := [], harness := (true, "ebd655d3c71afcfaf3f8db15a950a5fda04b03f3a684fb93c10e3d12c54d0950"), looks := false }, kinds := [], alts := [], laidByText := true, laidKinds := [.data], laidTests := true, laidLooks := .later }
def FnTraceFormsUptoCardSaid : Prop := Claim7.holds Tryd.pinned (.plain (OpenSpec.upto fnTraceFormsSpec)) fnTraceFormsUptoCard
end Rows
end Go.Proofs.YtlpodkpnoopnnaaDoor
