/-
  NARROWER THAN 'FOR EVERY INPUT', by the rows' own cells (each row's printed sentence says how): FnExactFirstLetters: laid · FnExactContentOf: laid · FnExactFoataForm: laid · FnExactIsFoataForm: laid · FnExactPairProjections: laid · FnExactNormalForm: laid · FnExactAreSameTrace: laid · FnExactReverseOf: laid · FnExactProjectionOf: laid · FnExactClassOf: laid · FnExactWordOfFoata: laid · FnTraceForms: laid.
  DERIVED. THE GIVEN ROWS OF THIS SEAT. 12 by the template 'for every input the law returns true; each argument reads behind the call as it read before'; 0 by the template 'total and deterministic' (their statements: YtlpodkpnoopnnaaDoorTotals.lean).
  GIVEN WITH THE SEED: the statements are not yours to turn. If you find one false, say at which input.
  Laid BY PROGRAM, IN A SANDBOX (cutbox-rows.mjs): the forced cells as the released guide's own fill.sh prints them over the translation bf841af7a3226798… (all of the seat's roots in one cut). By AI agents, Wed Nov 11 2026. No macro, syntax, notation, axiom, sorry.
-/
import Derived.Test.YtlpodkpnoopnnaaDoorChecked
import GoSem.Claim
import GoSem.ClaimJoined
import GoSem.ClaimMapViews
import Derived.JoinedTies
import Derived.KernelRfl
namespace Go.Proofs.YtlpodkpnoopnnaaDoor
/- THE CELL 'sum', in the pinned program and in every row, IS THE sha256 OF THE DUMP (.gsa) THAT YtlpodkpnoopnnaaDoorProg.lean LOADS. Nothing in Lean hashes anything: it is a label: what it is worth is what the hold of that sum in a sandbox is worth. -/
noncomputable def Tryd.pinned : Pinned := { name := "ytlpodkpnoopnnaadoor", sum := "bf841af7a3226798418f4172511bc5fe4296521d2ea845e54e8359556871ec12", checked := Tryd.checked }
namespace Rows
def none {H : Type} : Left H := { results := [], args := [] }

/- WHAT THE LISTED PACKAGE-LEVEL VARIABLES READ AS WHEN THE CALL BEGINS. Each datum BY PROGRAM (the guide's laid-datum.mjs) off the statement by which the dump's own 'gosem.cut.vars' lays the variable. In a bare row this is a premise. The card (YtlpodkpnoopnnaaDoorCards.lean) ties it to the program's text. -/
def laid_math_bits_deBruijn64tab {H : Type} : DataW H := .agg [.lit (.int .u8 0), .lit (.int .u8 1), .lit (.int .u8 56), .lit (.int .u8 2), .lit (.int .u8 57), .lit (.int .u8 49), .lit (.int .u8 28), .lit (.int .u8 3), .lit (.int .u8 61), .lit (.int .u8 58), .lit (.int .u8 42), .lit (.int .u8 50), .lit (.int .u8 38), .lit (.int .u8 29), .lit (.int .u8 17), .lit (.int .u8 4), .lit (.int .u8 62), .lit (.int .u8 47), .lit (.int .u8 59), .lit (.int .u8 36), .lit (.int .u8 45), .lit (.int .u8 43), .lit (.int .u8 51), .lit (.int .u8 22), .lit (.int .u8 53), .lit (.int .u8 39), .lit (.int .u8 33), .lit (.int .u8 30), .lit (.int .u8 24), .lit (.int .u8 18), .lit (.int .u8 12), .lit (.int .u8 5), .lit (.int .u8 63), .lit (.int .u8 55), .lit (.int .u8 48), .lit (.int .u8 27), .lit (.int .u8 60), .lit (.int .u8 41), .lit (.int .u8 37), .lit (.int .u8 16), .lit (.int .u8 46), .lit (.int .u8 35), .lit (.int .u8 44), .lit (.int .u8 21), .lit (.int .u8 52), .lit (.int .u8 32), .lit (.int .u8 23), .lit (.int .u8 11), .lit (.int .u8 54), .lit (.int .u8 26), .lit (.int .u8 40), .lit (.int .u8 15), .lit (.int .u8 34), .lit (.int .u8 20), .lit (.int .u8 31), .lit (.int .u8 10), .lit (.int .u8 25), .lit (.int .u8 14), .lit (.int .u8 19), .lit (.int .u8 9), .lit (.int .u8 13), .lit (.int .u8 8), .lit (.int .u8 7), .lit (.int .u8 6)]

/-- 'laws.FnExactFirstLetters': WHATEVER THE INPUT: true; the input reads as it did. -/
def fnExactFirstLettersSpec : ChangeSpec := { name := "fnExactFirstLetters", fn := fun _ => fun
  | [d1, d2] => { results := [.lit (.bool true)], args := [d1, d2] }
  | _ => none }
def fnExactFirstLettersRow : OpenClaim := { program := "ytlpodkpnoopnnaadoor", sum := "bf841af7a3226798418f4172511bc5fe4296521d2ea845e54e8359556871ec12", func := "loop.example/g01094/laws.FnExactFirstLetters", spec := "fnExactFirstLetters", unfollowed := true, recurses := true, named := ["math/bits.deBruijn64tab"], apart := false, laid := [("math/bits.deBruijn64tab", laid_math_bits_deBruijn64tab)] }
def FnExactFirstLettersSaid : Prop := fnExactFirstLettersRow.holds Tryd.pinned (OpenSpec.ofChange fnExactFirstLettersSpec)

/-- ITS FALSE NEIGHBOUR: 'it returns false'. Refute it at one input. -/
def fnExactFirstLettersWrong : ChangeSpec := { name := "fnExactFirstLetters", fn := fun _ => fun
  | [d1, d2] => { results := [.lit (.bool false)], args := [d1, d2] }
  | _ => none }
def FnExactFirstLettersWrongFalsely : Prop := fnExactFirstLettersRow.holds Tryd.pinned (OpenSpec.ofChange fnExactFirstLettersWrong)

/-- 'laws.FnExactContentOf': WHATEVER THE INPUT: true; the input reads as it did. -/
def fnExactContentOfSpec : ChangeSpec := { name := "fnExactContentOf", fn := fun _ => fun
  | [d1, d2] => { results := [.lit (.bool true)], args := [d1, d2] }
  | _ => none }
def fnExactContentOfRow : OpenClaim := { program := "ytlpodkpnoopnnaadoor", sum := "bf841af7a3226798418f4172511bc5fe4296521d2ea845e54e8359556871ec12", func := "loop.example/g01094/laws.FnExactContentOf", spec := "fnExactContentOf", unfollowed := true, recurses := true, named := ["math/bits.deBruijn64tab"], apart := false, laid := [("math/bits.deBruijn64tab", laid_math_bits_deBruijn64tab)] }
def FnExactContentOfSaid : Prop := fnExactContentOfRow.holds Tryd.pinned (OpenSpec.ofChange fnExactContentOfSpec)

/-- ITS FALSE NEIGHBOUR: 'it returns false'. Refute it at one input. -/
def fnExactContentOfWrong : ChangeSpec := { name := "fnExactContentOf", fn := fun _ => fun
  | [d1, d2] => { results := [.lit (.bool false)], args := [d1, d2] }
  | _ => none }
def FnExactContentOfWrongFalsely : Prop := fnExactContentOfRow.holds Tryd.pinned (OpenSpec.ofChange fnExactContentOfWrong)

/-- 'laws.FnExactFoataForm': WHATEVER THE INPUT: true; the input reads as it did. -/
def fnExactFoataFormSpec : ChangeSpec := { name := "fnExactFoataForm", fn := fun _ => fun
  | [d1, d2] => { results := [.lit (.bool true)], args := [d1, d2] }
  | _ => none }
def fnExactFoataFormRow : OpenClaim := { program := "ytlpodkpnoopnnaadoor", sum := "bf841af7a3226798418f4172511bc5fe4296521d2ea845e54e8359556871ec12", func := "loop.example/g01094/laws.FnExactFoataForm", spec := "fnExactFoataForm", unfollowed := true, recurses := true, named := ["math/bits.deBruijn64tab"], apart := false, laid := [("math/bits.deBruijn64tab", laid_math_bits_deBruijn64tab)] }
def FnExactFoataFormSaid : Prop := fnExactFoataFormRow.holds Tryd.pinned (OpenSpec.ofChange fnExactFoataFormSpec)

/-- ITS FALSE NEIGHBOUR: 'it returns false'. Refute it at one input. -/
def fnExactFoataFormWrong : ChangeSpec := { name := "fnExactFoataForm", fn := fun _ => fun
  | [d1, d2] => { results := [.lit (.bool false)], args := [d1, d2] }
  | _ => none }
def FnExactFoataFormWrongFalsely : Prop := fnExactFoataFormRow.holds Tryd.pinned (OpenSpec.ofChange fnExactFoataFormWrong)

/-- 'laws.FnExactIsFoataForm': WHATEVER THE INPUT: true; the input reads as it did. -/
def fnExactIsFoataFormSpec : ChangeSpec := { name := "fnExactIsFoataForm", fn := fun _ => fun
  | [d1, d2] => { results := [.lit (.bool true)], args := [d1, d2] }
  | _ => none }
def fnExactIsFoataFormRow : OpenClaim := { program := "ytlpodkpnoopnnaadoor", sum := "bf841af7a3226798418f4172511bc5fe4296521d2ea845e54e8359556871ec12", func := "loop.example/g01094/laws.FnExactIsFoataForm", spec := "fnExactIsFoataForm", unfollowed := true, recurses := true, named := ["math/bits.deBruijn64tab"], apart := false, laid := [("math/bits.deBruijn64tab", laid_math_bits_deBruijn64tab)] }
def FnExactIsFoataFormSaid : Prop := fnExactIsFoataFormRow.holds Tryd.pinned (OpenSpec.ofChange fnExactIsFoataFormSpec)

/-- ITS FALSE NEIGHBOUR: 'it returns false'. Refute it at one input. -/
def fnExactIsFoataFormWrong : ChangeSpec := { name := "fnExactIsFoataForm", fn := fun _ => fun
  | [d1, d2] => { results := [.lit (.bool false)], args := [d1, d2] }
  | _ => none }
def FnExactIsFoataFormWrongFalsely : Prop := fnExactIsFoataFormRow.holds Tryd.pinned (OpenSpec.ofChange fnExactIsFoataFormWrong)

/-- 'laws.FnExactPairProjections': WHATEVER THE INPUT: true; the input reads as it did. -/
def fnExactPairProjectionsSpec : ChangeSpec := { name := "fnExactPairProjections", fn := fun _ => fun
  | [d1, d2] => { results := [.lit (.bool true)], args := [d1, d2] }
  | _ => none }
def fnExactPairProjectionsRow : OpenClaim := { program := "ytlpodkpnoopnnaadoor", sum := "bf841af7a3226798418f4172511bc5fe4296521d2ea845e54e8359556871ec12", func := "loop.example/g01094/laws.FnExactPairProjections", spec := "fnExactPairProjections", unfollowed := true, recurses := true, named := ["math/bits.deBruijn64tab"], apart := false, laid := [("math/bits.deBruijn64tab", laid_math_bits_deBruijn64tab)] }
def FnExactPairProjectionsSaid : Prop := fnExactPairProjectionsRow.holds Tryd.pinned (OpenSpec.ofChange fnExactPairProjectionsSpec)

/-- ITS FALSE NEIGHBOUR: 'it returns false'. Refute it at one input. -/
def fnExactPairProjectionsWrong : ChangeSpec := { name := "fnExactPairProjections", fn := fun _ => fun
  | [d1, d2] => { results := [.lit (.bool false)], args := [d1, d2] }
  | _ => none }
def FnExactPairProjectionsWrongFalsely : Prop := fnExactPairProjectionsRow.holds Tryd.pinned (OpenSpec.ofChange fnExactPairProjectionsWrong)

/-- 'laws.FnExactNormalForm': WHATEVER THE INPUT: true; the input reads as it did. -/
def fnExactNormalFormSpec : ChangeSpec := { name := "fnExactNormalForm", fn := fun _ => fun
  | [d1, d2] => { results := [.lit (.bool true)], args := [d1, d2] }
  | _ => none }
def fnExactNormalFormRow : OpenClaim := { program := "ytlpodkpnoopnnaadoor", sum := "bf841af7a3226798418f4172511bc5fe4296521d2ea845e54e8359556871ec12", func := "loop.example/g01094/laws.FnExactNormalForm", spec := "fnExactNormalForm", unfollowed := true, recurses := true, named := ["math/bits.deBruijn64tab"], apart := false, laid := [("math/bits.deBruijn64tab", laid_math_bits_deBruijn64tab)] }
def FnExactNormalFormSaid : Prop := fnExactNormalFormRow.holds Tryd.pinned (OpenSpec.ofChange fnExactNormalFormSpec)

/-- ITS FALSE NEIGHBOUR: 'it returns false'. Refute it at one input. -/
def fnExactNormalFormWrong : ChangeSpec := { name := "fnExactNormalForm", fn := fun _ => fun
  | [d1, d2] => { results := [.lit (.bool false)], args := [d1, d2] }
  | _ => none }
def FnExactNormalFormWrongFalsely : Prop := fnExactNormalFormRow.holds Tryd.pinned (OpenSpec.ofChange fnExactNormalFormWrong)

/-- 'laws.FnExactAreSameTrace': WHATEVER THE INPUT: true; the input reads as it did. -/
def fnExactAreSameTraceSpec : ChangeSpec := { name := "fnExactAreSameTrace", fn := fun _ => fun
  | [d1, d2, d3] => { results := [.lit (.bool true)], args := [d1, d2, d3] }
  | _ => none }
def fnExactAreSameTraceRow : OpenClaim := { program := "ytlpodkpnoopnnaadoor", sum := "bf841af7a3226798418f4172511bc5fe4296521d2ea845e54e8359556871ec12", func := "loop.example/g01094/laws.FnExactAreSameTrace", spec := "fnExactAreSameTrace", unfollowed := true, recurses := true, named := ["math/bits.deBruijn64tab"], apart := false, laid := [("math/bits.deBruijn64tab", laid_math_bits_deBruijn64tab)] }
def FnExactAreSameTraceSaid : Prop := fnExactAreSameTraceRow.holds Tryd.pinned (OpenSpec.ofChange fnExactAreSameTraceSpec)

/-- ITS FALSE NEIGHBOUR: 'it returns false'. Refute it at one input. -/
def fnExactAreSameTraceWrong : ChangeSpec := { name := "fnExactAreSameTrace", fn := fun _ => fun
  | [d1, d2, d3] => { results := [.lit (.bool false)], args := [d1, d2, d3] }
  | _ => none }
def FnExactAreSameTraceWrongFalsely : Prop := fnExactAreSameTraceRow.holds Tryd.pinned (OpenSpec.ofChange fnExactAreSameTraceWrong)

/-- 'laws.FnExactReverseOf': WHATEVER THE INPUT: true; the input reads as it did. -/
def fnExactReverseOfSpec : ChangeSpec := { name := "fnExactReverseOf", fn := fun _ => fun
  | [d1, d2] => { results := [.lit (.bool true)], args := [d1, d2] }
  | _ => none }
def fnExactReverseOfRow : OpenClaim := { program := "ytlpodkpnoopnnaadoor", sum := "bf841af7a3226798418f4172511bc5fe4296521d2ea845e54e8359556871ec12", func := "loop.example/g01094/laws.FnExactReverseOf", spec := "fnExactReverseOf", unfollowed := true, recurses := true, named := ["math/bits.deBruijn64tab"], apart := false, laid := [("math/bits.deBruijn64tab", laid_math_bits_deBruijn64tab)] }
def FnExactReverseOfSaid : Prop := fnExactReverseOfRow.holds Tryd.pinned (OpenSpec.ofChange fnExactReverseOfSpec)

/-- ITS FALSE NEIGHBOUR: 'it returns false'. Refute it at one input. -/
def fnExactReverseOfWrong : ChangeSpec := { name := "fnExactReverseOf", fn := fun _ => fun
  | [d1, d2] => { results := [.lit (.bool false)], args := [d1, d2] }
  | _ => none }
def FnExactReverseOfWrongFalsely : Prop := fnExactReverseOfRow.holds Tryd.pinned (OpenSpec.ofChange fnExactReverseOfWrong)

/-- 'laws.FnExactProjectionOf': WHATEVER THE INPUT: true; the input reads as it did. -/
def fnExactProjectionOfSpec : ChangeSpec := { name := "fnExactProjectionOf", fn := fun _ => fun
  | [d1, d2, d3] => { results := [.lit (.bool true)], args := [d1, d2, d3] }
  | _ => none }
def fnExactProjectionOfRow : OpenClaim := { program := "ytlpodkpnoopnnaadoor", sum := "bf841af7a3226798418f4172511bc5fe4296521d2ea845e54e8359556871ec12", func := "loop.example/g01094/laws.FnExactProjectionOf", spec := "fnExactProjectionOf", unfollowed := true, recurses := true, named := ["math/bits.deBruijn64tab"], apart := false, laid := [("math/bits.deBruijn64tab", laid_math_bits_deBruijn64tab)] }
def FnExactProjectionOfSaid : Prop := fnExactProjectionOfRow.holds Tryd.pinned (OpenSpec.ofChange fnExactProjectionOfSpec)

/-- ITS FALSE NEIGHBOUR: 'it returns false'. Refute it at one input. -/
def fnExactProjectionOfWrong : ChangeSpec := { name := "fnExactProjectionOf", fn := fun _ => fun
  | [d1, d2, d3] => { results := [.lit (.bool false)], args := [d1, d2, d3] }
  | _ => none }
def FnExactProjectionOfWrongFalsely : Prop := fnExactProjectionOfRow.holds Tryd.pinned (OpenSpec.ofChange fnExactProjectionOfWrong)

/-- 'laws.FnExactClassOf': WHATEVER THE INPUT: true; the input reads as it did. -/
def fnExactClassOfSpec : ChangeSpec := { name := "fnExactClassOf", fn := fun _ => fun
  | [d1, d2] => { results := [.lit (.bool true)], args := [d1, d2] }
  | _ => none }
def fnExactClassOfRow : OpenClaim := { program := "ytlpodkpnoopnnaadoor", sum := "bf841af7a3226798418f4172511bc5fe4296521d2ea845e54e8359556871ec12", func := "loop.example/g01094/laws.FnExactClassOf", spec := "fnExactClassOf", unfollowed := true, recurses := true, named := ["math/bits.deBruijn64tab"], apart := false, laid := [("math/bits.deBruijn64tab", laid_math_bits_deBruijn64tab)] }
def FnExactClassOfSaid : Prop := fnExactClassOfRow.holds Tryd.pinned (OpenSpec.ofChange fnExactClassOfSpec)

/-- ITS FALSE NEIGHBOUR: 'it returns false'. Refute it at one input. -/
def fnExactClassOfWrong : ChangeSpec := { name := "fnExactClassOf", fn := fun _ => fun
  | [d1, d2] => { results := [.lit (.bool false)], args := [d1, d2] }
  | _ => none }
def FnExactClassOfWrongFalsely : Prop := fnExactClassOfRow.holds Tryd.pinned (OpenSpec.ofChange fnExactClassOfWrong)

/-- 'laws.FnExactWordOfFoata': WHATEVER THE INPUT: true; the input reads as it did. -/
def fnExactWordOfFoataSpec : ChangeSpec := { name := "fnExactWordOfFoata", fn := fun _ => fun
  | [d1, d2] => { results := [.lit (.bool true)], args := [d1, d2] }
  | _ => none }
def fnExactWordOfFoataRow : OpenClaim := { program := "ytlpodkpnoopnnaadoor", sum := "bf841af7a3226798418f4172511bc5fe4296521d2ea845e54e8359556871ec12", func := "loop.example/g01094/laws.FnExactWordOfFoata", spec := "fnExactWordOfFoata", unfollowed := true, recurses := true, named := ["math/bits.deBruijn64tab"], apart := false, laid := [("math/bits.deBruijn64tab", laid_math_bits_deBruijn64tab)] }
def FnExactWordOfFoataSaid : Prop := fnExactWordOfFoataRow.holds Tryd.pinned (OpenSpec.ofChange fnExactWordOfFoataSpec)

/-- ITS FALSE NEIGHBOUR: 'it returns false'. Refute it at one input. -/
def fnExactWordOfFoataWrong : ChangeSpec := { name := "fnExactWordOfFoata", fn := fun _ => fun
  | [d1, d2] => { results := [.lit (.bool false)], args := [d1, d2] }
  | _ => none }
def FnExactWordOfFoataWrongFalsely : Prop := fnExactWordOfFoataRow.holds Tryd.pinned (OpenSpec.ofChange fnExactWordOfFoataWrong)

/-- 'laws.FnTraceForms': WHATEVER THE INPUT: true; the input reads as it did. -/
def fnTraceFormsSpec : ChangeSpec := { name := "fnTraceForms", fn := fun _ => fun
  | [d1, d2, d3] => { results := [.lit (.bool true)], args := [d1, d2, d3] }
  | _ => none }
def fnTraceFormsRow : OpenClaim := { program := "ytlpodkpnoopnnaadoor", sum := "bf841af7a3226798418f4172511bc5fe4296521d2ea845e54e8359556871ec12", func := "loop.example/g01094/laws.FnTraceForms", spec := "fnTraceForms", unfollowed := true, recurses := true, named := ["math/bits.deBruijn64tab"], apart := false, laid := [("math/bits.deBruijn64tab", laid_math_bits_deBruijn64tab)] }
def FnTraceFormsSaid : Prop := fnTraceFormsRow.holds Tryd.pinned (OpenSpec.ofChange fnTraceFormsSpec)

/-- ITS FALSE NEIGHBOUR: 'it returns false'. Refute it at one input. -/
def fnTraceFormsWrong : ChangeSpec := { name := "fnTraceForms", fn := fun _ => fun
  | [d1, d2, d3] => { results := [.lit (.bool false)], args := [d1, d2, d3] }
  | _ => none }
def FnTraceFormsWrongFalsely : Prop := fnTraceFormsRow.holds Tryd.pinned (OpenSpec.ofChange fnTraceFormsWrong)

/- THE SECOND FORM. 'bulk': how many values and letters a reading holds, each counted each time it is reached (what is shared counts as often as it is met; a slice's spare places count too). A statement '..UptoSaid' is the law's where the arguments, and the package variables that the reading takes, are together of bulk at most 1048576: NARROWER than '..Said'. Prove '..Said' where nothing that the law and all that it calls make is longer than what came in: it says more and counts as full. Else prove '..UptoSaid'. A law counts once. -/
mutual
def uptoBulk {H : Type} : DataW H → Nat
  | .lit (.string bytes) => bytes.length + 1
  | .lit _ => 1
  | .nil => 1
  | .ptr d => uptoBulk d + 1
  | .slice elems spare => uptoBulkAll elems + uptoBulkAll spare + 1
  | .agg parts => uptoBulkAll parts + 1
  | .iface _ d => uptoBulk d + 1
  | .map entries => uptoBulkEntries entries + 1
  | .held _ => 1
def uptoBulkAll {H : Type} : List (DataW H) → Nat
  | [] => 0
  | d :: r => uptoBulk d + uptoBulkAll r
def uptoBulkEntries {H : Type} : List (Lit × DataW H) → Nat
  | [] => 0
  | x :: r => uptoBulkEntry x + uptoBulkEntries r
def uptoBulkEntry {H : Type} : Lit × DataW H → Nat
  | (.string bytes, d) => bytes.length + uptoBulk d + 1
  | (_, d) => uptoBulk d + 1
 end
def uptoSmall : (H : Type) → List (DataW H) → Bool := fun _ ds => decide (uptoBulkAll ds ≤ 1048576)
def OpenSpec.upto (s : _root_.Go.ChangeSpec) : _root_.Go.OpenSpec := { _root_.Go.OpenSpec.ofChange s with cond := some uptoSmall }

/-- 'laws.FnExactFirstLetters', WHERE WHAT IT READS IS OF BULK AT MOST 1048576: true; the input reads as it did. -/
def fnExactFirstLettersUptoRow : OpenClaim := { program := "ytlpodkpnoopnnaadoor", sum := "bf841af7a3226798418f4172511bc5fe4296521d2ea845e54e8359556871ec12", func := "loop.example/g01094/laws.FnExactFirstLetters", spec := "fnExactFirstLetters", unfollowed := true, recurses := true, named := ["math/bits.deBruijn64tab"], apart := false, laid := [("math/bits.deBruijn64tab", laid_math_bits_deBruijn64tab)], narrowed := true }
def FnExactFirstLettersUptoSaid : Prop := fnExactFirstLettersUptoRow.holds Tryd.pinned (OpenSpec.upto fnExactFirstLettersSpec)

/-- 'laws.FnExactContentOf', WHERE WHAT IT READS IS OF BULK AT MOST 1048576: true; the input reads as it did. -/
def fnExactContentOfUptoRow : OpenClaim := { program := "ytlpodkpnoopnnaadoor", sum := "bf841af7a3226798418f4172511bc5fe4296521d2ea845e54e8359556871ec12", func := "loop.example/g01094/laws.FnExactContentOf", spec := "fnExactContentOf", unfollowed := true, recurses := true, named := ["math/bits.deBruijn64tab"], apart := false, laid := [("math/bits.deBruijn64tab", laid_math_bits_deBruijn64tab)], narrowed := true }
def FnExactContentOfUptoSaid : Prop := fnExactContentOfUptoRow.holds Tryd.pinned (OpenSpec.upto fnExactContentOfSpec)

/-- 'laws.FnExactFoataForm', WHERE WHAT IT READS IS OF BULK AT MOST 1048576: true; the input reads as it did. -/
def fnExactFoataFormUptoRow : OpenClaim := { program := "ytlpodkpnoopnnaadoor", sum := "bf841af7a3226798418f4172511bc5fe4296521d2ea845e54e8359556871ec12", func := "loop.example/g01094/laws.FnExactFoataForm", spec := "fnExactFoataForm", unfollowed := true, recurses := true, named := ["math/bits.deBruijn64tab"], apart := false, laid := [("math/bits.deBruijn64tab", laid_math_bits_deBruijn64tab)], narrowed := true }
def FnExactFoataFormUptoSaid : Prop := fnExactFoataFormUptoRow.holds Tryd.pinned (OpenSpec.upto fnExactFoataFormSpec)

/-- 'laws.FnExactIsFoataForm', WHERE WHAT IT READS IS OF BULK AT MOST 1048576: true; the input reads as it did. -/
def fnExactIsFoataFormUptoRow : OpenClaim := { program := "ytlpodkpnoopnnaadoor", sum := "bf841af7a3226798418f4172511bc5fe4296521d2ea845e54e8359556871ec12", func := "loop.example/g01094/laws.FnExactIsFoataForm", spec := "fnExactIsFoataForm", unfollowed := true, recurses := true, named := ["math/bits.deBruijn64tab"], apart := false, laid := [("math/bits.deBruijn64tab", laid_math_bits_deBruijn64tab)], narrowed := true }
def FnExactIsFoataFormUptoSaid : Prop := fnExactIsFoataFormUptoRow.holds Tryd.pinned (OpenSpec.upto fnExactIsFoataFormSpec)

/-- 'laws.FnExactPairProjections', WHERE WHAT IT READS IS OF BULK AT MOST 1048576: true; the input reads as it did. -/
def fnExactPairProjectionsUptoRow : OpenClaim := { program := "ytlpodkpnoopnnaadoor", sum := "bf841af7a3226798418f4172511bc5fe4296521d2ea845e54e8359556871ec12", func := "loop.example/g01094/laws.FnExactPairProjections", spec := "fnExactPairProjections", unfollowed := true, recurses := true, named := ["math/bits.deBruijn64tab"], apart := false, laid := [("math/bits.deBruijn64tab", laid_math_bits_deBruijn64tab)], narrowed := true }
def FnExactPairProjectionsUptoSaid : Prop := fnExactPairProjectionsUptoRow.holds Tryd.pinned (OpenSpec.upto fnExactPairProjectionsSpec)

/-- 'laws.FnExactNormalForm', WHERE WHAT IT READS IS OF BULK AT MOST 1048576: true; the input reads as it did. -/
def fnExactNormalFormUptoRow : OpenClaim := { program := "ytlpodkpnoopnnaadoor", sum := "bf841af7a3226798418f4172511bc5fe4296521d2ea845e54e8359556871ec12", func := "loop.example/g01094/laws.FnExactNormalForm", spec := "fnExactNormalForm", unfollowed := true, recurses := true, named := ["math/bits.deBruijn64tab"], apart := false, laid := [("math/bits.deBruijn64tab", laid_math_bits_deBruijn64tab)], narrowed := true }
def FnExactNormalFormUptoSaid : Prop := fnExactNormalFormUptoRow.holds Tryd.pinned (OpenSpec.upto fnExactNormalFormSpec)

/-- 'laws.FnExactAreSameTrace', WHERE WHAT IT READS IS OF BULK AT MOST 1048576: true; the input reads as it did. -/
def fnExactAreSameTraceUptoRow : OpenClaim := { program := "ytlpodkpnoopnnaadoor", sum := "bf841af7a3226798418f4172511bc5fe4296521d2ea845e54e8359556871ec12", func := "loop.example/g01094/laws.FnExactAreSameTrace", spec := "fnExactAreSameTrace", unfollowed := true, recurses := true, named := ["math/bits.deBruijn64tab"], apart := false, laid := [("math/bits.deBruijn64tab", laid_math_bits_deBruijn64tab)], narrowed := true }
def FnExactAreSameTraceUptoSaid : Prop := fnExactAreSameTraceUptoRow.holds Tryd.pinned (OpenSpec.upto fnExactAreSameTraceSpec)

/-- 'laws.FnExactReverseOf', WHERE WHAT IT READS IS OF BULK AT MOST 1048576: true; the input reads as it did. -/
def fnExactReverseOfUptoRow : OpenClaim := { program := "ytlpodkpnoopnnaadoor", sum := "bf841af7a3226798418f4172511bc5fe4296521d2ea845e54e8359556871ec12", func := "loop.example/g01094/laws.FnExactReverseOf", spec := "fnExactReverseOf", unfollowed := true, recurses := true, named := ["math/bits.deBruijn64tab"], apart := false, laid := [("math/bits.deBruijn64tab", laid_math_bits_deBruijn64tab)], narrowed := true }
def FnExactReverseOfUptoSaid : Prop := fnExactReverseOfUptoRow.holds Tryd.pinned (OpenSpec.upto fnExactReverseOfSpec)

/-- 'laws.FnExactProjectionOf', WHERE WHAT IT READS IS OF BULK AT MOST 1048576: true; the input reads as it did. -/
def fnExactProjectionOfUptoRow : OpenClaim := { program := "ytlpodkpnoopnnaadoor", sum := "bf841af7a3226798418f4172511bc5fe4296521d2ea845e54e8359556871ec12", func := "loop.example/g01094/laws.FnExactProjectionOf", spec := "fnExactProjectionOf", unfollowed := true, recurses := true, named := ["math/bits.deBruijn64tab"], apart := false, laid := [("math/bits.deBruijn64tab", laid_math_bits_deBruijn64tab)], narrowed := true }
def FnExactProjectionOfUptoSaid : Prop := fnExactProjectionOfUptoRow.holds Tryd.pinned (OpenSpec.upto fnExactProjectionOfSpec)

/-- 'laws.FnExactClassOf', WHERE WHAT IT READS IS OF BULK AT MOST 1048576: true; the input reads as it did. -/
def fnExactClassOfUptoRow : OpenClaim := { program := "ytlpodkpnoopnnaadoor", sum := "bf841af7a3226798418f4172511bc5fe4296521d2ea845e54e8359556871ec12", func := "loop.example/g01094/laws.FnExactClassOf", spec := "fnExactClassOf", unfollowed := true, recurses := true, named := ["math/bits.deBruijn64tab"], apart := false, laid := [("math/bits.deBruijn64tab", laid_math_bits_deBruijn64tab)], narrowed := true }
def FnExactClassOfUptoSaid : Prop := fnExactClassOfUptoRow.holds Tryd.pinned (OpenSpec.upto fnExactClassOfSpec)

/-- 'laws.FnExactWordOfFoata', WHERE WHAT IT READS IS OF BULK AT MOST 1048576: true; the input reads as it did. -/
def fnExactWordOfFoataUptoRow : OpenClaim := { program := "ytlpodkpnoopnnaadoor", sum := "bf841af7a3226798418f4172511bc5fe4296521d2ea845e54e8359556871ec12", func := "loop.example/g01094/laws.FnExactWordOfFoata", spec := "fnExactWordOfFoata", unfollowed := true, recurses := true, named := ["math/bits.deBruijn64tab"], apart := false, laid := [("math/bits.deBruijn64tab", laid_math_bits_deBruijn64tab)], narrowed := true }
def FnExactWordOfFoataUptoSaid : Prop := fnExactWordOfFoataUptoRow.holds Tryd.pinned (OpenSpec.upto fnExactWordOfFoataSpec)

/-- 'laws.FnTraceForms', WHERE WHAT IT READS IS OF BULK AT MOST 1048576: true; the input reads as it did. -/
def fnTraceFormsUptoRow : OpenClaim := { program := "ytlpodkpnoopnnaadoor", sum := "bf841af7a3226798418f4172511bc5fe4296521d2ea845e54e8359556871ec12", func := "loop.example/g01094/laws.FnTraceForms", spec := "fnTraceForms", unfollowed := true, recurses := true, named := ["math/bits.deBruijn64tab"], apart := false, laid := [("math/bits.deBruijn64tab", laid_math_bits_deBruijn64tab)], narrowed := true }
def FnTraceFormsUptoSaid : Prop := fnTraceFormsUptoRow.holds Tryd.pinned (OpenSpec.upto fnTraceFormsSpec)

end Rows
end Go.Proofs.YtlpodkpnoopnnaaDoor
