/-
  NARROWER THAN 'FOR EVERY INPUT', by the rows' own cells (each row's printed sentence says how): FnMasks: laid · FnExactIsOrder: laid · FnExactAlphabetOfProcesses: laid · FnExactComponentsOf: laid · FnExactCoversOf: laid · FnExactHasTransitiveExchange: laid · FnExactPartOfAlphabet: laid · FnExactPartsOfAlphabet: laid · FnExactDirectProduct: laid · FnExactFreeProduct: laid.
  DERIVED. THE GIVEN ROWS OF THIS SEAT. 10 by the template 'for every input the law returns true; each argument reads behind the call as it read before'; 0 by the template 'total and deterministic' (their statements: YtdbdlhjhacbjoaaDoorTotals.lean).
  GIVEN WITH THE SEED: the statements are not yours to turn. If you find one false, say at which input.
  Laid BY PROGRAM, IN A SANDBOX (cutbox-rows.mjs): the forced cells as the released guide's own fill.sh prints them over the translation 3c1ae3d2604f09da… (all of the seat's roots in one cut). By AI agents, Wed Nov 11 2026. No macro, syntax, notation, axiom, sorry.
-/
import Derived.Test.YtdbdlhjhacbjoaaDoorChecked
import GoSem.Claim
import GoSem.ClaimJoined
import GoSem.ClaimMapViews
import Derived.JoinedTies
import Derived.KernelRfl
namespace Go.Proofs.YtdbdlhjhacbjoaaDoor
/- THE CELL 'sum', in the pinned program and in every row, IS THE sha256 OF THE DUMP (.gsa) THAT YtdbdlhjhacbjoaaDoorProg.lean LOADS. Nothing in Lean hashes anything: it is a label: what it is worth is what the hold of that sum in a sandbox is worth. -/
noncomputable def Tryd.pinned : Pinned := { name := "ytdbdlhjhacbjoaadoor", sum := "3c1ae3d2604f09da715418f4fae3a6a9960dcf9a73ca7b7d82081e859f642c9d", checked := Tryd.checked }
namespace Rows
def none {H : Type} : Left H := { results := [], args := [] }

/- WHAT THE LISTED PACKAGE-LEVEL VARIABLES READ AS WHEN THE CALL BEGINS. Each datum BY PROGRAM (the guide's laid-datum.mjs) off the statement by which the dump's own 'gosem.cut.vars' lays the variable. In a bare row this is a premise. The card (YtdbdlhjhacbjoaaDoorCards.lean) ties it to the program's text. -/
def laid_math_bits_deBruijn64tab {H : Type} : DataW H := .agg [.lit (.int .u8 0), .lit (.int .u8 1), .lit (.int .u8 56), .lit (.int .u8 2), .lit (.int .u8 57), .lit (.int .u8 49), .lit (.int .u8 28), .lit (.int .u8 3), .lit (.int .u8 61), .lit (.int .u8 58), .lit (.int .u8 42), .lit (.int .u8 50), .lit (.int .u8 38), .lit (.int .u8 29), .lit (.int .u8 17), .lit (.int .u8 4), .lit (.int .u8 62), .lit (.int .u8 47), .lit (.int .u8 59), .lit (.int .u8 36), .lit (.int .u8 45), .lit (.int .u8 43), .lit (.int .u8 51), .lit (.int .u8 22), .lit (.int .u8 53), .lit (.int .u8 39), .lit (.int .u8 33), .lit (.int .u8 30), .lit (.int .u8 24), .lit (.int .u8 18), .lit (.int .u8 12), .lit (.int .u8 5), .lit (.int .u8 63), .lit (.int .u8 55), .lit (.int .u8 48), .lit (.int .u8 27), .lit (.int .u8 60), .lit (.int .u8 41), .lit (.int .u8 37), .lit (.int .u8 16), .lit (.int .u8 46), .lit (.int .u8 35), .lit (.int .u8 44), .lit (.int .u8 21), .lit (.int .u8 52), .lit (.int .u8 32), .lit (.int .u8 23), .lit (.int .u8 11), .lit (.int .u8 54), .lit (.int .u8 26), .lit (.int .u8 40), .lit (.int .u8 15), .lit (.int .u8 34), .lit (.int .u8 20), .lit (.int .u8 31), .lit (.int .u8 10), .lit (.int .u8 25), .lit (.int .u8 14), .lit (.int .u8 19), .lit (.int .u8 9), .lit (.int .u8 13), .lit (.int .u8 8), .lit (.int .u8 7), .lit (.int .u8 6)]

/-- 'laws.FnMasks': WHATEVER THE INPUT: true; the input reads as it did. -/
def fnMasksSpec : ChangeSpec := { name := "fnMasks", fn := fun _ => fun
  | [d] => { results := [.lit (.bool true)], args := [d] }
  | _ => none }
def fnMasksRow : OpenClaim := { program := "ytdbdlhjhacbjoaadoor", sum := "3c1ae3d2604f09da715418f4fae3a6a9960dcf9a73ca7b7d82081e859f642c9d", func := "loop.example/g01094/laws.FnMasks", spec := "fnMasks", unfollowed := true, recurses := true, named := ["math/bits.deBruijn64tab"], apart := false, laid := [("math/bits.deBruijn64tab", laid_math_bits_deBruijn64tab)] }
def FnMasksSaid : Prop := fnMasksRow.holds Tryd.pinned (OpenSpec.ofChange fnMasksSpec)

/-- ITS FALSE NEIGHBOUR: 'it returns false'. Refute it at one input. -/
def fnMasksWrong : ChangeSpec := { name := "fnMasks", fn := fun _ => fun
  | [d] => { results := [.lit (.bool false)], args := [d] }
  | _ => none }
def FnMasksWrongFalsely : Prop := fnMasksRow.holds Tryd.pinned (OpenSpec.ofChange fnMasksWrong)

/-- 'laws.FnExactIsOrder': WHATEVER THE INPUT: true; the input reads as it did. -/
def fnExactIsOrderSpec : ChangeSpec := { name := "fnExactIsOrder", fn := fun _ => fun
  | [d] => { results := [.lit (.bool true)], args := [d] }
  | _ => none }
def fnExactIsOrderRow : OpenClaim := { program := "ytdbdlhjhacbjoaadoor", sum := "3c1ae3d2604f09da715418f4fae3a6a9960dcf9a73ca7b7d82081e859f642c9d", func := "loop.example/g01094/laws.FnExactIsOrder", spec := "fnExactIsOrder", unfollowed := true, recurses := true, named := ["math/bits.deBruijn64tab"], apart := false, laid := [("math/bits.deBruijn64tab", laid_math_bits_deBruijn64tab)] }
def FnExactIsOrderSaid : Prop := fnExactIsOrderRow.holds Tryd.pinned (OpenSpec.ofChange fnExactIsOrderSpec)

/-- ITS FALSE NEIGHBOUR: 'it returns false'. Refute it at one input. -/
def fnExactIsOrderWrong : ChangeSpec := { name := "fnExactIsOrder", fn := fun _ => fun
  | [d] => { results := [.lit (.bool false)], args := [d] }
  | _ => none }
def FnExactIsOrderWrongFalsely : Prop := fnExactIsOrderRow.holds Tryd.pinned (OpenSpec.ofChange fnExactIsOrderWrong)

/-- 'laws.FnExactAlphabetOfProcesses': WHATEVER THE INPUT: true; the input reads as it did. -/
def fnExactAlphabetOfProcessesSpec : ChangeSpec := { name := "fnExactAlphabetOfProcesses", fn := fun _ => fun
  | [d1, d2] => { results := [.lit (.bool true)], args := [d1, d2] }
  | _ => none }
def fnExactAlphabetOfProcessesRow : OpenClaim := { program := "ytdbdlhjhacbjoaadoor", sum := "3c1ae3d2604f09da715418f4fae3a6a9960dcf9a73ca7b7d82081e859f642c9d", func := "loop.example/g01094/laws.FnExactAlphabetOfProcesses", spec := "fnExactAlphabetOfProcesses", unfollowed := true, recurses := true, named := ["math/bits.deBruijn64tab"], apart := false, laid := [("math/bits.deBruijn64tab", laid_math_bits_deBruijn64tab)] }
def FnExactAlphabetOfProcessesSaid : Prop := fnExactAlphabetOfProcessesRow.holds Tryd.pinned (OpenSpec.ofChange fnExactAlphabetOfProcessesSpec)

/-- ITS FALSE NEIGHBOUR: 'it returns false'. Refute it at one input. -/
def fnExactAlphabetOfProcessesWrong : ChangeSpec := { name := "fnExactAlphabetOfProcesses", fn := fun _ => fun
  | [d1, d2] => { results := [.lit (.bool false)], args := [d1, d2] }
  | _ => none }
def FnExactAlphabetOfProcessesWrongFalsely : Prop := fnExactAlphabetOfProcessesRow.holds Tryd.pinned (OpenSpec.ofChange fnExactAlphabetOfProcessesWrong)

/-- 'laws.FnExactComponentsOf': WHATEVER THE INPUT: true; the input reads as it did. -/
def fnExactComponentsOfSpec : ChangeSpec := { name := "fnExactComponentsOf", fn := fun _ => fun
  | [d] => { results := [.lit (.bool true)], args := [d] }
  | _ => none }
def fnExactComponentsOfRow : OpenClaim := { program := "ytdbdlhjhacbjoaadoor", sum := "3c1ae3d2604f09da715418f4fae3a6a9960dcf9a73ca7b7d82081e859f642c9d", func := "loop.example/g01094/laws.FnExactComponentsOf", spec := "fnExactComponentsOf", unfollowed := true, recurses := true, named := ["math/bits.deBruijn64tab"], apart := false, laid := [("math/bits.deBruijn64tab", laid_math_bits_deBruijn64tab)] }
def FnExactComponentsOfSaid : Prop := fnExactComponentsOfRow.holds Tryd.pinned (OpenSpec.ofChange fnExactComponentsOfSpec)

/-- ITS FALSE NEIGHBOUR: 'it returns false'. Refute it at one input. -/
def fnExactComponentsOfWrong : ChangeSpec := { name := "fnExactComponentsOf", fn := fun _ => fun
  | [d] => { results := [.lit (.bool false)], args := [d] }
  | _ => none }
def FnExactComponentsOfWrongFalsely : Prop := fnExactComponentsOfRow.holds Tryd.pinned (OpenSpec.ofChange fnExactComponentsOfWrong)

/-- 'laws.FnExactCoversOf': WHATEVER THE INPUT: true; the input reads as it did. -/
def fnExactCoversOfSpec : ChangeSpec := { name := "fnExactCoversOf", fn := fun _ => fun
  | [d] => { results := [.lit (.bool true)], args := [d] }
  | _ => none }
def fnExactCoversOfRow : OpenClaim := { program := "ytdbdlhjhacbjoaadoor", sum := "3c1ae3d2604f09da715418f4fae3a6a9960dcf9a73ca7b7d82081e859f642c9d", func := "loop.example/g01094/laws.FnExactCoversOf", spec := "fnExactCoversOf", unfollowed := true, recurses := true, named := ["math/bits.deBruijn64tab"], apart := false, laid := [("math/bits.deBruijn64tab", laid_math_bits_deBruijn64tab)] }
def FnExactCoversOfSaid : Prop := fnExactCoversOfRow.holds Tryd.pinned (OpenSpec.ofChange fnExactCoversOfSpec)

/-- ITS FALSE NEIGHBOUR: 'it returns false'. Refute it at one input. -/
def fnExactCoversOfWrong : ChangeSpec := { name := "fnExactCoversOf", fn := fun _ => fun
  | [d] => { results := [.lit (.bool false)], args := [d] }
  | _ => none }
def FnExactCoversOfWrongFalsely : Prop := fnExactCoversOfRow.holds Tryd.pinned (OpenSpec.ofChange fnExactCoversOfWrong)

/-- 'laws.FnExactHasTransitiveExchange': WHATEVER THE INPUT: true; the input reads as it did. -/
def fnExactHasTransitiveExchangeSpec : ChangeSpec := { name := "fnExactHasTransitiveExchange", fn := fun _ => fun
  | [d] => { results := [.lit (.bool true)], args := [d] }
  | _ => none }
def fnExactHasTransitiveExchangeRow : OpenClaim := { program := "ytdbdlhjhacbjoaadoor", sum := "3c1ae3d2604f09da715418f4fae3a6a9960dcf9a73ca7b7d82081e859f642c9d", func := "loop.example/g01094/laws.FnExactHasTransitiveExchange", spec := "fnExactHasTransitiveExchange", unfollowed := true, recurses := true, named := ["math/bits.deBruijn64tab"], apart := false, laid := [("math/bits.deBruijn64tab", laid_math_bits_deBruijn64tab)] }
def FnExactHasTransitiveExchangeSaid : Prop := fnExactHasTransitiveExchangeRow.holds Tryd.pinned (OpenSpec.ofChange fnExactHasTransitiveExchangeSpec)

/-- ITS FALSE NEIGHBOUR: 'it returns false'. Refute it at one input. -/
def fnExactHasTransitiveExchangeWrong : ChangeSpec := { name := "fnExactHasTransitiveExchange", fn := fun _ => fun
  | [d] => { results := [.lit (.bool false)], args := [d] }
  | _ => none }
def FnExactHasTransitiveExchangeWrongFalsely : Prop := fnExactHasTransitiveExchangeRow.holds Tryd.pinned (OpenSpec.ofChange fnExactHasTransitiveExchangeWrong)

/-- 'laws.FnExactPartOfAlphabet': WHATEVER THE INPUT: true; the input reads as it did. -/
def fnExactPartOfAlphabetSpec : ChangeSpec := { name := "fnExactPartOfAlphabet", fn := fun _ => fun
  | [d1, d2] => { results := [.lit (.bool true)], args := [d1, d2] }
  | _ => none }
def fnExactPartOfAlphabetRow : OpenClaim := { program := "ytdbdlhjhacbjoaadoor", sum := "3c1ae3d2604f09da715418f4fae3a6a9960dcf9a73ca7b7d82081e859f642c9d", func := "loop.example/g01094/laws.FnExactPartOfAlphabet", spec := "fnExactPartOfAlphabet", unfollowed := true, recurses := true, named := ["math/bits.deBruijn64tab"], apart := false, laid := [("math/bits.deBruijn64tab", laid_math_bits_deBruijn64tab)] }
def FnExactPartOfAlphabetSaid : Prop := fnExactPartOfAlphabetRow.holds Tryd.pinned (OpenSpec.ofChange fnExactPartOfAlphabetSpec)

/-- ITS FALSE NEIGHBOUR: 'it returns false'. Refute it at one input. -/
def fnExactPartOfAlphabetWrong : ChangeSpec := { name := "fnExactPartOfAlphabet", fn := fun _ => fun
  | [d1, d2] => { results := [.lit (.bool false)], args := [d1, d2] }
  | _ => none }
def FnExactPartOfAlphabetWrongFalsely : Prop := fnExactPartOfAlphabetRow.holds Tryd.pinned (OpenSpec.ofChange fnExactPartOfAlphabetWrong)

/-- 'laws.FnExactPartsOfAlphabet': WHATEVER THE INPUT: true; the input reads as it did. -/
def fnExactPartsOfAlphabetSpec : ChangeSpec := { name := "fnExactPartsOfAlphabet", fn := fun _ => fun
  | [d] => { results := [.lit (.bool true)], args := [d] }
  | _ => none }
def fnExactPartsOfAlphabetRow : OpenClaim := { program := "ytdbdlhjhacbjoaadoor", sum := "3c1ae3d2604f09da715418f4fae3a6a9960dcf9a73ca7b7d82081e859f642c9d", func := "loop.example/g01094/laws.FnExactPartsOfAlphabet", spec := "fnExactPartsOfAlphabet", unfollowed := true, recurses := true, named := ["math/bits.deBruijn64tab"], apart := false, laid := [("math/bits.deBruijn64tab", laid_math_bits_deBruijn64tab)] }
def FnExactPartsOfAlphabetSaid : Prop := fnExactPartsOfAlphabetRow.holds Tryd.pinned (OpenSpec.ofChange fnExactPartsOfAlphabetSpec)

/-- ITS FALSE NEIGHBOUR: 'it returns false'. Refute it at one input. -/
def fnExactPartsOfAlphabetWrong : ChangeSpec := { name := "fnExactPartsOfAlphabet", fn := fun _ => fun
  | [d] => { results := [.lit (.bool false)], args := [d] }
  | _ => none }
def FnExactPartsOfAlphabetWrongFalsely : Prop := fnExactPartsOfAlphabetRow.holds Tryd.pinned (OpenSpec.ofChange fnExactPartsOfAlphabetWrong)

/-- 'laws.FnExactDirectProduct': WHATEVER THE INPUT: true; the input reads as it did. -/
def fnExactDirectProductSpec : ChangeSpec := { name := "fnExactDirectProduct", fn := fun _ => fun
  | [d1, d2] => { results := [.lit (.bool true)], args := [d1, d2] }
  | _ => none }
def fnExactDirectProductRow : OpenClaim := { program := "ytdbdlhjhacbjoaadoor", sum := "3c1ae3d2604f09da715418f4fae3a6a9960dcf9a73ca7b7d82081e859f642c9d", func := "loop.example/g01094/laws.FnExactDirectProduct", spec := "fnExactDirectProduct", unfollowed := true, recurses := true, named := ["math/bits.deBruijn64tab"], apart := false, laid := [("math/bits.deBruijn64tab", laid_math_bits_deBruijn64tab)] }
def FnExactDirectProductSaid : Prop := fnExactDirectProductRow.holds Tryd.pinned (OpenSpec.ofChange fnExactDirectProductSpec)

/-- ITS FALSE NEIGHBOUR: 'it returns false'. Refute it at one input. -/
def fnExactDirectProductWrong : ChangeSpec := { name := "fnExactDirectProduct", fn := fun _ => fun
  | [d1, d2] => { results := [.lit (.bool false)], args := [d1, d2] }
  | _ => none }
def FnExactDirectProductWrongFalsely : Prop := fnExactDirectProductRow.holds Tryd.pinned (OpenSpec.ofChange fnExactDirectProductWrong)

/-- 'laws.FnExactFreeProduct': WHATEVER THE INPUT: true; the input reads as it did. -/
def fnExactFreeProductSpec : ChangeSpec := { name := "fnExactFreeProduct", fn := fun _ => fun
  | [d1, d2] => { results := [.lit (.bool true)], args := [d1, d2] }
  | _ => none }
def fnExactFreeProductRow : OpenClaim := { program := "ytdbdlhjhacbjoaadoor", sum := "3c1ae3d2604f09da715418f4fae3a6a9960dcf9a73ca7b7d82081e859f642c9d", func := "loop.example/g01094/laws.FnExactFreeProduct", spec := "fnExactFreeProduct", unfollowed := true, recurses := true, named := ["math/bits.deBruijn64tab"], apart := false, laid := [("math/bits.deBruijn64tab", laid_math_bits_deBruijn64tab)] }
def FnExactFreeProductSaid : Prop := fnExactFreeProductRow.holds Tryd.pinned (OpenSpec.ofChange fnExactFreeProductSpec)

/-- ITS FALSE NEIGHBOUR: 'it returns false'. Refute it at one input. -/
def fnExactFreeProductWrong : ChangeSpec := { name := "fnExactFreeProduct", fn := fun _ => fun
  | [d1, d2] => { results := [.lit (.bool false)], args := [d1, d2] }
  | _ => none }
def FnExactFreeProductWrongFalsely : Prop := fnExactFreeProductRow.holds Tryd.pinned (OpenSpec.ofChange fnExactFreeProductWrong)

/- THE SECOND FORM. 'bulk': how many values and letters a reading holds, each counted each time it is reached (what is shared counts as often as it is met; a slice's spare places count too). A statement '..UptoSaid' is the law's where the arguments, and the package variables that the reading takes, are together of bulk at most 1048576: NARROWER than '..Said'. Prove '..Said' where nothing that the law and all that it calls make is longer than what came in: it says more and counts as full. Else prove '..UptoSaid'. A law counts once. -/
mutual
def uptoBulk {H : Type} : DataW H → Nat
  | .lit (.string bytes) => bytes.length + 1
  | .lit _ => 1
  | .nil => 1
  | .ptr d => uptoBulk d + 1
  | .slice elems spare => uptoBulkAll elems + uptoBulkAll spare + 1
  | .agg parts => uptoBulkAll parts + 1
  | .iface _ d => uptoBulk d + 1
  | .map entries => uptoBulkEntries entries + 1
  | .held _ => 1
def uptoBulkAll {H : Type} : List (DataW H) → Nat
  | [] => 0
  | d :: r => uptoBulk d + uptoBulkAll r
def uptoBulkEntries {H : Type} : List (Lit × DataW H) → Nat
  | [] => 0
  | x :: r => uptoBulkEntry x + uptoBulkEntries r
def uptoBulkEntry {H : Type} : Lit × DataW H → Nat
  | (.string bytes, d) => bytes.length + uptoBulk d + 1
  | (_, d) => uptoBulk d + 1
 end
def uptoSmall : (H : Type) → List (DataW H) → Bool := fun _ ds => decide (uptoBulkAll ds ≤ 1048576)
def OpenSpec.upto (s : _root_.Go.ChangeSpec) : _root_.Go.OpenSpec := { _root_.Go.OpenSpec.ofChange s with cond := some uptoSmall }

/-- 'laws.FnMasks', WHERE WHAT IT READS IS OF BULK AT MOST 1048576: true; the input reads as it did. -/
def fnMasksUptoRow : OpenClaim := { program := "ytdbdlhjhacbjoaadoor", sum := "3c1ae3d2604f09da715418f4fae3a6a9960dcf9a73ca7b7d82081e859f642c9d", func := "loop.example/g01094/laws.FnMasks", spec := "fnMasks", unfollowed := true, recurses := true, named := ["math/bits.deBruijn64tab"], apart := false, laid := [("math/bits.deBruijn64tab", laid_math_bits_deBruijn64tab)], narrowed := true }
def FnMasksUptoSaid : Prop := fnMasksUptoRow.holds Tryd.pinned (OpenSpec.upto fnMasksSpec)

/-- 'laws.FnExactIsOrder', WHERE WHAT IT READS IS OF BULK AT MOST 1048576: true; the input reads as it did. -/
def fnExactIsOrderUptoRow : OpenClaim := { program := "ytdbdlhjhacbjoaadoor", sum := "3c1ae3d2604f09da715418f4fae3a6a9960dcf9a73ca7b7d82081e859f642c9d", func := "loop.example/g01094/laws.FnExactIsOrder", spec := "fnExactIsOrder", unfollowed := true, recurses := true, named := ["math/bits.deBruijn64tab"], apart := false, laid := [("math/bits.deBruijn64tab", laid_math_bits_deBruijn64tab)], narrowed := true }
def FnExactIsOrderUptoSaid : Prop := fnExactIsOrderUptoRow.holds Tryd.pinned (OpenSpec.upto fnExactIsOrderSpec)

/-- 'laws.FnExactAlphabetOfProcesses', WHERE WHAT IT READS IS OF BULK AT MOST 1048576: true; the input reads as it did. -/
def fnExactAlphabetOfProcessesUptoRow : OpenClaim := { program := "ytdbdlhjhacbjoaadoor", sum := "3c1ae3d2604f09da715418f4fae3a6a9960dcf9a73ca7b7d82081e859f642c9d", func := "loop.example/g01094/laws.FnExactAlphabetOfProcesses", spec := "fnExactAlphabetOfProcesses", unfollowed := true, recurses := true, named := ["math/bits.deBruijn64tab"], apart := false, laid := [("math/bits.deBruijn64tab", laid_math_bits_deBruijn64tab)], narrowed := true }
def FnExactAlphabetOfProcessesUptoSaid : Prop := fnExactAlphabetOfProcessesUptoRow.holds Tryd.pinned (OpenSpec.upto fnExactAlphabetOfProcessesSpec)

/-- 'laws.FnExactComponentsOf', WHERE WHAT IT READS IS OF BULK AT MOST 1048576: true; the input reads as it did. -/
def fnExactComponentsOfUptoRow : OpenClaim := { program := "ytdbdlhjhacbjoaadoor", sum := "3c1ae3d2604f09da715418f4fae3a6a9960dcf9a73ca7b7d82081e859f642c9d", func := "loop.example/g01094/laws.FnExactComponentsOf", spec := "fnExactComponentsOf", unfollowed := true, recurses := true, named := ["math/bits.deBruijn64tab"], apart := false, laid := [("math/bits.deBruijn64tab", laid_math_bits_deBruijn64tab)], narrowed := true }
def FnExactComponentsOfUptoSaid : Prop := fnExactComponentsOfUptoRow.holds Tryd.pinned (OpenSpec.upto fnExactComponentsOfSpec)

/-- 'laws.FnExactCoversOf', WHERE WHAT IT READS IS OF BULK AT MOST 1048576: true; the input reads as it did. -/
def fnExactCoversOfUptoRow : OpenClaim := { program := "ytdbdlhjhacbjoaadoor", sum := "3c1ae3d2604f09da715418f4fae3a6a9960dcf9a73ca7b7d82081e859f642c9d", func := "loop.example/g01094/laws.FnExactCoversOf", spec := "fnExactCoversOf", unfollowed := true, recurses := true, named := ["math/bits.deBruijn64tab"], apart := false, laid := [("math/bits.deBruijn64tab", laid_math_bits_deBruijn64tab)], narrowed := true }
def FnExactCoversOfUptoSaid : Prop := fnExactCoversOfUptoRow.holds Tryd.pinned (OpenSpec.upto fnExactCoversOfSpec)

/-- 'laws.FnExactHasTransitiveExchange', WHERE WHAT IT READS IS OF BULK AT MOST 1048576: true; the input reads as it did. -/
def fnExactHasTransitiveExchangeUptoRow : OpenClaim := { program := "ytdbdlhjhacbjoaadoor", sum := "3c1ae3d2604f09da715418f4fae3a6a9960dcf9a73ca7b7d82081e859f642c9d", func := "loop.example/g01094/laws.FnExactHasTransitiveExchange", spec := "fnExactHasTransitiveExchange", unfollowed := true, recurses := true, named := ["math/bits.deBruijn64tab"], apart := false, laid := [("math/bits.deBruijn64tab", laid_math_bits_deBruijn64tab)], narrowed := true }
def FnExactHasTransitiveExchangeUptoSaid : Prop := fnExactHasTransitiveExchangeUptoRow.holds Tryd.pinned (OpenSpec.upto fnExactHasTransitiveExchangeSpec)

/-- 'laws.FnExactPartOfAlphabet', WHERE WHAT IT READS IS OF BULK AT MOST 1048576: true; the input reads as it did. -/
def fnExactPartOfAlphabetUptoRow : OpenClaim := { program := "ytdbdlhjhacbjoaadoor", sum := "3c1ae3d2604f09da715418f4fae3a6a9960dcf9a73ca7b7d82081e859f642c9d", func := "loop.example/g01094/laws.FnExactPartOfAlphabet", spec := "fnExactPartOfAlphabet", unfollowed := true, recurses := true, named := ["math/bits.deBruijn64tab"], apart := false, laid := [("math/bits.deBruijn64tab", laid_math_bits_deBruijn64tab)], narrowed := true }
def FnExactPartOfAlphabetUptoSaid : Prop := fnExactPartOfAlphabetUptoRow.holds Tryd.pinned (OpenSpec.upto fnExactPartOfAlphabetSpec)

/-- 'laws.FnExactPartsOfAlphabet', WHERE WHAT IT READS IS OF BULK AT MOST 1048576: true; the input reads as it did. -/
def fnExactPartsOfAlphabetUptoRow : OpenClaim := { program := "ytdbdlhjhacbjoaadoor", sum := "3c1ae3d2604f09da715418f4fae3a6a9960dcf9a73ca7b7d82081e859f642c9d", func := "loop.example/g01094/laws.FnExactPartsOfAlphabet", spec := "fnExactPartsOfAlphabet", unfollowed := true, recurses := true, named := ["math/bits.deBruijn64tab"], apart := false, laid := [("math/bits.deBruijn64tab", laid_math_bits_deBruijn64tab)], narrowed := true }
def FnExactPartsOfAlphabetUptoSaid : Prop := fnExactPartsOfAlphabetUptoRow.holds Tryd.pinned (OpenSpec.upto fnExactPartsOfAlphabetSpec)

/-- 'laws.FnExactDirectProduct', WHERE WHAT IT READS IS OF BULK AT MOST 1048576: true; the input reads as it did. -/
def fnExactDirectProductUptoRow : OpenClaim := { program := "ytdbdlhjhacbjoaadoor", sum := "3c1ae3d2604f09da715418f4fae3a6a9960dcf9a73ca7b7d82081e859f642c9d", func := "loop.example/g01094/laws.FnExactDirectProduct", spec := "fnExactDirectProduct", unfollowed := true, recurses := true, named := ["math/bits.deBruijn64tab"], apart := false, laid := [("math/bits.deBruijn64tab", laid_math_bits_deBruijn64tab)], narrowed := true }
def FnExactDirectProductUptoSaid : Prop := fnExactDirectProductUptoRow.holds Tryd.pinned (OpenSpec.upto fnExactDirectProductSpec)

/-- 'laws.FnExactFreeProduct', WHERE WHAT IT READS IS OF BULK AT MOST 1048576: true; the input reads as it did. -/
def fnExactFreeProductUptoRow : OpenClaim := { program := "ytdbdlhjhacbjoaadoor", sum := "3c1ae3d2604f09da715418f4fae3a6a9960dcf9a73ca7b7d82081e859f642c9d", func := "loop.example/g01094/laws.FnExactFreeProduct", spec := "fnExactFreeProduct", unfollowed := true, recurses := true, named := ["math/bits.deBruijn64tab"], apart := false, laid := [("math/bits.deBruijn64tab", laid_math_bits_deBruijn64tab)], narrowed := true }
def FnExactFreeProductUptoSaid : Prop := fnExactFreeProductUptoRow.holds Tryd.pinned (OpenSpec.upto fnExactFreeProductSpec)

end Rows
end Go.Proofs.YtdbdlhjhacbjoaaDoor
