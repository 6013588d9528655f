/- How the program's functions compute, function by function: each is told by a plain Lean function of the same answers, under the condition that this one answers. Written by a program of this project over the seat's translation; Lean checks it. -/
import Derived.Test.YtlkomakenfpapaaDoorProg
import Derived.Below
import Derived.Deep.Draws
import Derived.Deep.AppendLies
import Derived.Maps.AppendAt
import Derived.OwnWalk
import Derived.Laws.BytesArg
import Derived.Laws.MakeOwn
import Derived.Laws.OwnMore
import Derived.Deep.OwnRows
import Derived.Tactics
import Derived.Lib.ConvBytes
import Derived.Laws.Slices
import Derived.WalkKit
import Derived.KernelRfl
import Derived.RowKit3
import Derived.Deep.LoopGhost
import Derived.Deep.QuietTactic
import Derived.BigQuiet
import Derived.WideLaws
import Derived.Deep.DeepCutAuto
import Derived.Deep.CutBlock
import Derived.Deep.RegionHeld3
import Derived.Laws.Rows
import Derived.Lib.AppendStr
import Derived.ArgAppend
import Derived.Laws.IdiomCopy
import Derived.OrdersHeld
import Derived.Laws.BitsLemmas
import Derived.RowKit
import Derived.Shelf.Spec.TrailingZeros
import Derived.Test.YtlkomakenfpapaaDoorWWords
import Derived.Test.YtlkomakenfpapaaDoorWLast
import Derived.Test.YtlkomakenfpapaaDoorWTab
import Derived.Test.YtlkomakenfpapaaDoorWFour
import Derived.Test.YtlkomakenfpapaaDoorWQPut
import Derived.Test.YtlkomakenfpapaaDoorWApart
import Derived.Test.YtlkomakenfpapaaDoorWArr
import Derived.Test.YtlkomakenfpapaaDoorWZeros
import Derived.Test.YtlkomakenfpapaaDoorWFoot
import Derived.Test.YtlkomakenfpapaaDoorWKept
import Derived.Test.YtlkomakenfpapaaDoorWShare
import Derived.Test.YtlkomakenfpapaaDoorWN
import Derived.Test.YtlkomakenfpapaaDoorWFootNe
import Derived.Test.YtlkomakenfpapaaDoorWAt
import Derived.Test.YtlkomakenfpapaaDoorWEqStruct
import Derived.Test.YtlkomakenfpapaaDoorWRepsOne
import Derived.Test.YtlkomakenfpapaaDoorWInv
import Derived.Test.YtlkomakenfpapaaDoorWInvWords
import Derived.Test.YtlkomakenfpapaaDoorWGuard
import Derived.Test.YtlkomakenfpapaaDoorWNEv
import Derived.Test.YtlkomakenfpapaaDoorWMore
namespace Go.Proofs.YtlkomakenfpapaaDoor.G
open Go.RowKit Go.Proofs.YtlkomakenfpapaaDoorW.PrintWords Go.Proofs.YtlkomakenfpapaaDoorW.PrintLast Go.Proofs.YtlkomakenfpapaaDoorW.PrintMore
attribute [local go_sem] max2_int min2_int max_two min_two max_three min_three max_four min_four   -- for this text's walks alone
set_option linter.unusedVariables false
set_option linter.unusedSimpArgs false



def errW : Option Int → Value
  | none => .nilIface
  | some c => .iface 0 (.int .i64 c)
theorem errW_none : errW none = .nilIface := rfl
theorem errW_some (c : Int) : errW (some c) = .iface 0 (.int .i64 c) := rfl

/-- math/bits' table lies in the world. -/
def TabW (w : World) : Prop := ∀ j, j < Lib.deBruijn64tab.length → w.cell? ⟨0, j, none⟩ = some (.int .u8 (Lib.deBruijn64tab.getD j 0))
theorem TabW.below {w w1 : World} (h : TabW w) (hb : Below w.heap.size w w1) : TabW w1 := fun j hj => pw_cell_below hb (h j hj)
theorem TabW.drewN {w : World} (h : TabW w) (n : Nat) : TabW (w.drewN n) := h.below (Drawn0.mk ⟨n, rfl⟩).below
theorem TabW.drew {w : World} (h : TabW w) : TabW w.drew := h.below (Below.refl _ _).drew

theorem info2 : (Tryd.prog.info? 2).map (fun i => (i.zero, i.size, i.bytes)) = some (some (.int .i64 0), 1, 8) := by kernel_rfl
-- the values' own types

end Go.Proofs.YtlkomakenfpapaaDoor.G
