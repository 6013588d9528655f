-- A copy, with what one law needs, of a text that print.sh or a program of ours wrote
import Derived.Test.YtjckfnaohikmbaaDoorProg
import Derived.Below
import Derived.Deep.Draws
import Derived.Deep.AppendLies
import Derived.Maps.AppendAt
import Derived.OwnWalk
import Derived.Laws.BytesArg
import Derived.Laws.MakeOwn
import Derived.Laws.OwnMore
import Derived.Deep.OwnRows
import Derived.Tactics
import Derived.Lib.ConvBytes
import Derived.Laws.Slices
import Derived.WalkKit
import Derived.KernelRfl
import Derived.RowKit3
import Derived.Deep.LoopGhost
import Derived.Deep.QuietTactic
import Derived.BigQuiet
import Derived.WideLaws
import Derived.Deep.DeepCutAuto
import Derived.Deep.CutBlock
import Derived.Deep.RegionHeld3
import Derived.Laws.Rows
import Derived.Lib.AppendStr
import Derived.ArgAppend
import Derived.Laws.IdiomCopy
import Derived.OrdersHeld
import Derived.Laws.BitsLemmas
import Derived.RowKit
import Derived.Shelf.Spec.TrailingZeros
import Derived.StillTailTactics
import Derived.Sort.OwnSortedInts
import Derived.Test.YtjckfnaohikmbaaDoorZ1TShelf
import Derived.Shelf.SlSortCmp.Insertion
import Derived.BigGuard
import Derived.Test.YtjckfnaohikmbaaDoorZ1WWords
import Derived.Test.YtjckfnaohikmbaaDoorZ1WLast
import Derived.Test.YtjckfnaohikmbaaDoorZ1WTab
import Derived.Test.YtjckfnaohikmbaaDoorZ1WApart
import Derived.Test.YtjckfnaohikmbaaDoorZ1WFoot
import Derived.Test.YtjckfnaohikmbaaDoorZ1WKept
import Derived.Test.YtjckfnaohikmbaaDoorZ1WShare
import Derived.Test.YtjckfnaohikmbaaDoorZ1WN
import Derived.Laws.StructEq
import Derived.Test.YtjckfnaohikmbaaDoorZ1WRepsOne
import Derived.Test.YtjckfnaohikmbaaDoorZ1WMore
namespace Go.Proofs.YtjckfnaohikmbaaDoor.G
open Go.RowKit Go.Proofs.YtjckfnaohikmbaaDoorW.PrintWords Go.Proofs.YtjckfnaohikmbaaDoorW.PrintLast Go.Proofs.YtjckfnaohikmbaaDoorW.PrintMore
attribute [local go_sem] max2_int min2_int max_two min_two max_three min_three max_four min_four   -- for this text's walks alone
set_option linter.unusedVariables false
set_option linter.unusedSimpArgs false
def errW : Option Int → Value
  | none => .nilIface
  | some c => .iface 0 (.int .i64 c)
theorem errW_none : errW none = .nilIface := rfl
theorem errW_some (c : Int) : errW (some c) = .iface 0 (.int .i64 c) := rfl
theorem blkQ {W0 W : World} {g : Nat} {o : Obj} (_ : Aside0 (W0.heap[g]? = some o)) (h : W.heap[g]? = some o := by (with_reducible repeat (first | refine blk_drewN ?_ _ | refine blk_drew ?_ | refine blk_alloc ?_ _)); exact Aside0.out (by assumption)) : W.heap[g]? = some o := h
theorem kdQ {α : Type} {d : Kd α} {e base : Nat} {ok : Nat → Prop} {v : Value} {xs : List α} {W0 W : World} (_ : Aside0 (d.R e W0 base ok v xs)) (h : d.R e W base ok v xs := by (with_reducible repeat (first | apply Kd.R_alloc | apply Kd.R_drewN | apply Kd.R_drew)); exact Aside0.out (by assumption)) : d.R e W base ok v xs := h
theorem beQ {b : Nat} {w W0 W : World} (_ : Aside0 (Below b w W0)) (h : Below b w W := by repeat (first | (with_reducible first | exact Aside0.out (by assumption) | apply below_alloc | apply pw_below_drewN | apply below_drew1 | refine below_set ?_ (Aside0.out (by assumption))) | exact Aside0.out (by assumption))) : Below b w W := h
theorem bb {W0 W W1 : World} {g : Nat} {o : Obj} (_ : Aside0 (W0.heap[g]? = some o)) (hb : Below W.heap.size W W1) (h : W.heap[g]? = some o := by (with_reducible repeat (first | refine blk_drewN ?_ _ | refine blk_drew ?_ | refine blk_alloc ?_ _)); exact Aside0.out (by assumption)) : Aside0 (W1.heap[g]? = some o) := ⟨blk_below h hb⟩
theorem kb {α : Type} {d : Kd α} {e base : Nat} {ok : Nat → Prop} {v : Value} {xs : List α} {W0 W W1 : World} (_ : Aside0 (d.R e W0 base ok v xs)) (hb : Below W.heap.size W W1) (h : d.R e W base ok v xs := by (with_reducible repeat (first | apply Kd.R_alloc | apply Kd.R_drewN | apply Kd.R_drew)); exact Aside0.out (by assumption)) : Aside0 (d.R e W1 base ok v xs) := ⟨Kd.R_below h hb⟩
theorem bc {w : World} {g : Nat} {cs : Array Value} {t : TypeId} {v : Value} (h : Aside0 (w.heap[g]? = some (.cells cs t (0, 0)))) (i : Nat) (e : cs[i]? = some v := by rfl) : w.cell? ⟨g, i, none⟩ = some v := (blk_cell h.out i).trans e
theorem cQ {α : Type} {d : Kd α} {A : Option Addr} {n : Nat} {xs : List α} {W0 W : World} (_ : Aside0 (d.C W0 A n xs)) (h : d.C W A n xs := by repeat (first | exact Aside0.out (by assumption) | (with_reducible refine Kd.C_alloc ?_ _) | (with_reducible refine Kd.C_drewN ?_ _) | (with_reducible refine Kd.C_drew ?_))) : d.C W A n xs := h
theorem s1 {α : Type} (l : List α) (i : Nat) (a : α) : l.toArray.setIfInBounds i a = (l.set i a).toArray := List.setIfInBounds_toArray l i a
theorem s2 {α : Type} (a b : α) (l : List α) : (a :: l).set 0 b = b :: l := rfl
theorem s3 {α : Type} (a b : α) (l : List α) (n : Nat) : (a :: l).set (n + 1) b = a :: l.set n b := rfl
theorem lz {P : Prop} (h : P := by (try simp only [List.map_toArray, List.map_cons, List.map_nil]); first | done | rfl | (simp only [List.length_drop, List.length_take]; rfl)) : P := h
theorem rz {P : Prop} (h : P := by first | rfl | (simp [errW_none, errW_some] <;> rfl) | (simp [*, errW_none, errW_some] <;> rfl)) : P := h
theorem sz {P : Prop} (h : P := by first | rfl | (simp; done) | (simp [*]; done)) : P := h
def TabW (w : World) : Prop := ∀ j, j < Lib.deBruijn64tab.length → w.cell? ⟨0, j, none⟩ = some (.int .u8 (Lib.deBruijn64tab.getD j 0))
theorem TabW.below {w w1 : World} (h : TabW w) (hb : Below w.heap.size w w1) : TabW w1 := fun j hj => pw_cell_below hb (h j hj)
theorem TabW.drewN {w : World} (h : TabW w) (n : Nat) : TabW (w.drewN n) := h.below (Drawn0.mk ⟨n, rfl⟩).below
theorem TabW.drew {w : World} (h : TabW w) : TabW w.drew := h.below (Below.refl _ _).drew
theorem info2 : (Tryd.prog.info? 2).map (fun i => (i.zero, i.size, i.bytes)) = some (some (.int .i64 0), 1, 8) := by kernel_rfl
end Go.Proofs.YtjckfnaohikmbaaDoor.G
