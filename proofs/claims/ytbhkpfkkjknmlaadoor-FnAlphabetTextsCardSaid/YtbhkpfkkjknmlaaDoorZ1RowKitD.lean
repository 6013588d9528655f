-- The law's statement proved
import Derived.Test.YtbhkpfkkjknmlaaDoorZ1RowKit
import Derived.Test.YtbhkpfkkjknmlaaDoorCards
import Derived.Test.YtbhkpfkkjknmlaaDoorZ1G0
import Derived.LaidMore
import Derived.Lay
import Derived.Lib.LaidTab
import Derived.Stop.Joined
namespace Go.Proofs.YtbhkpfkkjknmlaaDoor.RowKit
open Go.ChangeShapes Go.WideShapes Go.ChangeAt Go.RowKit Go.Proofs.YtbhkpfkkjknmlaaDoorW.PrintWords Go.Proofs.YtbhkpfkkjknmlaaDoor.G
set_option linter.unusedVariables false
abbrev tabList : List (String × DataW Unit) := Rows.fnAlphabetTextsRow.laid
abbrev tabName : String := match Rows.fnAlphabetTextsRow.laid with
  | _ :: (n, _) :: _ => n
  | _ => ""
theorem laid_tail {P : Program} {x : String × DataW Unit} {rest : List (String × DataW Unit)} {W : World} (h : laidMet P (x :: rest) W) : laidMet P rest W := by
  obtain ⟨nm, d⟩ := x
  obtain ⟨ps, ⟨g, t, cs, fuel, p, q, hg, ht, hv, hd, hq, rfl⟩, hn, ha⟩ := h
  exact ⟨q, hq, (List.nodup_append.1 hn).2.1, fun b off hm => ha b off (List.mem_append_right _ hm)⟩
theorem gTab : Tryd.prog.globalNamed tabName = some 2 := by kernel_rfl
theorem tTab : (Tryd.prog.globals[2]?).map (·.type) = some 96 := by kernel_rfl
theorem door_met (os : Os) (args : Array Value) : laidMetH Tryd.prog tabList ((World.laidAll Tryd.prog os tabList).forCall (fun _ _ => 0) ⟨#[], args, []⟩).memory := by
  rw [MakeChecks.laidMetH_plain _ _ _ (by kernel_rfl)]
  exact laidMet_laidAll _ (by kernel_rfl) (by kernel_rfl)
def tabInts : List Int := Lib.deBruijn64tab.map fun (n : Nat) => (n : Int)
theorem tab_of {W : World} (h : laidMetH Tryd.prog tabList W) : TabW W := by
  rw [MakeChecks.laidMetH_plain _ _ _ (by kernel_rfl)] at h
  replace h : laidMet Tryd.prog (Rows.fnAlphabetTextsRow.laid.drop 1) W := laid_tail h
  have h' : laidMet Tryd.prog ((tabName, Lib.tabData .u8 tabInts) :: Rows.fnAlphabetTextsRow.laid.drop 2) W := h
  have hT := Lib.tabIs_of_head gTab tTab Tryd.underlying96 Tryd.underlying5 (by kernel_rfl) (by kernel_rfl) h'
  intro j hj
  have hl : tabInts.length = Lib.deBruijn64tab.length := by unfold tabInts; rw [List.length_map]
  have hc := hT.cell gTab j (by rw [hl]; exact hj)
  rw [hc]
  congr 2
  unfold tabInts
  rw [List.getD_eq_getElem?_getD, List.getD_eq_getElem?_getD, List.getElem?_map, List.getElem?_eq_getElem hj]
  rfl
end Go.Proofs.YtbhkpfkkjknmlaaDoor.RowKit
