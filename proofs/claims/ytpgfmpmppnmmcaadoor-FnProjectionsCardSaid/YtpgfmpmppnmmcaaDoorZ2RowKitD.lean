-- The law's statement proved
import Derived.Test.YtpgfmpmppnmmcaaDoorZ2RowKit
import Derived.Test.YtpgfmpmppnmmcaaDoorCards
import Derived.Test.YtpgfmpmppnmmcaaDoorZ2G0
import Derived.LaidMore
import Derived.Lib.LaidTab
import Derived.Stop.Joined
namespace Go.Proofs.YtpgfmpmppnmmcaaDoor.RowKit
open Go.ChangeShapes Go.WideShapes Go.ChangeAt Go.RowKit Go.Proofs.YtpgfmpmppnmmcaaDoorW.PrintWords Go.Proofs.YtpgfmpmppnmmcaaDoor.G
set_option linter.unusedVariables false
abbrev tabList : List (String × DataW Unit) := Rows.fnProjectionsRow.laid
abbrev tabName : String := match Rows.fnProjectionsRow.laid with
  | (n, _) :: _ => n
  | _ => ""
theorem gTab : Tryd.prog.globalNamed tabName = some 0 := by kernel_rfl
theorem tTab : (Tryd.prog.globals[0]?).map (·.type) = some 96 := by kernel_rfl
theorem door_met (os : Os) (args : Array Value) : laidMetH Tryd.prog tabList ((World.doorLaid Tryd.prog 14 os).forCall (fun _ _ => 0) ⟨#[], args, []⟩).memory :=
  laidMetH_of_parts3 (fuel := 8) (laidMet_of_run' 8 (by kernel_rfl) (by kernel_rfl)) (by kernel_rfl) (by kernel_rfl)
def tabInts : List Int := Lib.deBruijn64tab.map fun (n : Nat) => (n : Int)
theorem tab_of {W : World} (h : laidMetH Tryd.prog tabList W) : TabW W := by
  rw [MakeChecks.laidMetH_plain _ _ _ (by kernel_rfl)] at h
  have h' : laidMet Tryd.prog ((tabName, Lib.tabData .u8 tabInts) :: Rows.fnProjectionsRow.laid.drop 1) W := h
  have hT := Lib.tabIs_of_head gTab tTab Tryd.underlying96 Tryd.underlying5 (by kernel_rfl) (by kernel_rfl) h'
  intro j hj
  have hl : tabInts.length = Lib.deBruijn64tab.length := by unfold tabInts; rw [List.length_map]
  have hc := hT.cell gTab j (by rw [hl]; exact hj)
  rw [hc]
  congr 2
  unfold tabInts
  rw [List.getD_eq_getElem?_getD, List.getD_eq_getElem?_getD, List.getElem?_map, List.getElem?_eq_getElem hj]
  rfl
end Go.Proofs.YtpgfmpmppnmmcaaDoor.RowKit
