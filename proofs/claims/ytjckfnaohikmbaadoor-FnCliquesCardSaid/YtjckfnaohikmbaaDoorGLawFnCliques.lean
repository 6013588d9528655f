/- How the program's functions compute, function by function: each is told by a plain Lean function of the same answers, under the condition that this one answers. Written by a program of this project over the seat's translation; Lean checks it. -/
import Derived.Test.YtjckfnaohikmbaaDoorG0
import Derived.Test.YtjckfnaohikmbaaDoorGQ01a
import Derived.Test.YtjckfnaohikmbaaDoorGQ01b
import Derived.Test.YtjckfnaohikmbaaDoorGQ04
import Derived.Test.YtjckfnaohikmbaaDoorGQ05
import Derived.Test.YtjckfnaohikmbaaDoorGQ06b
namespace Go.Proofs.YtjckfnaohikmbaaDoor.G
open Go.RowKit Go.Proofs.YtjckfnaohikmbaaDoorW.PrintWords Go.Proofs.YtjckfnaohikmbaaDoorW.PrintLast Go.Proofs.YtjckfnaohikmbaaDoorW.PrintMore
attribute [local go_sem] max2_int min2_int max_two min_two max_three min_three max_four min_four   -- for this text's walks alone
set_option linter.unusedVariables false
set_option linter.unusedSimpArgs false

/-! ### laws_FnCliques: function 5 -/
mutual
def laws_FnCliques.j0 : Nat → List Int → List Int → Int → Bool → Option (Bool)
 | 0, _, _, _, _ => none
 | k + 1, x3, x4, x5, x42 => if x42 = true then (some false) else (if x5 = 0 then ((impl_MaximalCliques.f k x3).bind fun bt530 => ((impl_ComponentsOf.f k x3).bind fun bt534 => (if bt530.2 = 0 then (if bt534.2 = 0 then (laws_FnCliques.j1 k x3 x4 bt530.1 bt534.1 ((bt530.1.length : Int) == 0)) else (laws_FnCliques.j1 k x3 x4 bt530.1 bt534.1 true)) else (laws_FnCliques.j1 k x3 x4 bt530.1 bt534.1 true)))) else (some true))
def laws_FnCliques.j1 : Nat → List Int → List Int → List Int → List Int → Bool → Option (Bool)
 | 0, _, _, _, _, _ => none
 | k + 1, x3, x4, x8, x10, x65 => if x65 = true then (some false) else (laws_FnCliques.l0 k x3 x4 x8 x10 0)
def laws_FnCliques.l0 : Nat → List Int → List Int → List Int → List Int → Int → Option (Bool)
 | 0, _, _, _, _, _ => none
 | k + 1, x3, x4, x8, x10, x12 => if x12 < (x8.length : Int) then (if 0 ≤ x12 then ((laws_hasInt.f k x4 (rd x8 x12)).bind fun t539 => (if t539 = true then (laws_FnCliques.l0 k x3 x4 x8 x10 (wrap64 (x12 + 1))) else (some false))) else (none)) else (laws_FnCliques.l1 k x3 x4 x8 x10 0)
def laws_FnCliques.l1 : Nat → List Int → List Int → List Int → List Int → Int → Option (Bool)
 | 0, _, _, _, _, _ => none
 | k + 1, x3, x4, x8, x10, x13 => if x13 < (x4.length : Int) then (if 0 ≤ x13 then (laws_FnCliques.l2 k x3 x4 x8 x10 x13 false ((rd x4 x13) == 0) 0) else (none)) else (laws_FnCliques.l4 k x3 x10 0 0)
def laws_FnCliques.l2 : Nat → List Int → List Int → List Int → List Int → Int → Bool → Bool → Int → Option (Bool)
 | 0, _, _, _, _, _, _, _, _ => none
 | k + 1, x3, x4, x8, x10, x13, x14, x15, x16 => if x16 < (x8.length : Int) then (if x14 = true then (laws_FnCliques.l2 k x3 x4 x8 x10 x13 true x15 (wrap64 (x16 + 1))) else (if 0 ≤ x13 then (if x13 < (x4.length : Int) then (if 0 ≤ x16 then (laws_FnCliques.l2 k x3 x4 x8 x10 x13 ((Go.bits .or .i64 (rd x4 x13) (rd x8 x16)) == (rd x8 x16)) x15 (wrap64 (x16 + 1))) else (none)) else (none)) else (none))) else (laws_FnCliques.l3 k x3 x4 x8 x10 x13 x14 x15 0)
def laws_FnCliques.l3 : Nat → List Int → List Int → List Int → List Int → Int → Bool → Bool → Int → Option (Bool)
 | 0, _, _, _, _, _, _, _, _ => none
 | k + 1, x3, x4, x8, x10, x13, x14, x15, x17 => if x17 < (x10.length : Int) then (if x15 = true then (laws_FnCliques.l3 k x3 x4 x8 x10 x13 x14 true (wrap64 (x17 + 1))) else (if 0 ≤ x13 then (if x13 < (x4.length : Int) then (if 0 ≤ x17 then (laws_FnCliques.l3 k x3 x4 x8 x10 x13 x14 ((Go.bits .or .i64 (rd x4 x13) (rd x10 x17)) == (rd x10 x17)) (wrap64 (x17 + 1))) else (none)) else (none)) else (none))) else (if x14 = true then (if x15 = true then (laws_FnCliques.l1 k x3 x4 x8 x10 (wrap64 (x13 + 1))) else (some false)) else (some false))
def laws_FnCliques.l4 : Nat → List Int → List Int → Int → Int → Option (Bool)
 | 0, _, _, _, _ => none
 | k + 1, x3, x10, x18, x19 => if x19 < (x10.length : Int) then (if 0 ≤ x19 then (if (Go.bits .and .i64 x18 (rd x10 x19)) = 0 then (laws_FnCliques.l4 k x3 x10 (Go.bits .or .i64 x18 (rd x10 x19)) (wrap64 (x19 + 1))) else (some false)) else (none)) else (if 0 ≤ (IntKind.u64.wrap ((x3.length : Int))) then (some (x18 == (wrap64 ((shl .i64 1 (IntKind.u64.wrap ((x3.length : Int)))) - 1)))) else (none))
end
def laws_FnCliques.f (k : Nat) (l0 : List Int) : Option (Bool) := (laws_big.f l0).bind fun t517 => (if t517 = true then (some true) else ((spec_DrawCliquesOf.f k l0).bind fun t518 => ((impl_CliquesOf.f k t518).bind fun bt521 => ((spec_CliquesOf.f k t518).bind fun bt525 => (if bt521.2 = bt525.2 then ((laws_likeInts.f k bt521.1 bt525.1).bind fun t529 => (laws_FnCliques.j0 k t518 bt521.1 bt521.2 (!t529))) else (laws_FnCliques.j0 k t518 bt521.1 bt521.2 true))))))
theorem laws_FnCliques.mono_l : ∀ k, (∀ y0 y1 y2 y3, LeO (laws_FnCliques.j0 k y0 y1 y2 y3) (laws_FnCliques.j0 (k + 1) y0 y1 y2 y3)) ∧ (∀ y0 y1 y2 y3 y4, LeO (laws_FnCliques.j1 k y0 y1 y2 y3 y4) (laws_FnCliques.j1 (k + 1) y0 y1 y2 y3 y4)) ∧ (∀ y0 y1 y2 y3 y4, LeO (laws_FnCliques.l0 k y0 y1 y2 y3 y4) (laws_FnCliques.l0 (k + 1) y0 y1 y2 y3 y4)) ∧ (∀ y0 y1 y2 y3 y4, LeO (laws_FnCliques.l1 k y0 y1 y2 y3 y4) (laws_FnCliques.l1 (k + 1) y0 y1 y2 y3 y4)) ∧ (∀ y0 y1 y2 y3 y4 y5 y6 y7, LeO (laws_FnCliques.l2 k y0 y1 y2 y3 y4 y5 y6 y7) (laws_FnCliques.l2 (k + 1) y0 y1 y2 y3 y4 y5 y6 y7)) ∧ (∀ y0 y1 y2 y3 y4 y5 y6 y7, LeO (laws_FnCliques.l3 k y0 y1 y2 y3 y4 y5 y6 y7) (laws_FnCliques.l3 (k + 1) y0 y1 y2 y3 y4 y5 y6 y7)) ∧ (∀ y0 y1 y2 y3, LeO (laws_FnCliques.l4 k y0 y1 y2 y3) (laws_FnCliques.l4 (k + 1) y0 y1 y2 y3))
 | 0 => ⟨fun _ _ _ _ r h => by simp [laws_FnCliques.j0] at h, fun _ _ _ _ _ r h => by simp [laws_FnCliques.j1] at h, fun _ _ _ _ _ r h => by simp [laws_FnCliques.l0] at h, fun _ _ _ _ _ r h => by simp [laws_FnCliques.l1] at h, fun _ _ _ _ _ _ _ _ r h => by simp [laws_FnCliques.l2] at h, fun _ _ _ _ _ _ _ _ r h => by simp [laws_FnCliques.l3] at h, fun _ _ _ _ r h => by simp [laws_FnCliques.l4] at h⟩
 | k + 1 => by
  obtain ⟨ih0, ih1, ih2, ih3, ih4, ih5, ih6⟩ := laws_FnCliques.mono_l k
  refine ⟨?_, ?_, ?_, ?_, ?_, ?_, ?_⟩
  ·intro y0 y1 y2 y3
   unfold laws_FnCliques.j0
   repeat' first
   | (with_reducible exact ih0 _ _ _ _)
   | (with_reducible exact ih1 _ _ _ _ _)
   | (with_reducible exact ih2 _ _ _ _ _)
   | (with_reducible exact ih3 _ _ _ _ _)
   | (with_reducible exact ih4 _ _ _ _ _ _ _ _)
   | (with_reducible exact ih5 _ _ _ _ _ _ _ _)
   | (with_reducible exact ih6 _ _ _ _)
   | (with_reducible exact impl_CliquesOf.mono _ _)
   | (with_reducible exact impl_ComponentsOf.mono _ _)
   | (with_reducible exact impl_MaximalCliques.mono _ _)
   | (with_reducible exact laws_hasInt.mono _ _ _)
   | (with_reducible exact laws_likeInts.mono _ _ _)
   | (with_reducible exact spec_CliquesOf.mono _ _)
   | (with_reducible exact spec_DrawCliquesOf.mono _ _)
   | (with_reducible exact LeO.refl _)
   | (with_reducible exact LeO.none _)
   | (with_reducible refine LeO.ite ?_ ?_)
   | (with_reducible refine LeO.bind ?_ (fun _ => ?_))
   | exact ih0 _ _ _ _
   | exact ih1 _ _ _ _ _
   | exact ih2 _ _ _ _ _
   | exact ih3 _ _ _ _ _
   | exact ih4 _ _ _ _ _ _ _ _
   | exact ih5 _ _ _ _ _ _ _ _
   | exact ih6 _ _ _ _
   | exact impl_CliquesOf.mono _ _
   | exact impl_ComponentsOf.mono _ _
   | exact impl_MaximalCliques.mono _ _
   | exact laws_hasInt.mono _ _ _
   | exact laws_likeInts.mono _ _ _
   | exact spec_CliquesOf.mono _ _
   | exact spec_DrawCliquesOf.mono _ _
   | exact LeO.none _
   | refine LeO.ite ?_ ?_
   | refine LeO.bind ?_ (fun _ => ?_)
  ·intro y0 y1 y2 y3 y4
   unfold laws_FnCliques.j1
   repeat' first
   | (with_reducible exact ih0 _ _ _ _)
   | (with_reducible exact ih1 _ _ _ _ _)
   | (with_reducible exact ih2 _ _ _ _ _)
   | (with_reducible exact ih3 _ _ _ _ _)
   | (with_reducible exact ih4 _ _ _ _ _ _ _ _)
   | (with_reducible exact ih5 _ _ _ _ _ _ _ _)
   | (with_reducible exact ih6 _ _ _ _)
   | (with_reducible exact impl_CliquesOf.mono _ _)
   | (with_reducible exact impl_ComponentsOf.mono _ _)
   | (with_reducible exact impl_MaximalCliques.mono _ _)
   | (with_reducible exact laws_hasInt.mono _ _ _)
   | (with_reducible exact laws_likeInts.mono _ _ _)
   | (with_reducible exact spec_CliquesOf.mono _ _)
   | (with_reducible exact spec_DrawCliquesOf.mono _ _)
   | (with_reducible exact LeO.refl _)
   | (with_reducible exact LeO.none _)
   | (with_reducible refine LeO.ite ?_ ?_)
   | (with_reducible refine LeO.bind ?_ (fun _ => ?_))
   | exact ih0 _ _ _ _
   | exact ih1 _ _ _ _ _
   | exact ih2 _ _ _ _ _
   | exact ih3 _ _ _ _ _
   | exact ih4 _ _ _ _ _ _ _ _
   | exact ih5 _ _ _ _ _ _ _ _
   | exact ih6 _ _ _ _
   | exact impl_CliquesOf.mono _ _
   | exact impl_ComponentsOf.mono _ _
   | exact impl_MaximalCliques.mono _ _
   | exact laws_hasInt.mono _ _ _
   | exact laws_likeInts.mono _ _ _
   | exact spec_CliquesOf.mono _ _
   | exact spec_DrawCliquesOf.mono _ _
   | exact LeO.none _
   | refine LeO.ite ?_ ?_
   | refine LeO.bind ?_ (fun _ => ?_)
  ·intro y0 y1 y2 y3 y4
   unfold laws_FnCliques.l0
   repeat' first
   | (with_reducible exact ih0 _ _ _ _)
   | (with_reducible exact ih1 _ _ _ _ _)
   | (with_reducible exact ih2 _ _ _ _ _)
   | (with_reducible exact ih3 _ _ _ _ _)
   | (with_reducible exact ih4 _ _ _ _ _ _ _ _)
   | (with_reducible exact ih5 _ _ _ _ _ _ _ _)
   | (with_reducible exact ih6 _ _ _ _)
   | (with_reducible exact impl_CliquesOf.mono _ _)
   | (with_reducible exact impl_ComponentsOf.mono _ _)
   | (with_reducible exact impl_MaximalCliques.mono _ _)
   | (with_reducible exact laws_hasInt.mono _ _ _)
   | (with_reducible exact laws_likeInts.mono _ _ _)
   | (with_reducible exact spec_CliquesOf.mono _ _)
   | (with_reducible exact spec_DrawCliquesOf.mono _ _)
   | (with_reducible exact LeO.refl _)
   | (with_reducible exact LeO.none _)
   | (with_reducible refine LeO.ite ?_ ?_)
   | (with_reducible refine LeO.bind ?_ (fun _ => ?_))
   | exact ih0 _ _ _ _
   | exact ih1 _ _ _ _ _
   | exact ih2 _ _ _ _ _
   | exact ih3 _ _ _ _ _
   | exact ih4 _ _ _ _ _ _ _ _
   | exact ih5 _ _ _ _ _ _ _ _
   | exact ih6 _ _ _ _
   | exact impl_CliquesOf.mono _ _
   | exact impl_ComponentsOf.mono _ _
   | exact impl_MaximalCliques.mono _ _
   | exact laws_hasInt.mono _ _ _
   | exact laws_likeInts.mono _ _ _
   | exact spec_CliquesOf.mono _ _
   | exact spec_DrawCliquesOf.mono _ _
   | exact LeO.none _
   | refine LeO.ite ?_ ?_
   | refine LeO.bind ?_ (fun _ => ?_)
  ·intro y0 y1 y2 y3 y4
   unfold laws_FnCliques.l1
   repeat' first
   | (with_reducible exact ih0 _ _ _ _)
   | (with_reducible exact ih1 _ _ _ _ _)
   | (with_reducible exact ih2 _ _ _ _ _)
   | (with_reducible exact ih3 _ _ _ _ _)
   | (with_reducible exact ih4 _ _ _ _ _ _ _ _)
   | (with_reducible exact ih5 _ _ _ _ _ _ _ _)
   | (with_reducible exact ih6 _ _ _ _)
   | (with_reducible exact impl_CliquesOf.mono _ _)
   | (with_reducible exact impl_ComponentsOf.mono _ _)
   | (with_reducible exact impl_MaximalCliques.mono _ _)
   | (with_reducible exact laws_hasInt.mono _ _ _)
   | (with_reducible exact laws_likeInts.mono _ _ _)
   | (with_reducible exact spec_CliquesOf.mono _ _)
   | (with_reducible exact spec_DrawCliquesOf.mono _ _)
   | (with_reducible exact LeO.refl _)
   | (with_reducible exact LeO.none _)
   | (with_reducible refine LeO.ite ?_ ?_)
   | (with_reducible refine LeO.bind ?_ (fun _ => ?_))
   | exact ih0 _ _ _ _
   | exact ih1 _ _ _ _ _
   | exact ih2 _ _ _ _ _
   | exact ih3 _ _ _ _ _
   | exact ih4 _ _ _ _ _ _ _ _
   | exact ih5 _ _ _ _ _ _ _ _
   | exact ih6 _ _ _ _
   | exact impl_CliquesOf.mono _ _
   | exact impl_ComponentsOf.mono _ _
   | exact impl_MaximalCliques.mono _ _
   | exact laws_hasInt.mono _ _ _
   | exact laws_likeInts.mono _ _ _
   | exact spec_CliquesOf.mono _ _
   | exact spec_DrawCliquesOf.mono _ _
   | exact LeO.none _
   | refine LeO.ite ?_ ?_
   | refine LeO.bind ?_ (fun _ => ?_)
  ·intro y0 y1 y2 y3 y4 y5 y6 y7
   unfold laws_FnCliques.l2
   repeat' first
   | (with_reducible exact ih0 _ _ _ _)
   | (with_reducible exact ih1 _ _ _ _ _)
   | (with_reducible exact ih2 _ _ _ _ _)
   | (with_reducible exact ih3 _ _ _ _ _)
   | (with_reducible exact ih4 _ _ _ _ _ _ _ _)
   | (with_reducible exact ih5 _ _ _ _ _ _ _ _)
   | (with_reducible exact ih6 _ _ _ _)
   | (with_reducible exact impl_CliquesOf.mono _ _)
   | (with_reducible exact impl_ComponentsOf.mono _ _)
   | (with_reducible exact impl_MaximalCliques.mono _ _)
   | (with_reducible exact laws_hasInt.mono _ _ _)
   | (with_reducible exact laws_likeInts.mono _ _ _)
   | (with_reducible exact spec_CliquesOf.mono _ _)
   | (with_reducible exact spec_DrawCliquesOf.mono _ _)
   | (with_reducible exact LeO.refl _)
   | (with_reducible exact LeO.none _)
   | (with_reducible refine LeO.ite ?_ ?_)
   | (with_reducible refine LeO.bind ?_ (fun _ => ?_))
   | exact ih0 _ _ _ _
   | exact ih1 _ _ _ _ _
   | exact ih2 _ _ _ _ _
   | exact ih3 _ _ _ _ _
   | exact ih4 _ _ _ _ _ _ _ _
   | exact ih5 _ _ _ _ _ _ _ _
   | exact ih6 _ _ _ _
   | exact impl_CliquesOf.mono _ _
   | exact impl_ComponentsOf.mono _ _
   | exact impl_MaximalCliques.mono _ _
   | exact laws_hasInt.mono _ _ _
   | exact laws_likeInts.mono _ _ _
   | exact spec_CliquesOf.mono _ _
   | exact spec_DrawCliquesOf.mono _ _
   | exact LeO.none _
   | refine LeO.ite ?_ ?_
   | refine LeO.bind ?_ (fun _ => ?_)
  ·intro y0 y1 y2 y3 y4 y5 y6 y7
   unfold laws_FnCliques.l3
   repeat' first
   | (with_reducible exact ih0 _ _ _ _)
   | (with_reducible exact ih1 _ _ _ _ _)
   | (with_reducible exact ih2 _ _ _ _ _)
   | (with_reducible exact ih3 _ _ _ _ _)
   | (with_reducible exact ih4 _ _ _ _ _ _ _ _)
   | (with_reducible exact ih5 _ _ _ _ _ _ _ _)
   | (with_reducible exact ih6 _ _ _ _)
   | (with_reducible exact impl_CliquesOf.mono _ _)
   | (with_reducible exact impl_ComponentsOf.mono _ _)
   | (with_reducible exact impl_MaximalCliques.mono _ _)
   | (with_reducible exact laws_hasInt.mono _ _ _)
   | (with_reducible exact laws_likeInts.mono _ _ _)
   | (with_reducible exact spec_CliquesOf.mono _ _)
   | (with_reducible exact spec_DrawCliquesOf.mono _ _)
   | (with_reducible exact LeO.refl _)
   | (with_reducible exact LeO.none _)
   | (with_reducible refine LeO.ite ?_ ?_)
   | (with_reducible refine LeO.bind ?_ (fun _ => ?_))
   | exact ih0 _ _ _ _
   | exact ih1 _ _ _ _ _
   | exact ih2 _ _ _ _ _
   | exact ih3 _ _ _ _ _
   | exact ih4 _ _ _ _ _ _ _ _
   | exact ih5 _ _ _ _ _ _ _ _
   | exact ih6 _ _ _ _
   | exact impl_CliquesOf.mono _ _
   | exact impl_ComponentsOf.mono _ _
   | exact impl_MaximalCliques.mono _ _
   | exact laws_hasInt.mono _ _ _
   | exact laws_likeInts.mono _ _ _
   | exact spec_CliquesOf.mono _ _
   | exact spec_DrawCliquesOf.mono _ _
   | exact LeO.none _
   | refine LeO.ite ?_ ?_
   | refine LeO.bind ?_ (fun _ => ?_)
  ·intro y0 y1 y2 y3
   unfold laws_FnCliques.l4
   repeat' first
   | (with_reducible exact ih0 _ _ _ _)
   | (with_reducible exact ih1 _ _ _ _ _)
   | (with_reducible exact ih2 _ _ _ _ _)
   | (with_reducible exact ih3 _ _ _ _ _)
   | (with_reducible exact ih4 _ _ _ _ _ _ _ _)
   | (with_reducible exact ih5 _ _ _ _ _ _ _ _)
   | (with_reducible exact ih6 _ _ _ _)
   | (with_reducible exact impl_CliquesOf.mono _ _)
   | (with_reducible exact impl_ComponentsOf.mono _ _)
   | (with_reducible exact impl_MaximalCliques.mono _ _)
   | (with_reducible exact laws_hasInt.mono _ _ _)
   | (with_reducible exact laws_likeInts.mono _ _ _)
   | (with_reducible exact spec_CliquesOf.mono _ _)
   | (with_reducible exact spec_DrawCliquesOf.mono _ _)
   | (with_reducible exact LeO.refl _)
   | (with_reducible exact LeO.none _)
   | (with_reducible refine LeO.ite ?_ ?_)
   | (with_reducible refine LeO.bind ?_ (fun _ => ?_))
   | exact ih0 _ _ _ _
   | exact ih1 _ _ _ _ _
   | exact ih2 _ _ _ _ _
   | exact ih3 _ _ _ _ _
   | exact ih4 _ _ _ _ _ _ _ _
   | exact ih5 _ _ _ _ _ _ _ _
   | exact ih6 _ _ _ _
   | exact impl_CliquesOf.mono _ _
   | exact impl_ComponentsOf.mono _ _
   | exact impl_MaximalCliques.mono _ _
   | exact laws_hasInt.mono _ _ _
   | exact laws_likeInts.mono _ _ _
   | exact spec_CliquesOf.mono _ _
   | exact spec_DrawCliquesOf.mono _ _
   | exact LeO.none _
   | refine LeO.ite ?_ ?_
   | refine LeO.bind ?_ (fun _ => ?_)
theorem laws_FnCliques.mono : ∀ a0 k, LeO (laws_FnCliques.f k a0) (laws_FnCliques.f (k + 1) a0) := by
 intro a0 k
 obtain ⟨ih0, ih1, ih2, ih3, ih4, ih5, ih6⟩ := laws_FnCliques.mono_l k
 unfold laws_FnCliques.f
 repeat' first
   | (with_reducible exact ih0 _ _ _ _)
   | (with_reducible exact ih1 _ _ _ _ _)
   | (with_reducible exact ih2 _ _ _ _ _)
   | (with_reducible exact ih3 _ _ _ _ _)
   | (with_reducible exact ih4 _ _ _ _ _ _ _ _)
   | (with_reducible exact ih5 _ _ _ _ _ _ _ _)
   | (with_reducible exact ih6 _ _ _ _)
   | (with_reducible exact impl_CliquesOf.mono _ _)
   | (with_reducible exact impl_ComponentsOf.mono _ _)
   | (with_reducible exact impl_MaximalCliques.mono _ _)
   | (with_reducible exact laws_hasInt.mono _ _ _)
   | (with_reducible exact laws_likeInts.mono _ _ _)
   | (with_reducible exact spec_CliquesOf.mono _ _)
   | (with_reducible exact spec_DrawCliquesOf.mono _ _)
   | (with_reducible exact LeO.refl _)
   | (with_reducible exact LeO.none _)
   | (with_reducible refine LeO.ite ?_ ?_)
   | (with_reducible refine LeO.bind ?_ (fun _ => ?_))
   | exact ih0 _ _ _ _
   | exact ih1 _ _ _ _ _
   | exact ih2 _ _ _ _ _
   | exact ih3 _ _ _ _ _
   | exact ih4 _ _ _ _ _ _ _ _
   | exact ih5 _ _ _ _ _ _ _ _
   | exact ih6 _ _ _ _
   | exact impl_CliquesOf.mono _ _
   | exact impl_ComponentsOf.mono _ _
   | exact impl_MaximalCliques.mono _ _
   | exact laws_hasInt.mono _ _ _
   | exact laws_likeInts.mono _ _ _
   | exact spec_CliquesOf.mono _ _
   | exact spec_DrawCliquesOf.mono _ _
   | exact LeO.none _
   | refine LeO.ite ?_ ?_
   | refine LeO.bind ?_ (fun _ => ?_)
set_option maxHeartbeats 8000000 in
set_option maxRecDepth 100000 in
theorem laws_FnCliques.calls (k : Nat) (A0 : Option Addr) (c0 : Nat) (l0 : List Int) (r : Bool) (w : World) (hr0 : Kd.C (Kd.int .u8) w A0 l0.length l0) (hc0 : l0.length ≤ c0) (hT : TabW w) (h : laws_FnCliques.f k l0 = some r) :
  Calls Tryd.prog 5 #[.slice A0 l0.length c0] w fun e w' => e = .returned (.bool r) ∧ Below w.heap.size w w' := by
 have HT := Aside0.mk hT; clear hT; have HR0 := Aside0.mk hr0; have HC0 := Aside0.mk hc0; clear hr0 hc0; have HB := Aside0.mk (Below.refl w.heap.size w)
 have H : ((laws_big.f l0).bind fun t517 => (if t517 = true then (some true) else ((spec_DrawCliquesOf.f k l0).bind fun t518 => ((impl_CliquesOf.f k t518).bind fun bt521 => ((spec_CliquesOf.f k t518).bind fun bt525 => (if bt521.2 = bt525.2 then ((laws_likeInts.f k bt521.1 bt525.1).bind fun t529 => (laws_FnCliques.j0 k t518 bt521.1 bt521.2 (!t529))) else (laws_FnCliques.j0 k t518 bt521.1 bt521.2 true))))))) = some r := h
 clear h; replace H := Option.bind_eq_some_iff.mp H; obtain ⟨t517, A20, H⟩ := H
 replace H : (if t517 = true then (some true) else ((spec_DrawCliquesOf.f k l0).bind fun t518 => ((impl_CliquesOf.f k t518).bind fun bt521 => ((spec_CliquesOf.f k t518).bind fun bt525 => (if bt521.2 = bt525.2 then ((laws_likeInts.f k bt521.1 bt525.1).bind fun t529 => (laws_FnCliques.j0 k t518 bt521.1 bt521.2 (!t529))) else (laws_FnCliques.j0 k t518 bt521.1 bt521.2 true)))))) = some r := H
 have A2 := Aside0.mk A20; clear A20
 by_cases c3 : t517 = true
 ·subst c3
  have H1 : (some true) = some r := by rw [if_pos rfl] at H; exact H
  clear H; have H := H1; clear H1
  obtain rfl := Option.some.inj H
  go_enter Tryd.func5, Tryd.ntmps5
  go_wp2_with (first | (go_at_call 16; (with_reducible refine (laws_big.calls _ _ l0 true _ ?side1 ?side2 A2.out).mono ?_); (case side1 => have q_ := Aside0.mk HR0.out; exact cQ q_); (case side2 => exact HC0.out); rintro e w' ⟨rfl, ⟨nd, rfl⟩⟩; (try first | exact ⟨rfl, _, World.drewN_drewN _ _ _⟩ | exact ⟨rfl, _, Eq.trans (World.drewN_drewN _ _ _) (congrArg (World.drewN _) (Nat.add_assoc _ _ _))⟩)))
  repeat (go_quiet (first | (go_at_call 16; (with_reducible refine (laws_big.calls _ _ l0 true _ ?side1 ?side2 A2.out).mono ?_); (case side1 => have q_ := Aside0.mk HR0.out; exact cQ q_); (case side2 => exact HC0.out); rintro e w' ⟨rfl, ⟨nd, rfl⟩⟩; (try first | exact ⟨rfl, _, World.drewN_drewN _ _ _⟩ | exact ⟨rfl, _, Eq.trans (World.drewN_drewN _ _ _) (congrArg (World.drewN _) (Nat.add_assoc _ _ _))⟩))); try go_wp2_with (first | (go_at_call 16; (with_reducible refine (laws_big.calls _ _ l0 true _ ?side1 ?side2 A2.out).mono ?_); (case side1 => have q_ := Aside0.mk HR0.out; exact cQ q_); (case side2 => exact HC0.out); rintro e w' ⟨rfl, ⟨nd, rfl⟩⟩; (try first | exact ⟨rfl, _, World.drewN_drewN _ _ _⟩ | exact ⟨rfl, _, Eq.trans (World.drewN_drewN _ _ _) (congrArg (World.drewN _) (Nat.add_assoc _ _ _))⟩))))
  go_ret
  exact ⟨rz, beQ HB⟩
 ·replace c3 := Bool.eq_false_iff.mpr c3
  subst c3
  have H1 : ((spec_DrawCliquesOf.f k l0).bind fun t518 => ((impl_CliquesOf.f k t518).bind fun bt521 => ((spec_CliquesOf.f k t518).bind fun bt525 => (if bt521.2 = bt525.2 then ((laws_likeInts.f k bt521.1 bt525.1).bind fun t529 => (laws_FnCliques.j0 k t518 bt521.1 bt521.2 (!t529))) else (laws_FnCliques.j0 k t518 bt521.1 bt521.2 true))))) = some r := by rw [if_neg (show ¬ (false = true) by decide)] at H; exact H
  clear H; have H := H1; clear H1; replace H := Option.bind_eq_some_iff.mp H; obtain ⟨t518, A40, H⟩ := H
  replace H : ((impl_CliquesOf.f k t518).bind fun bt521 => ((spec_CliquesOf.f k t518).bind fun bt525 => (if bt521.2 = bt525.2 then ((laws_likeInts.f k bt521.1 bt525.1).bind fun t529 => (laws_FnCliques.j0 k t518 bt521.1 bt521.2 (!t529))) else (laws_FnCliques.j0 k t518 bt521.1 bt521.2 true)))) = some r := H
  have A4 := Aside0.mk A40; clear A40; replace H := Option.bind_eq_some_iff.mp H
  obtain ⟨⟨t521, t522⟩, A50, H⟩ := H
  replace H : ((spec_CliquesOf.f k t518).bind fun bt525 => (if t522 = bt525.2 then ((laws_likeInts.f k t521 bt525.1).bind fun t529 => (laws_FnCliques.j0 k t518 t521 t522 (!t529))) else (laws_FnCliques.j0 k t518 t521 t522 true))) = some r := H
  have A5 := Aside0.mk A50; clear A50; replace H := Option.bind_eq_some_iff.mp H
  obtain ⟨⟨t525, t526⟩, A60, H⟩ := H
  replace H : (if t522 = t526 then ((laws_likeInts.f k t521 t525).bind fun t529 => (laws_FnCliques.j0 k t518 t521 t522 (!t529))) else (laws_FnCliques.j0 k t518 t521 t522 true)) = some r := H
  have A6 := Aside0.mk A60; clear A60; have HC7 := Aside0.mk H; clear H
  go_enter Tryd.func5, Tryd.ntmps5
  go_upto_region 6 with (first | (go_at_call 16; (with_reducible refine (laws_big.calls _ _ l0 false _ ?side1 ?side2 A2.out).mono ?_); (case side1 => have q_ := Aside0.mk HR0.out; exact cQ q_); (case side2 => exact HC0.out); rintro e w' ⟨rfl, ⟨nd, rfl⟩⟩; (try first | exact ⟨rfl, _, World.drewN_drewN _ _ _⟩ | exact ⟨rfl, _, Eq.trans (World.drewN_drewN _ _ _) (congrArg (World.drewN _) (Nat.add_assoc _ _ _))⟩)) | (go_at_call 17; (with_reducible refine (spec_DrawCliquesOf.calls k _ _ l0 t518 _ ?side1 ?side2 A4.out).mono ?_); (case side1 => have q_ := Aside0.mk HR0.out; exact cQ q_); (case side2 => exact HC0.out); rintro e w8 ⟨v519, rfl, ho0, hb⟩; have HO520 := Aside0.mk (Kd.R_lower ho0 (below_size (beQ HB))); replace HB := Aside0.mk (below_step (beQ HB) hb); (try clear hb); (try clear hb2); (try clear hk); (try clear hi); (try clear hgw_); (try clear ho0); obtain ⟨Ao9, co9, eo9⟩ := Kd.R_slice HO520.out; subst eo9) | (go_at_call 10; (with_reducible refine (impl_CliquesOf.calls k _ _ t518 t521 t522 _ ?side1 ?side2 ?side3 A5.out).mono ?_); (case side1 => have q_ := Aside0.mk (Kd.R_reads' HO520.out).2.2; exact cQ q_); (case side2 => exact (Kd.R_reads' HO520.out).2.1); (case side3 => exact TabW.below HT.out (beQ HB)); rintro e w10 ⟨v523, rfl, ho0, hb⟩; have HO524 := Aside0.mk (Kd.R_lower (Kd.R_new' ho0 (Kd.R_lt (kdQ HO520))) (below_size (beQ HB))); replace HO520 := Aside0.mk (Kd.R_elder' (kdQ HO520) (Kd.R_base ho0) hb); replace HB := Aside0.mk (below_step (beQ HB) hb); (try clear hb); (try clear hb2); (try clear hk); (try clear hi); (try clear hgw_); (try clear ho0)) | (go_at_call 8; (with_reducible refine (spec_CliquesOf.calls k _ _ t518 t525 t526 _ ?side1 ?side2 A6.out).mono ?_); (case side1 => have q_ := Aside0.mk (Kd.R_reads' HO520.out).2.2; exact cQ q_); (case side2 => exact (Kd.R_reads' HO520.out).2.1); rintro e w11 ⟨v527, rfl, ho0, hb⟩; have HO528 := Aside0.mk (Kd.R_lower (Kd.R_new' (Kd.R_new' ho0 (Kd.R_lt (kdQ HO520))) (Kd.R_lt (kdQ HO524))) (below_size (beQ HB))); replace HO520 := Aside0.mk (Kd.R_elder' (kdQ HO520) (Kd.R_base ho0) hb); replace HO524 := Aside0.mk (Kd.R_elder' (kdQ HO524) (Kd.R_base ho0) hb); replace HB := Aside0.mk (below_step (beQ HB) hb); (try clear hb); (try clear hb2); (try clear hk); (try clear hi); (try clear hgw_); (try clear ho0)))
  repeat (go_quiet (first | (go_at_call 16; (with_reducible refine (laws_big.calls _ _ l0 false _ ?side1 ?side2 A2.out).mono ?_); (case side1 => have q_ := Aside0.mk HR0.out; exact cQ q_); (case side2 => exact HC0.out); rintro e w' ⟨rfl, ⟨nd, rfl⟩⟩; (try first | exact ⟨rfl, _, World.drewN_drewN _ _ _⟩ | exact ⟨rfl, _, Eq.trans (World.drewN_drewN _ _ _) (congrArg (World.drewN _) (Nat.add_assoc _ _ _))⟩)) | (go_at_call 17; (with_reducible refine (spec_DrawCliquesOf.calls k _ _ l0 t518 _ ?side1 ?side2 A4.out).mono ?_); (case side1 => have q_ := Aside0.mk HR0.out; exact cQ q_); (case side2 => exact HC0.out); rintro e w8 ⟨v519, rfl, ho0, hb⟩; have HO520 := Aside0.mk (Kd.R_lower ho0 (below_size (beQ HB))); replace HB := Aside0.mk (below_step (beQ HB) hb); (try clear hb); (try clear hb2); (try clear hk); (try clear hi); (try clear hgw_); (try clear ho0); obtain ⟨Ao9, co9, eo9⟩ := Kd.R_slice HO520.out; subst eo9) | (go_at_call 10; (with_reducible refine (impl_CliquesOf.calls k _ _ t518 t521 t522 _ ?side1 ?side2 ?side3 A5.out).mono ?_); (case side1 => have q_ := Aside0.mk (Kd.R_reads' HO520.out).2.2; exact cQ q_); (case side2 => exact (Kd.R_reads' HO520.out).2.1); (case side3 => exact TabW.below HT.out (beQ HB)); rintro e w10 ⟨v523, rfl, ho0, hb⟩; have HO524 := Aside0.mk (Kd.R_lower (Kd.R_new' ho0 (Kd.R_lt (kdQ HO520))) (below_size (beQ HB))); replace HO520 := Aside0.mk (Kd.R_elder' (kdQ HO520) (Kd.R_base ho0) hb); replace HB := Aside0.mk (below_step (beQ HB) hb); (try clear hb); (try clear hb2); (try clear hk); (try clear hi); (try clear hgw_); (try clear ho0)) | (go_at_call 8; (with_reducible refine (spec_CliquesOf.calls k _ _ t518 t525 t526 _ ?side1 ?side2 A6.out).mono ?_); (case side1 => have q_ := Aside0.mk (Kd.R_reads' HO520.out).2.2; exact cQ q_); (case side2 => exact (Kd.R_reads' HO520.out).2.1); rintro e w11 ⟨v527, rfl, ho0, hb⟩; have HO528 := Aside0.mk (Kd.R_lower (Kd.R_new' (Kd.R_new' ho0 (Kd.R_lt (kdQ HO520))) (Kd.R_lt (kdQ HO524))) (below_size (beQ HB))); replace HO520 := Aside0.mk (Kd.R_elder' (kdQ HO520) (Kd.R_base ho0) hb); replace HO524 := Aside0.mk (Kd.R_elder' (kdQ HO524) (Kd.R_base ho0) hb); replace HB := Aside0.mk (below_step (beQ HB) hb); (try clear hb); (try clear hb2); (try clear hk); (try clear hi); (try clear hgw_); (try clear ho0))); go_upto_region 6 with (first | (go_at_call 16; (with_reducible refine (laws_big.calls _ _ l0 false _ ?side1 ?side2 A2.out).mono ?_); (case side1 => have q_ := Aside0.mk HR0.out; exact cQ q_); (case side2 => exact HC0.out); rintro e w' ⟨rfl, ⟨nd, rfl⟩⟩; (try first | exact ⟨rfl, _, World.drewN_drewN _ _ _⟩ | exact ⟨rfl, _, Eq.trans (World.drewN_drewN _ _ _) (congrArg (World.drewN _) (Nat.add_assoc _ _ _))⟩)) | (go_at_call 17; (with_reducible refine (spec_DrawCliquesOf.calls k _ _ l0 t518 _ ?side1 ?side2 A4.out).mono ?_); (case side1 => have q_ := Aside0.mk HR0.out; exact cQ q_); (case side2 => exact HC0.out); rintro e w8 ⟨v519, rfl, ho0, hb⟩; have HO520 := Aside0.mk (Kd.R_lower ho0 (below_size (beQ HB))); replace HB := Aside0.mk (below_step (beQ HB) hb); (try clear hb); (try clear hb2); (try clear hk); (try clear hi); (try clear hgw_); (try clear ho0); obtain ⟨Ao9, co9, eo9⟩ := Kd.R_slice HO520.out; subst eo9) | (go_at_call 10; (with_reducible refine (impl_CliquesOf.calls k _ _ t518 t521 t522 _ ?side1 ?side2 ?side3 A5.out).mono ?_); (case side1 => have q_ := Aside0.mk (Kd.R_reads' HO520.out).2.2; exact cQ q_); (case side2 => exact (Kd.R_reads' HO520.out).2.1); (case side3 => exact TabW.below HT.out (beQ HB)); rintro e w10 ⟨v523, rfl, ho0, hb⟩; have HO524 := Aside0.mk (Kd.R_lower (Kd.R_new' ho0 (Kd.R_lt (kdQ HO520))) (below_size (beQ HB))); replace HO520 := Aside0.mk (Kd.R_elder' (kdQ HO520) (Kd.R_base ho0) hb); replace HB := Aside0.mk (below_step (beQ HB) hb); (try clear hb); (try clear hb2); (try clear hk); (try clear hi); (try clear hgw_); (try clear ho0)) | (go_at_call 8; (with_reducible refine (spec_CliquesOf.calls k _ _ t518 t525 t526 _ ?side1 ?side2 A6.out).mono ?_); (case side1 => have q_ := Aside0.mk (Kd.R_reads' HO520.out).2.2; exact cQ q_); (case side2 => exact (Kd.R_reads' HO520.out).2.1); rintro e w11 ⟨v527, rfl, ho0, hb⟩; have HO528 := Aside0.mk (Kd.R_lower (Kd.R_new' (Kd.R_new' ho0 (Kd.R_lt (kdQ HO520))) (Kd.R_lt (kdQ HO524))) (below_size (beQ HB))); replace HO520 := Aside0.mk (Kd.R_elder' (kdQ HO520) (Kd.R_base ho0) hb); replace HO524 := Aside0.mk (Kd.R_elder' (kdQ HO524) (Kd.R_base ho0) hb); replace HB := Aside0.mk (below_step (beQ HB) hb); (try clear hb); (try clear hb2); (try clear hk); (try clear hi); (try clear hgw_); (try clear ho0))))
  (try simp only [Act.put, List.setIfInBounds_toArray, List.set_cons_zero, List.set_cons_succ])
  go_cut [42] (fun v42 wc => ∃ (kq : Nat) (x42_6 : Bool), v42 = .bool x42_6 ∧ Aside0 (laws_FnCliques.j0 kq t518 t521 t522 x42_6 = some r) ∧ Aside0 (kq ≤ k) ∧ Aside0 (Kd.R (Kd.int .i64) 2 wc w.heap.size (fun k_ => some k_ ≠ (v523 : Value).ownBlock) (.slice Ao9 t518.length co9) t518) ∧ Aside0 (Kd.R (Kd.int .i64) 2 wc w.heap.size (fun k_ => some k_ ≠ ((.slice Ao9 t518.length co9) : Value).ownBlock) v523 t521) ∧ Aside0 (Below w.heap.size w wc))
  case first =>
   have H := HC7.out; clear HC7
   by_cases c12 : t522 = t526
   ·rw [if_pos c12] at H
    have c12b0 : (t522 == t526) = true := beq_iff_eq.mpr c12
    have c12b1 : (t522 != t526) = false := bne_eq_false_iff_eq.mpr c12
    clear c12
    (first | rw [c12b0] | (simp only [i64_w, i32_w]; rw [c12b0]) | skip)
    replace H := Option.bind_eq_some_iff.mp H; obtain ⟨t529, A130, H⟩ := H
    replace H : (laws_FnCliques.j0 k t518 t521 t522 (!t529)) = some r := H
    have A13 := Aside0.mk A130; clear A130
    have H' := Aside0.mk H
    clear H; obtain ⟨Ao14, co14, eo14⟩ := Kd.R_slice HO524.out; subst eo14; obtain ⟨Ao15, co15, eo15⟩ := Kd.R_slice HO528.out; subst eo15
    go_wp2_with (first | (go_at_call 18; (with_reducible refine (laws_likeInts.calls k _ _ t521 _ _ t525 t529 _ ?side1 ?side2 ?side3 ?side4 A13.out).mono ?_); (case side1 => have q_ := Aside0.mk (Kd.R_reads' HO524.out).2.2; exact cQ q_); (case side2 => exact (Kd.R_reads' HO524.out).2.1); (case side3 => have q_ := Aside0.mk (Kd.R_reads' HO528.out).2.2; exact cQ q_); (case side4 => exact (Kd.R_reads' HO528.out).2.1); rintro e w' ⟨rfl, ⟨nd, rfl⟩⟩; (try first | exact ⟨rfl, _, World.drewN_drewN _ _ _⟩ | exact ⟨rfl, _, Eq.trans (World.drewN_drewN _ _ _) (congrArg (World.drewN _) (Nat.add_assoc _ _ _))⟩)))
    repeat (go_quiet (first | (go_at_call 18; (with_reducible refine (laws_likeInts.calls k _ _ t521 _ _ t525 t529 _ ?side1 ?side2 ?side3 ?side4 A13.out).mono ?_); (case side1 => have q_ := Aside0.mk (Kd.R_reads' HO524.out).2.2; exact cQ q_); (case side2 => exact (Kd.R_reads' HO524.out).2.1); (case side3 => have q_ := Aside0.mk (Kd.R_reads' HO528.out).2.2; exact cQ q_); (case side4 => exact (Kd.R_reads' HO528.out).2.1); rintro e w' ⟨rfl, ⟨nd, rfl⟩⟩; (try first | exact ⟨rfl, _, World.drewN_drewN _ _ _⟩ | exact ⟨rfl, _, Eq.trans (World.drewN_drewN _ _ _) (congrArg (World.drewN _) (Nat.add_assoc _ _ _))⟩))); try go_wp2_with (first | (go_at_call 18; (with_reducible refine (laws_likeInts.calls k _ _ t521 _ _ t525 t529 _ ?side1 ?side2 ?side3 ?side4 A13.out).mono ?_); (case side1 => have q_ := Aside0.mk (Kd.R_reads' HO524.out).2.2; exact cQ q_); (case side2 => exact (Kd.R_reads' HO524.out).2.1); (case side3 => have q_ := Aside0.mk (Kd.R_reads' HO528.out).2.2; exact cQ q_); (case side4 => exact (Kd.R_reads' HO528.out).2.1); rintro e w' ⟨rfl, ⟨nd, rfl⟩⟩; (try first | exact ⟨rfl, _, World.drewN_drewN _ _ _⟩ | exact ⟨rfl, _, Eq.trans (World.drewN_drewN _ _ _) (congrArg (World.drewN _) (Nat.add_assoc _ _ _))⟩))))
    go_meet
    case rel => exact ⟨_, (!t529), sz, H', ⟨by first | omega | exact Nat.le_refl _⟩, ⟨by (with_reducible repeat (first | apply Kd.R_alloc | apply Kd.R_drewN | apply Kd.R_drew)); exact Kd.R_mono HO520.out (fun _ hk => hk.1.2)⟩, ⟨by (with_reducible repeat (first | apply Kd.R_alloc | apply Kd.R_drewN | apply Kd.R_drew)); exact Kd.R_mono HO524.out (fun _ hk => hk.1.2)⟩, ⟨beQ HB⟩⟩
   ·rw [if_neg c12] at H
    have c12b0 : (t522 == t526) = false := beq_eq_false_iff_ne.mpr c12
    have c12b1 : (t522 != t526) = true := bne_iff_ne.mpr c12
    (first | rw [c12b0] | (simp only [i64_w, i32_w]; rw [c12b0]) | skip)
    have H' := Aside0.mk H
    clear H
    go_wp2
    repeat (go_quiet (fail); try go_wp2)
    go_meet
    case rel => exact ⟨_, (true), sz, H', ⟨by first | omega | exact Nat.le_refl _⟩, ⟨by (with_reducible repeat (first | apply Kd.R_alloc | apply Kd.R_drewN | apply Kd.R_drew)); exact Kd.R_mono HO520.out (fun _ hk => hk.1.2)⟩, ⟨by (with_reducible repeat (first | apply Kd.R_alloc | apply Kd.R_drewN | apply Kd.R_drew)); exact Kd.R_mono HO524.out (fun _ hk => hk.1.2)⟩, ⟨beQ HB⟩⟩
  case rest =>
   clear HC7
   try clear c1
   try clear p2
   try clear c3
   try clear c5
   try clear c12
   try clear c12b0
   try clear c12b1
   obtain ⟨kq, x42_6, rfl, HA, HJ6, HO_3, HO_4, HB⟩ := hcut
   cases kq with
   | zero => exact absurd HA.out (by simp [laws_FnCliques.j0])
   | succ kj6 =>
    have H := HA.out; clear HA
    simp only [laws_FnCliques.j0] at H
    by_cases c16 : x42_6 = true
    ·subst c16
     have H1 : (some false) = some r := by rw [if_pos rfl] at H; exact H
     clear H; have H := H1; clear H1
     obtain rfl := Option.some.inj H
     go_wp2
     repeat (go_quiet (fail); try go_wp2)
     go_ret
     exact ⟨rz, beQ HB⟩
    ·replace c16 := Bool.eq_false_iff.mpr c16
     subst c16
     have H1 : (if t522 = 0 then ((impl_MaximalCliques.f kj6 t518).bind fun bt530 => ((impl_ComponentsOf.f kj6 t518).bind fun bt534 => (if bt530.2 = 0 then (if bt534.2 = 0 then (laws_FnCliques.j1 kj6 t518 t521 bt530.1 bt534.1 ((bt530.1.length : Int) == 0)) else (laws_FnCliques.j1 kj6 t518 t521 bt530.1 bt534.1 true)) else (laws_FnCliques.j1 kj6 t518 t521 bt530.1 bt534.1 true)))) else (some true)) = some r := by rw [if_neg (show ¬ (false = true) by decide)] at H; exact H
     clear H; have H := H1; clear H1
     by_cases c17 : t522 = 0
     ·rw [if_pos c17] at H
      have c17b0 : (t522 == 0) = true := beq_iff_eq.mpr c17
      have c17b1 : (t522 != 0) = false := bne_eq_false_iff_eq.mpr c17
      clear c17; replace H := Option.bind_eq_some_iff.mp H
      obtain ⟨⟨t530, t531⟩, A180, H⟩ := H
      replace H : ((impl_ComponentsOf.f kj6 t518).bind fun bt534 => (if t531 = 0 then (if bt534.2 = 0 then (laws_FnCliques.j1 kj6 t518 t521 t530 bt534.1 ((t530.length : Int) == 0)) else (laws_FnCliques.j1 kj6 t518 t521 t530 bt534.1 true)) else (laws_FnCliques.j1 kj6 t518 t521 t530 bt534.1 true))) = some r := H
      have A18 := Aside0.mk A180; clear A180; replace H := Option.bind_eq_some_iff.mp H
      obtain ⟨⟨t534, t535⟩, A190, H⟩ := H
      replace H : (if t531 = 0 then (if t535 = 0 then (laws_FnCliques.j1 kj6 t518 t521 t530 t534 ((t530.length : Int) == 0)) else (laws_FnCliques.j1 kj6 t518 t521 t530 t534 true)) else (laws_FnCliques.j1 kj6 t518 t521 t530 t534 true)) = some r := H
      have A19 := Aside0.mk A190; clear A190; have HC20 := Aside0.mk H; clear H
      go_upto_region 12 with (first | (go_at_call 15; (with_reducible refine (impl_MaximalCliques.calls kj6 _ _ t518 t530 t531 _ ?side1 ?side2 ?side3 A18.out).mono ?_); (case side1 => have q_ := Aside0.mk (Kd.R_reads' HO_3.out).2.2; exact cQ q_); (case side2 => exact (Kd.R_reads' HO_3.out).2.1); (case side3 => exact TabW.below HT.out (beQ HB)); rintro e w21 ⟨v532, rfl, ho0, hb⟩; have HO533 := Aside0.mk (Kd.R_lower (Kd.R_new' (Kd.R_new' ho0 (Kd.R_lt (kdQ HO_3))) (Kd.R_lt (kdQ HO_4))) (below_size (beQ HB))); replace HO_3 := Aside0.mk (Kd.R_elder' (kdQ HO_3) (Kd.R_base ho0) hb); replace HO_4 := Aside0.mk (Kd.R_elder' (kdQ HO_4) (Kd.R_base ho0) hb); replace HB := Aside0.mk (below_step (beQ HB) hb); (try clear hb); (try clear hb2); (try clear hk); (try clear hi); (try clear hgw_); (try clear ho0)) | (go_at_call 19; (with_reducible refine (impl_ComponentsOf.calls kj6 _ _ t518 t534 t535 _ ?side1 ?side2 ?side3 A19.out).mono ?_); (case side1 => have q_ := Aside0.mk (Kd.R_reads' HO_3.out).2.2; exact cQ q_); (case side2 => exact (Kd.R_reads' HO_3.out).2.1); (case side3 => exact TabW.below HT.out (beQ HB)); rintro e w22 ⟨v536, rfl, ho0, hb⟩; have HO537 := Aside0.mk (Kd.R_lower (Kd.R_new' (Kd.R_new' (Kd.R_new' ho0 (Kd.R_lt (kdQ HO_3))) (Kd.R_lt (kdQ HO_4))) (Kd.R_lt (kdQ HO533))) (below_size (beQ HB))); replace HO_3 := Aside0.mk (Kd.R_elder' (kdQ HO_3) (Kd.R_base ho0) hb); replace HO_4 := Aside0.mk (Kd.R_elder' (kdQ HO_4) (Kd.R_base ho0) hb); replace HO533 := Aside0.mk (Kd.R_elder' (kdQ HO533) (Kd.R_base ho0) hb); replace HB := Aside0.mk (below_step (beQ HB) hb); (try clear hb); (try clear hb2); (try clear hk); (try clear hi); (try clear hgw_); (try clear ho0)))
      repeat (go_quiet (first | (go_at_call 15; (with_reducible refine (impl_MaximalCliques.calls kj6 _ _ t518 t530 t531 _ ?side1 ?side2 ?side3 A18.out).mono ?_); (case side1 => have q_ := Aside0.mk (Kd.R_reads' HO_3.out).2.2; exact cQ q_); (case side2 => exact (Kd.R_reads' HO_3.out).2.1); (case side3 => exact TabW.below HT.out (beQ HB)); rintro e w21 ⟨v532, rfl, ho0, hb⟩; have HO533 := Aside0.mk (Kd.R_lower (Kd.R_new' (Kd.R_new' ho0 (Kd.R_lt (kdQ HO_3))) (Kd.R_lt (kdQ HO_4))) (below_size (beQ HB))); replace HO_3 := Aside0.mk (Kd.R_elder' (kdQ HO_3) (Kd.R_base ho0) hb); replace HO_4 := Aside0.mk (Kd.R_elder' (kdQ HO_4) (Kd.R_base ho0) hb); replace HB := Aside0.mk (below_step (beQ HB) hb); (try clear hb); (try clear hb2); (try clear hk); (try clear hi); (try clear hgw_); (try clear ho0)) | (go_at_call 19; (with_reducible refine (impl_ComponentsOf.calls kj6 _ _ t518 t534 t535 _ ?side1 ?side2 ?side3 A19.out).mono ?_); (case side1 => have q_ := Aside0.mk (Kd.R_reads' HO_3.out).2.2; exact cQ q_); (case side2 => exact (Kd.R_reads' HO_3.out).2.1); (case side3 => exact TabW.below HT.out (beQ HB)); rintro e w22 ⟨v536, rfl, ho0, hb⟩; have HO537 := Aside0.mk (Kd.R_lower (Kd.R_new' (Kd.R_new' (Kd.R_new' ho0 (Kd.R_lt (kdQ HO_3))) (Kd.R_lt (kdQ HO_4))) (Kd.R_lt (kdQ HO533))) (below_size (beQ HB))); replace HO_3 := Aside0.mk (Kd.R_elder' (kdQ HO_3) (Kd.R_base ho0) hb); replace HO_4 := Aside0.mk (Kd.R_elder' (kdQ HO_4) (Kd.R_base ho0) hb); replace HO533 := Aside0.mk (Kd.R_elder' (kdQ HO533) (Kd.R_base ho0) hb); replace HB := Aside0.mk (below_step (beQ HB) hb); (try clear hb); (try clear hb2); (try clear hk); (try clear hi); (try clear hgw_); (try clear ho0))); go_upto_region 12 with (first | (go_at_call 15; (with_reducible refine (impl_MaximalCliques.calls kj6 _ _ t518 t530 t531 _ ?side1 ?side2 ?side3 A18.out).mono ?_); (case side1 => have q_ := Aside0.mk (Kd.R_reads' HO_3.out).2.2; exact cQ q_); (case side2 => exact (Kd.R_reads' HO_3.out).2.1); (case side3 => exact TabW.below HT.out (beQ HB)); rintro e w21 ⟨v532, rfl, ho0, hb⟩; have HO533 := Aside0.mk (Kd.R_lower (Kd.R_new' (Kd.R_new' ho0 (Kd.R_lt (kdQ HO_3))) (Kd.R_lt (kdQ HO_4))) (below_size (beQ HB))); replace HO_3 := Aside0.mk (Kd.R_elder' (kdQ HO_3) (Kd.R_base ho0) hb); replace HO_4 := Aside0.mk (Kd.R_elder' (kdQ HO_4) (Kd.R_base ho0) hb); replace HB := Aside0.mk (below_step (beQ HB) hb); (try clear hb); (try clear hb2); (try clear hk); (try clear hi); (try clear hgw_); (try clear ho0)) | (go_at_call 19; (with_reducible refine (impl_ComponentsOf.calls kj6 _ _ t518 t534 t535 _ ?side1 ?side2 ?side3 A19.out).mono ?_); (case side1 => have q_ := Aside0.mk (Kd.R_reads' HO_3.out).2.2; exact cQ q_); (case side2 => exact (Kd.R_reads' HO_3.out).2.1); (case side3 => exact TabW.below HT.out (beQ HB)); rintro e w22 ⟨v536, rfl, ho0, hb⟩; have HO537 := Aside0.mk (Kd.R_lower (Kd.R_new' (Kd.R_new' (Kd.R_new' ho0 (Kd.R_lt (kdQ HO_3))) (Kd.R_lt (kdQ HO_4))) (Kd.R_lt (kdQ HO533))) (below_size (beQ HB))); replace HO_3 := Aside0.mk (Kd.R_elder' (kdQ HO_3) (Kd.R_base ho0) hb); replace HO_4 := Aside0.mk (Kd.R_elder' (kdQ HO_4) (Kd.R_base ho0) hb); replace HO533 := Aside0.mk (Kd.R_elder' (kdQ HO533) (Kd.R_base ho0) hb); replace HB := Aside0.mk (below_step (beQ HB) hb); (try clear hb); (try clear hb2); (try clear hk); (try clear hi); (try clear hgw_); (try clear ho0))))
      (try simp only [Act.put, List.setIfInBounds_toArray, List.set_cons_zero, List.set_cons_succ])
      go_cut [65] (fun v65 wc => ∃ (kq : Nat) (x65_19 : Bool), v65 = .bool x65_19 ∧ Aside0 (laws_FnCliques.j1 kq t518 t521 t530 t534 x65_19 = some r) ∧ Aside0 (kq ≤ kj6) ∧ Aside0 (Kd.R (Kd.int .i64) 2 wc w.heap.size (fun k_ => some k_ ≠ (v523 : Value).ownBlock ∧ some k_ ≠ (v532 : Value).ownBlock ∧ some k_ ≠ (v536 : Value).ownBlock) (.slice Ao9 t518.length co9) t518) ∧ Aside0 (Kd.R (Kd.int .i64) 2 wc w.heap.size (fun k_ => some k_ ≠ ((.slice Ao9 t518.length co9) : Value).ownBlock ∧ some k_ ≠ (v532 : Value).ownBlock ∧ some k_ ≠ (v536 : Value).ownBlock) v523 t521) ∧ Aside0 (Kd.R (Kd.int .i64) 2 wc w.heap.size (fun k_ => some k_ ≠ ((.slice Ao9 t518.length co9) : Value).ownBlock ∧ some k_ ≠ (v523 : Value).ownBlock ∧ some k_ ≠ (v536 : Value).ownBlock) v532 t530) ∧ Aside0 (Kd.R (Kd.int .i64) 2 wc w.heap.size (fun k_ => some k_ ≠ ((.slice Ao9 t518.length co9) : Value).ownBlock ∧ some k_ ≠ (v523 : Value).ownBlock ∧ some k_ ≠ (v532 : Value).ownBlock) v536 t534) ∧ Aside0 (Below w.heap.size w wc))
      case first =>
       have H := HC20.out; clear HC20
       by_cases c23 : t531 = 0
       ·rw [if_pos c23] at H
        have c23b0 : (t531 == 0) = true := beq_iff_eq.mpr c23
        have c23b1 : (t531 != 0) = false := bne_eq_false_iff_eq.mpr c23
        clear c23
        (first | rw [c23b0] | (simp only [i64_w, i32_w]; rw [c23b0]) | skip)
        by_cases c24 : t535 = 0
        ·rw [if_pos c24] at H
         have c24b0 : (t535 == 0) = true := beq_iff_eq.mpr c24
         have c24b1 : (t535 != 0) = false := bne_eq_false_iff_eq.mpr c24
         clear c24
         have H' := Aside0.mk H
         clear H; obtain ⟨Ao25, co25, eo25⟩ := Kd.R_slice HO533.out; subst eo25
         go_wp2
         repeat (go_quiet (fail); try go_wp2)
         go_meet
         case rel => exact ⟨_, (((t530.length : Int) == 0)), sz, H', ⟨by have := HJ6.out; first | omega | exact Nat.le_refl _⟩, ⟨by (with_reducible repeat (first | apply Kd.R_alloc | apply Kd.R_drewN | apply Kd.R_drew)); exact Kd.R_mono HO_3.out (fun _ hk => ⟨hk.1.1, ⟨hk.1.2, hk.2⟩⟩)⟩, ⟨by (with_reducible repeat (first | apply Kd.R_alloc | apply Kd.R_drewN | apply Kd.R_drew)); exact Kd.R_mono HO_4.out (fun _ hk => ⟨hk.1.1, ⟨hk.1.2, hk.2⟩⟩)⟩, ⟨by (with_reducible repeat (first | apply Kd.R_alloc | apply Kd.R_drewN | apply Kd.R_drew)); exact Kd.R_mono HO533.out (fun _ hk => ⟨hk.1.1.2, ⟨hk.1.2, hk.2⟩⟩)⟩, ⟨by (with_reducible repeat (first | apply Kd.R_alloc | apply Kd.R_drewN | apply Kd.R_drew)); exact Kd.R_mono HO537.out (fun _ hk => ⟨hk.1.1.2, ⟨hk.1.2, hk.2⟩⟩)⟩, ⟨beQ HB⟩⟩
        ·rw [if_neg c24] at H
         have c24b0 : (t535 == 0) = false := beq_eq_false_iff_ne.mpr c24
         have c24b1 : (t535 != 0) = true := bne_iff_ne.mpr c24
         have H' := Aside0.mk H
         clear H
         go_wp2
         repeat (go_quiet (fail); try go_wp2)
         go_meet
         case rel => exact ⟨_, (true), sz, H', ⟨by have := HJ6.out; first | omega | exact Nat.le_refl _⟩, ⟨by (with_reducible repeat (first | apply Kd.R_alloc | apply Kd.R_drewN | apply Kd.R_drew)); exact Kd.R_mono HO_3.out (fun _ hk => ⟨hk.1.1, ⟨hk.1.2, hk.2⟩⟩)⟩, ⟨by (with_reducible repeat (first | apply Kd.R_alloc | apply Kd.R_drewN | apply Kd.R_drew)); exact Kd.R_mono HO_4.out (fun _ hk => ⟨hk.1.1, ⟨hk.1.2, hk.2⟩⟩)⟩, ⟨by (with_reducible repeat (first | apply Kd.R_alloc | apply Kd.R_drewN | apply Kd.R_drew)); exact Kd.R_mono HO533.out (fun _ hk => ⟨hk.1.1.2, ⟨hk.1.2, hk.2⟩⟩)⟩, ⟨by (with_reducible repeat (first | apply Kd.R_alloc | apply Kd.R_drewN | apply Kd.R_drew)); exact Kd.R_mono HO537.out (fun _ hk => ⟨hk.1.1.2, ⟨hk.1.2, hk.2⟩⟩)⟩, ⟨beQ HB⟩⟩
       ·rw [if_neg c23] at H
        have c23b0 : (t531 == 0) = false := beq_eq_false_iff_ne.mpr c23
        have c23b1 : (t531 != 0) = true := bne_iff_ne.mpr c23
        (first | rw [c23b0] | (simp only [i64_w, i32_w]; rw [c23b0]) | skip)
        have H' := Aside0.mk H
        clear H
        go_wp2
        repeat (go_quiet (fail); try go_wp2)
        go_meet
        case rel => exact ⟨_, (true), sz, H', ⟨by have := HJ6.out; first | omega | exact Nat.le_refl _⟩, ⟨by (with_reducible repeat (first | apply Kd.R_alloc | apply Kd.R_drewN | apply Kd.R_drew)); exact Kd.R_mono HO_3.out (fun _ hk => ⟨hk.1.1, ⟨hk.1.2, hk.2⟩⟩)⟩, ⟨by (with_reducible repeat (first | apply Kd.R_alloc | apply Kd.R_drewN | apply Kd.R_drew)); exact Kd.R_mono HO_4.out (fun _ hk => ⟨hk.1.1, ⟨hk.1.2, hk.2⟩⟩)⟩, ⟨by (with_reducible repeat (first | apply Kd.R_alloc | apply Kd.R_drewN | apply Kd.R_drew)); exact Kd.R_mono HO533.out (fun _ hk => ⟨hk.1.1.2, ⟨hk.1.2, hk.2⟩⟩)⟩, ⟨by (with_reducible repeat (first | apply Kd.R_alloc | apply Kd.R_drewN | apply Kd.R_drew)); exact Kd.R_mono HO537.out (fun _ hk => ⟨hk.1.1.2, ⟨hk.1.2, hk.2⟩⟩)⟩, ⟨beQ HB⟩⟩
      case rest =>
       clear HC20
       try clear c1
       try clear c2
       try clear p2
       try clear c3
       try clear c5
       try clear c12
       try clear c12b0
       try clear c12b1
       try clear c16
       try clear c17
       try clear c17b0
       try clear c17b1
       try clear c23
       try clear c23b0
       try clear c23b1
       try clear c24
       try clear c24b0
       try clear c24b1
       try clear p2
       obtain ⟨kq, x65_19, rfl, HA, HJ19, HO_3, HO_4, HO_8, HO_10, HB⟩ := hcut
       cases kq with
       | zero => exact absurd HA.out (by simp [laws_FnCliques.j1])
       | succ kj19 =>
        have H := HA.out; clear HA
        simp only [laws_FnCliques.j1] at H
        by_cases c26 : x65_19 = true
        ·subst c26
         have H1 : (some false) = some r := by rw [if_pos rfl] at H; exact H
         clear H; have H := H1; clear H1
         obtain rfl := Option.some.inj H
         go_wp2
         repeat (go_quiet (fail); try go_wp2)
         go_ret
         exact ⟨rz, beQ HB⟩
        ·replace c26 := Bool.eq_false_iff.mpr c26
         subst c26
         have H1 : (laws_FnCliques.l0 kj19 t518 t521 t530 t534 0) = some r := by rw [if_neg (show ¬ (false = true) by decide)] at H; exact H
         clear H; have H := H1; clear H1
         have H' := Aside0.mk H
         clear H
         go_wp2
         repeat (go_quiet (fail); try go_wp2)
         go_loopg [12] kj19 (fun kq v12 w' => ∃ (x12_3 : Int), v12 = .int .i64 x12_3 ∧ Aside0 (laws_FnCliques.l0 kq t518 t521 t530 t534 x12_3 = some r) ∧ Aside0 (kq ≤ kj19) ∧ Aside0 (Kd.R (Kd.int .i64) 2 w' w.heap.size (fun k_ => some k_ ≠ (v523 : Value).ownBlock ∧ some k_ ≠ (v532 : Value).ownBlock ∧ some k_ ≠ (v536 : Value).ownBlock) (.slice Ao9 t518.length co9) t518) ∧ Aside0 (Kd.R (Kd.int .i64) 2 w' w.heap.size (fun k_ => some k_ ≠ ((.slice Ao9 t518.length co9) : Value).ownBlock ∧ some k_ ≠ (v532 : Value).ownBlock ∧ some k_ ≠ (v536 : Value).ownBlock) v523 t521) ∧ Aside0 (Kd.R (Kd.int .i64) 2 w' w.heap.size (fun k_ => some k_ ≠ ((.slice Ao9 t518.length co9) : Value).ownBlock ∧ some k_ ≠ (v523 : Value).ownBlock ∧ some k_ ≠ (v536 : Value).ownBlock) v532 t530) ∧ Aside0 (Kd.R (Kd.int .i64) 2 w' w.heap.size (fun k_ => some k_ ≠ ((.slice Ao9 t518.length co9) : Value).ownBlock ∧ some k_ ≠ (v523 : Value).ownBlock ∧ some k_ ≠ (v532 : Value).ownBlock) v536 t534) ∧ Aside0 (Below w.heap.size w w'))
         case atStart => exact ⟨(0), sz, H', ⟨Nat.le_refl _⟩, ⟨kdQ HO_3⟩, ⟨kdQ HO_4⟩, ⟨kdQ HO_8⟩, ⟨kdQ HO_10⟩, ⟨beQ HB⟩⟩
         case round =>
          clear H'
          try clear c1
          try clear c2
          try clear p2
          try clear c3
          try clear c5
          try clear c12
          try clear c12b0
          try clear c12b1
          try clear c16
          try clear c17
          try clear c17b0
          try clear c17b1
          try clear c23
          try clear c23b0
          try clear c23b1
          try clear c24
          try clear c24b0
          try clear c24b1
          try clear c26
          try clear p2
          obtain ⟨x12_3, rfl, HA, HK3, HO_3, HO_4, HO_8, HO_10, HB⟩ := hrel
          cases gk with
          | zero => exact absurd HA.out (by simp [laws_FnCliques.l0])
          | succ k3 =>
           have H := HA.out; clear HA
           simp only [laws_FnCliques.l0] at H
           by_cases c27 : x12_3 < (t530.length : Int)
           ·rw [if_pos c27] at H
            have c27b0 : decide (x12_3 < (t530.length : Int)) = true := decide_eq_true c27
            clear c27
            by_cases c28 : 0 ≤ x12_3
            ·rw [if_pos c28] at H
             have c28b0 : decide (0 ≤ x12_3) = true := decide_eq_true c28
             clear c28; replace H := Option.bind_eq_some_iff.mp H; obtain ⟨t539, A290, H⟩ := H
             replace H : (if t539 = true then (laws_FnCliques.l0 k3 t518 t521 t530 t534 (wrap64 (x12_3 + 1))) else (some false)) = some r := H
             have A29 := Aside0.mk A290; clear A290
             by_cases c30 : t539 = true
             ·subst c30
              have H1 : (laws_FnCliques.l0 k3 t518 t521 t530 t534 (wrap64 (x12_3 + 1))) = some r := by rw [if_pos rfl] at H; exact H
              clear H; have H := H1; clear H1
              have H' := Aside0.mk H
              clear H; obtain ⟨Ao31, co31, eo31⟩ := Kd.R_slice HO_8.out; subst eo31
              have p538 : 0 ≤ (x12_3 : Int) := of_decide_eq_true (by first | (with_reducible assumption) | assumption)
              have q538 : x12_3 < (t530.length : Int) := of_decide_eq_true (by first | (with_reducible assumption) | assumption)
              obtain ⟨ad538, e538, hx538_0⟩ := Kd.at_int (Kd.R_reads' HO_8.out).2.2 x12_3 p538 q538; cases e538; replace p538 := eq_true p538; replace q538 := eq_true q538; obtain ⟨Ao32, co32, eo32⟩ := Kd.R_slice HO_4.out; subst eo32
              go_wp2_with (first | (go_at_call 20; (with_reducible refine (laws_hasInt.calls k3 _ _ t521 (rd t530 x12_3) true _ ?side1 ?side2 A29.out).mono ?_); (case side1 => have q_ := Aside0.mk (Kd.R_reads' HO_4.out).2.2; exact cQ q_); (case side2 => exact (Kd.R_reads' HO_4.out).2.1); rintro e w' ⟨rfl, ⟨nd, rfl⟩⟩; (try first | exact ⟨rfl, _, World.drewN_drewN _ _ _⟩ | exact ⟨rfl, _, Eq.trans (World.drewN_drewN _ _ _) (congrArg (World.drewN _) (Nat.add_assoc _ _ _))⟩)))
              repeat (go_quiet (first | (go_at_call 20; (with_reducible refine (laws_hasInt.calls k3 _ _ t521 (rd t530 x12_3) true _ ?side1 ?side2 A29.out).mono ?_); (case side1 => have q_ := Aside0.mk (Kd.R_reads' HO_4.out).2.2; exact cQ q_); (case side2 => exact (Kd.R_reads' HO_4.out).2.1); rintro e w' ⟨rfl, ⟨nd, rfl⟩⟩; (try first | exact ⟨rfl, _, World.drewN_drewN _ _ _⟩ | exact ⟨rfl, _, Eq.trans (World.drewN_drewN _ _ _) (congrArg (World.drewN _) (Nat.add_assoc _ _ _))⟩))); try go_wp2_with (first | (go_at_call 20; (with_reducible refine (laws_hasInt.calls k3 _ _ t521 (rd t530 x12_3) true _ ?side1 ?side2 A29.out).mono ?_); (case side1 => have q_ := Aside0.mk (Kd.R_reads' HO_4.out).2.2; exact cQ q_); (case side2 => exact (Kd.R_reads' HO_4.out).2.1); rintro e w' ⟨rfl, ⟨nd, rfl⟩⟩; (try first | exact ⟨rfl, _, World.drewN_drewN _ _ _⟩ | exact ⟨rfl, _, Eq.trans (World.drewN_drewN _ _ _) (congrArg (World.drewN _) (Nat.add_assoc _ _ _))⟩))))
              go_roundg k3
              case measure => have := HJ6.out; have := HJ19.out; have := HK3.out; omega
              case rel => exact ⟨(wrap64 (x12_3 + 1)), sz, H', ⟨by have := HJ6.out; have := HJ19.out; have := HK3.out; omega⟩, ⟨kdQ HO_3⟩, ⟨kdQ HO_4⟩, ⟨kdQ HO_8⟩, ⟨kdQ HO_10⟩, ⟨beQ HB⟩⟩
             ·replace c30 := Bool.eq_false_iff.mpr c30
              subst c30
              have H1 : (some false) = some r := by rw [if_neg (show ¬ (false = true) by decide)] at H; exact H
              clear H; have H := H1; clear H1
              obtain rfl := Option.some.inj H
              obtain ⟨Ao33, co33, eo33⟩ := Kd.R_slice HO_8.out; subst eo33
              have p538 : 0 ≤ (x12_3 : Int) := of_decide_eq_true (by first | (with_reducible assumption) | assumption)
              have q538 : x12_3 < (t530.length : Int) := of_decide_eq_true (by first | (with_reducible assumption) | assumption)
              obtain ⟨ad538, e538, hx538_0⟩ := Kd.at_int (Kd.R_reads' HO_8.out).2.2 x12_3 p538 q538; cases e538; replace p538 := eq_true p538; replace q538 := eq_true q538; obtain ⟨Ao34, co34, eo34⟩ := Kd.R_slice HO_4.out; subst eo34
              go_wp2_with (first | (go_at_call 20; (with_reducible refine (laws_hasInt.calls k3 _ _ t521 (rd t530 x12_3) false _ ?side1 ?side2 A29.out).mono ?_); (case side1 => have q_ := Aside0.mk (Kd.R_reads' HO_4.out).2.2; exact cQ q_); (case side2 => exact (Kd.R_reads' HO_4.out).2.1); rintro e w' ⟨rfl, ⟨nd, rfl⟩⟩; (try first | exact ⟨rfl, _, World.drewN_drewN _ _ _⟩ | exact ⟨rfl, _, Eq.trans (World.drewN_drewN _ _ _) (congrArg (World.drewN _) (Nat.add_assoc _ _ _))⟩)))
              repeat (go_quiet (first | (go_at_call 20; (with_reducible refine (laws_hasInt.calls k3 _ _ t521 (rd t530 x12_3) false _ ?side1 ?side2 A29.out).mono ?_); (case side1 => have q_ := Aside0.mk (Kd.R_reads' HO_4.out).2.2; exact cQ q_); (case side2 => exact (Kd.R_reads' HO_4.out).2.1); rintro e w' ⟨rfl, ⟨nd, rfl⟩⟩; (try first | exact ⟨rfl, _, World.drewN_drewN _ _ _⟩ | exact ⟨rfl, _, Eq.trans (World.drewN_drewN _ _ _) (congrArg (World.drewN _) (Nat.add_assoc _ _ _))⟩))); try go_wp2_with (first | (go_at_call 20; (with_reducible refine (laws_hasInt.calls k3 _ _ t521 (rd t530 x12_3) false _ ?side1 ?side2 A29.out).mono ?_); (case side1 => have q_ := Aside0.mk (Kd.R_reads' HO_4.out).2.2; exact cQ q_); (case side2 => exact (Kd.R_reads' HO_4.out).2.1); rintro e w' ⟨rfl, ⟨nd, rfl⟩⟩; (try first | exact ⟨rfl, _, World.drewN_drewN _ _ _⟩ | exact ⟨rfl, _, Eq.trans (World.drewN_drewN _ _ _) (congrArg (World.drewN _) (Nat.add_assoc _ _ _))⟩))))
              go_ret
              exact ⟨rz, beQ HB⟩
            ·rw [if_neg c28] at H
             exact absurd H (by simp)
           ·rw [if_neg c27] at H
            have c27b0 : decide (x12_3 < (t530.length : Int)) = false := decide_eq_false c27
            clear c27
            have H' := Aside0.mk H
            clear H; obtain ⟨Ao35, co35, eo35⟩ := Kd.R_slice HO_8.out; subst eo35
            go_wp2
            repeat (go_quiet (fail); try go_wp2)
            go_loopg [13] k3 (fun kq v13 w' => ∃ (x13_4 : Int), v13 = .int .i64 x13_4 ∧ Aside0 (laws_FnCliques.l1 kq t518 t521 t530 t534 x13_4 = some r) ∧ Aside0 (kq ≤ k3) ∧ Aside0 (Kd.R (Kd.int .i64) 2 w' w.heap.size (fun k_ => some k_ ≠ (v523 : Value).ownBlock ∧ some k_ ≠ ((.slice Ao35 t530.length co35) : Value).ownBlock ∧ some k_ ≠ (v536 : Value).ownBlock) (.slice Ao9 t518.length co9) t518) ∧ Aside0 (Kd.R (Kd.int .i64) 2 w' w.heap.size (fun k_ => some k_ ≠ ((.slice Ao9 t518.length co9) : Value).ownBlock ∧ some k_ ≠ ((.slice Ao35 t530.length co35) : Value).ownBlock ∧ some k_ ≠ (v536 : Value).ownBlock) v523 t521) ∧ Aside0 (Kd.R (Kd.int .i64) 2 w' w.heap.size (fun k_ => some k_ ≠ ((.slice Ao9 t518.length co9) : Value).ownBlock ∧ some k_ ≠ (v523 : Value).ownBlock ∧ some k_ ≠ (v536 : Value).ownBlock) (.slice Ao35 t530.length co35) t530) ∧ Aside0 (Kd.R (Kd.int .i64) 2 w' w.heap.size (fun k_ => some k_ ≠ ((.slice Ao9 t518.length co9) : Value).ownBlock ∧ some k_ ≠ (v523 : Value).ownBlock ∧ some k_ ≠ ((.slice Ao35 t530.length co35) : Value).ownBlock) v536 t534) ∧ Aside0 (Below w.heap.size w w'))
            case atStart => exact ⟨(0), sz, H', ⟨Nat.le_refl _⟩, ⟨kdQ HO_3⟩, ⟨kdQ HO_4⟩, ⟨kdQ HO_8⟩, ⟨kdQ HO_10⟩, ⟨beQ HB⟩⟩
            case round =>
             clear H'
             try clear c1
             try clear c2
             try clear p2
             try clear c3
             try clear c5
             try clear p5
             try clear q5
             try clear hx5
             try clear p6
             try clear c12
             try clear c12b0
             try clear c12b1
             try clear c16
             try clear c17
             try clear c17b0
             try clear c17b1
             try clear c23
             try clear c23b0
             try clear c23b1
             try clear c24
             try clear c24b0
             try clear c24b1
             try clear c26
             try clear c27
             try clear c27b0
             try clear c28
             try clear c28b0
             try clear c30
             try clear hx538_0
             try clear p2
             try clear p538
             try clear q538
             obtain ⟨x13_4, rfl, HA, HK4, HO_3, HO_4, HO_8, HO_10, HB⟩ := hrel
             cases gk with
             | zero => exact absurd HA.out (by simp [laws_FnCliques.l1])
             | succ k4 =>
              have H := HA.out; clear HA
              simp only [laws_FnCliques.l1] at H
              by_cases c36 : x13_4 < (t521.length : Int)
              ·rw [if_pos c36] at H
               have c36b0 : decide (x13_4 < (t521.length : Int)) = true := decide_eq_true c36
               clear c36
               by_cases c37 : 0 ≤ x13_4
               ·rw [if_pos c37] at H
                have c37b0 : decide (0 ≤ x13_4) = true := decide_eq_true c37
                clear c37
                have H' := Aside0.mk H
                clear H; obtain ⟨Ao38, co38, eo38⟩ := Kd.R_slice HO_4.out; subst eo38
                have p540 : 0 ≤ (x13_4 : Int) := of_decide_eq_true (by first | (with_reducible assumption) | assumption)
                have q540 : x13_4 < (t521.length : Int) := of_decide_eq_true (by first | (with_reducible assumption) | assumption)
                obtain ⟨ad540, e540, hx540_0⟩ := Kd.at_int (Kd.R_reads' HO_4.out).2.2 x13_4 p540 q540; cases e540; replace p540 := eq_true p540; replace q540 := eq_true q540
                go_wp2
                repeat (go_quiet (fail); try go_wp2)
                go_loopg [14, 16] k4 (fun kq v14 v16 w' => ∃ (x14_5 : Bool) (x16_5 : Int), v14 = .bool x14_5 ∧ v16 = .int .i64 x16_5 ∧ Aside0 (laws_FnCliques.l2 kq t518 t521 t530 t534 x13_4 x14_5 ((rd t521 x13_4) == 0) x16_5 = some r) ∧ Aside0 (kq ≤ k4) ∧ Aside0 (Kd.R (Kd.int .i64) 2 w' w.heap.size (fun k_ => some k_ ≠ ((.slice (some ad540) t521.length co38) : Value).ownBlock ∧ some k_ ≠ ((.slice Ao35 t530.length co35) : Value).ownBlock ∧ some k_ ≠ (v536 : Value).ownBlock) (.slice Ao9 t518.length co9) t518) ∧ Aside0 (Kd.R (Kd.int .i64) 2 w' w.heap.size (fun k_ => some k_ ≠ ((.slice Ao9 t518.length co9) : Value).ownBlock ∧ some k_ ≠ ((.slice Ao35 t530.length co35) : Value).ownBlock ∧ some k_ ≠ (v536 : Value).ownBlock) (.slice (some ad540) t521.length co38) t521) ∧ Aside0 (Kd.R (Kd.int .i64) 2 w' w.heap.size (fun k_ => some k_ ≠ ((.slice Ao9 t518.length co9) : Value).ownBlock ∧ some k_ ≠ ((.slice (some ad540) t521.length co38) : Value).ownBlock ∧ some k_ ≠ (v536 : Value).ownBlock) (.slice Ao35 t530.length co35) t530) ∧ Aside0 (Kd.R (Kd.int .i64) 2 w' w.heap.size (fun k_ => some k_ ≠ ((.slice Ao9 t518.length co9) : Value).ownBlock ∧ some k_ ≠ ((.slice (some ad540) t521.length co38) : Value).ownBlock ∧ some k_ ≠ ((.slice Ao35 t530.length co35) : Value).ownBlock) v536 t534) ∧ Aside0 (Below w.heap.size w w'))
                case atStart => exact ⟨(false), (0), sz, sz, H', ⟨Nat.le_refl _⟩, ⟨kdQ HO_3⟩, ⟨kdQ HO_4⟩, ⟨kdQ HO_8⟩, ⟨kdQ HO_10⟩, ⟨beQ HB⟩⟩
                case round =>
                 clear H'
                 try clear c1
                 try clear c2
                 try clear p2
                 try clear c3
                 try clear c5
                 try clear p5
                 try clear q5
                 try clear hx5
                 try clear p6
                 try clear c12
                 try clear c12b0
                 try clear c12b1
                 try clear c16
                 try clear c17
                 try clear c17b0
                 try clear c17b1
                 try clear c23
                 try clear c23b0
                 try clear c23b1
                 try clear c24
                 try clear c24b0
                 try clear c24b1
                 try clear c26
                 try clear c27
                 try clear c27b0
                 try clear c28
                 try clear c28b0
                 try clear c30
                 try clear c36
                 try clear c36b0
                 try clear c37
                 try clear c37b0
                 try clear hx538_0
                 try clear hx540_0
                 try clear p2
                 try clear p5
                 try clear p538
                 try clear p540
                 try clear p6
                 try clear q5
                 try clear q538
                 try clear q540
                 obtain ⟨x14_5, x16_5, rfl, rfl, HA, HK5, HO_3, HO_4, HO_8, HO_10, HB⟩ := hrel
                 cases gk with
                 | zero => exact absurd HA.out (by simp [laws_FnCliques.l2])
                 | succ k5 =>
                  have H := HA.out; clear HA
                  simp only [laws_FnCliques.l2] at H
                  by_cases c39 : x16_5 < (t530.length : Int)
                  ·rw [if_pos c39] at H
                   have c39b0 : decide (x16_5 < (t530.length : Int)) = true := decide_eq_true c39
                   clear c39
                   by_cases c40 : x14_5 = true
                   ·subst c40
                    have H1 : (laws_FnCliques.l2 k5 t518 t521 t530 t534 x13_4 true ((rd t521 x13_4) == 0) (wrap64 (x16_5 + 1))) = some r := by rw [if_pos rfl] at H; exact H
                    clear H; have H := H1; clear H1
                    have H' := Aside0.mk H
                    clear H
                    go_wp2
                    repeat (go_quiet (fail); try go_wp2)
                    go_roundg k5
                    case measure => have := HJ6.out; have := HJ19.out; have := HK3.out; have := HK4.out; have := HK5.out; omega
                    case rel => exact ⟨(true), (wrap64 (x16_5 + 1)), sz, sz, H', ⟨by have := HJ6.out; have := HJ19.out; have := HK3.out; have := HK4.out; have := HK5.out; omega⟩, ⟨kdQ HO_3⟩, ⟨kdQ HO_4⟩, ⟨kdQ HO_8⟩, ⟨kdQ HO_10⟩, ⟨beQ HB⟩⟩
                   ·replace c40 := Bool.eq_false_iff.mpr c40
                    subst c40
                    have H1 : (if 0 ≤ x13_4 then (if x13_4 < (t521.length : Int) then (if 0 ≤ x16_5 then (laws_FnCliques.l2 k5 t518 t521 t530 t534 x13_4 ((Go.bits .or .i64 (rd t521 x13_4) (rd t530 x16_5)) == (rd t530 x16_5)) ((rd t521 x13_4) == 0) (wrap64 (x16_5 + 1))) else (none)) else (none)) else (none)) = some r := by rw [if_neg (show ¬ (false = true) by decide)] at H; exact H
                    clear H; have H := H1; clear H1
                    by_cases c41 : 0 ≤ x13_4
                    ·rw [if_pos c41] at H
                     have c41b0 : decide (0 ≤ x13_4) = true := decide_eq_true c41
                     clear c41
                     by_cases c42 : x13_4 < (t521.length : Int)
                     ·rw [if_pos c42] at H
                      have c42b0 : decide (x13_4 < (t521.length : Int)) = true := decide_eq_true c42
                      clear c42
                      by_cases c43 : 0 ≤ x16_5
                      ·rw [if_pos c43] at H
                       have c43b0 : decide (0 ≤ x16_5) = true := decide_eq_true c43
                       clear c43
                       have H' := Aside0.mk H
                       clear H
                       have p541 : 0 ≤ (x13_4 : Int) := of_decide_eq_true (by first | (with_reducible assumption) | assumption)
                       have q541 : x13_4 < (t521.length : Int) := of_decide_eq_true (by first | (with_reducible assumption) | assumption)
                       obtain ⟨ad541, e541, hx541_0⟩ := Kd.at_int (Kd.R_reads' HO_4.out).2.2 x13_4 p541 q541
                       obtain rfl : ad540 = ad541 := (by injection e541)
                       replace p541 := eq_true p541; replace q541 := eq_true q541
                       have p542 : 0 ≤ (x16_5 : Int) := of_decide_eq_true (by first | (with_reducible assumption) | assumption)
                       have q542 : x16_5 < (t530.length : Int) := of_decide_eq_true (by first | (with_reducible assumption) | assumption)
                       obtain ⟨ad542, e542, hx542_0⟩ := Kd.at_int (Kd.R_reads' HO_8.out).2.2 x16_5 p542 q542; cases e542; replace p542 := eq_true p542; replace q542 := eq_true q542
                       have p543 : 0 ≤ (x16_5 : Int) := of_decide_eq_true (by first | (with_reducible assumption) | assumption)
                       have q543 : x16_5 < (t530.length : Int) := of_decide_eq_true (by first | (with_reducible assumption) | assumption)
                       obtain ⟨ad543, e543, hx543_0⟩ := Kd.at_int (Kd.R_reads' HO_8.out).2.2 x16_5 p543 q543
                       obtain rfl : ad542 = ad543 := (by injection e543)
                       replace p543 := eq_true p543; replace q543 := eq_true q543
                       go_wp2
                       repeat (go_quiet (fail); try go_wp2)
                       go_roundg k5
                       case measure => have := HJ6.out; have := HJ19.out; have := HK3.out; have := HK4.out; have := HK5.out; omega
                       case rel => exact ⟨(((Go.bits .or .i64 (rd t521 x13_4) (rd t530 x16_5)) == (rd t530 x16_5))), (wrap64 (x16_5 + 1)), sz, sz, H', ⟨by have := HJ6.out; have := HJ19.out; have := HK3.out; have := HK4.out; have := HK5.out; omega⟩, ⟨kdQ HO_3⟩, ⟨kdQ HO_4⟩, ⟨kdQ HO_8⟩, ⟨kdQ HO_10⟩, ⟨beQ HB⟩⟩
                      ·rw [if_neg c43] at H
                       exact absurd H (by simp)
                     ·rw [if_neg c42] at H
                      exact absurd H (by simp)
                    ·rw [if_neg c41] at H
                     exact absurd H (by simp)
                  ·rw [if_neg c39] at H
                   have c39b0 : decide (x16_5 < (t530.length : Int)) = false := decide_eq_false c39
                   clear c39
                   have H' := Aside0.mk H
                   clear H
                   go_wp2
                   repeat (go_quiet (fail); try go_wp2)
                   go_loopg [15, 17] k5 (fun kq v15 v17 w' => ∃ (x15_6 : Bool) (x17_6 : Int), v15 = .bool x15_6 ∧ v17 = .int .i64 x17_6 ∧ Aside0 (laws_FnCliques.l3 kq t518 t521 t530 t534 x13_4 x14_5 x15_6 x17_6 = some r) ∧ Aside0 (kq ≤ k5) ∧ Aside0 (Kd.R (Kd.int .i64) 2 w' w.heap.size (fun k_ => some k_ ≠ ((.slice (some ad540) t521.length co38) : Value).ownBlock ∧ some k_ ≠ ((.slice Ao35 t530.length co35) : Value).ownBlock ∧ some k_ ≠ (v536 : Value).ownBlock) (.slice Ao9 t518.length co9) t518) ∧ Aside0 (Kd.R (Kd.int .i64) 2 w' w.heap.size (fun k_ => some k_ ≠ ((.slice Ao9 t518.length co9) : Value).ownBlock ∧ some k_ ≠ ((.slice Ao35 t530.length co35) : Value).ownBlock ∧ some k_ ≠ (v536 : Value).ownBlock) (.slice (some ad540) t521.length co38) t521) ∧ Aside0 (Kd.R (Kd.int .i64) 2 w' w.heap.size (fun k_ => some k_ ≠ ((.slice Ao9 t518.length co9) : Value).ownBlock ∧ some k_ ≠ ((.slice (some ad540) t521.length co38) : Value).ownBlock ∧ some k_ ≠ (v536 : Value).ownBlock) (.slice Ao35 t530.length co35) t530) ∧ Aside0 (Kd.R (Kd.int .i64) 2 w' w.heap.size (fun k_ => some k_ ≠ ((.slice Ao9 t518.length co9) : Value).ownBlock ∧ some k_ ≠ ((.slice (some ad540) t521.length co38) : Value).ownBlock ∧ some k_ ≠ ((.slice Ao35 t530.length co35) : Value).ownBlock) v536 t534) ∧ Aside0 (Below w.heap.size w w'))
                   case atStart => exact ⟨(((rd t521 x13_4) == 0)), (0), sz, sz, H', ⟨Nat.le_refl _⟩, ⟨kdQ HO_3⟩, ⟨kdQ HO_4⟩, ⟨kdQ HO_8⟩, ⟨kdQ HO_10⟩, ⟨beQ HB⟩⟩
                   case round =>
                    clear H'
                    try clear c1
                    try clear c2
                    try clear p2
                    try clear c3
                    try clear c4
                    try clear c5
                    try clear p5
                    try clear q5
                    try clear hx5
                    try clear p6
                    try clear c12
                    try clear c12b0
                    try clear c12b1
                    try clear c16
                    try clear c17
                    try clear c17b0
                    try clear c17b1
                    try clear c23
                    try clear c23b0
                    try clear c23b1
                    try clear c24
                    try clear c24b0
                    try clear c24b1
                    try clear c26
                    try clear c27
                    try clear c27b0
                    try clear c28
                    try clear c28b0
                    try clear c30
                    try clear c36
                    try clear c36b0
                    try clear c37
                    try clear c37b0
                    try clear c39
                    try clear c39b0
                    try clear c40
                    try clear c41
                    try clear c41b0
                    try clear c42
                    try clear c42b0
                    try clear c43
                    try clear c43b0
                    try clear hx538_0
                    try clear hx540_0
                    try clear hx541_0
                    try clear hx542_0
                    try clear hx543_0
                    try clear p2
                    try clear p5
                    try clear p538
                    try clear p540
                    try clear p541
                    try clear p542
                    try clear p543
                    try clear p6
                    try clear q5
                    try clear q538
                    try clear q540
                    try clear q541
                    try clear q542
                    try clear q543
                    obtain ⟨x15_6, x17_6, rfl, rfl, HA, HK6, HO_3, HO_4, HO_8, HO_10, HB⟩ := hrel
                    cases gk with
                    | zero => exact absurd HA.out (by simp [laws_FnCliques.l3])
                    | succ k6 =>
                     have H := HA.out; clear HA
                     simp only [laws_FnCliques.l3] at H
                     by_cases c44 : x17_6 < (t534.length : Int)
                     ·rw [if_pos c44] at H
                      have c44b0 : decide (x17_6 < (t534.length : Int)) = true := decide_eq_true c44
                      clear c44
                      by_cases c45 : x15_6 = true
                      ·subst c45
                       have H1 : (laws_FnCliques.l3 k6 t518 t521 t530 t534 x13_4 x14_5 true (wrap64 (x17_6 + 1))) = some r := by rw [if_pos rfl] at H; exact H
                       clear H; have H := H1; clear H1
                       have H' := Aside0.mk H
                       clear H; obtain ⟨Ao46, co46, eo46⟩ := Kd.R_slice HO_10.out; subst eo46
                       go_wp2
                       repeat (go_quiet (fail); try go_wp2)
                       go_roundg k6
                       case measure => have := HJ6.out; have := HJ19.out; have := HK3.out; have := HK4.out; have := HK5.out; have := HK6.out; omega
                       case rel => exact ⟨(true), (wrap64 (x17_6 + 1)), sz, sz, H', ⟨by have := HJ6.out; have := HJ19.out; have := HK3.out; have := HK4.out; have := HK5.out; have := HK6.out; omega⟩, ⟨kdQ HO_3⟩, ⟨kdQ HO_4⟩, ⟨kdQ HO_8⟩, ⟨kdQ HO_10⟩, ⟨beQ HB⟩⟩
                      ·replace c45 := Bool.eq_false_iff.mpr c45
                       subst c45
                       have H1 : (if 0 ≤ x13_4 then (if x13_4 < (t521.length : Int) then (if 0 ≤ x17_6 then (laws_FnCliques.l3 k6 t518 t521 t530 t534 x13_4 x14_5 ((Go.bits .or .i64 (rd t521 x13_4) (rd t534 x17_6)) == (rd t534 x17_6)) (wrap64 (x17_6 + 1))) else (none)) else (none)) else (none)) = some r := by rw [if_neg (show ¬ (false = true) by decide)] at H; exact H
                       clear H; have H := H1; clear H1
                       by_cases c47 : 0 ≤ x13_4
                       ·rw [if_pos c47] at H
                        have c47b0 : decide (0 ≤ x13_4) = true := decide_eq_true c47
                        clear c47
                        by_cases c48 : x13_4 < (t521.length : Int)
                        ·rw [if_pos c48] at H
                         have c48b0 : decide (x13_4 < (t521.length : Int)) = true := decide_eq_true c48
                         clear c48
                         by_cases c49 : 0 ≤ x17_6
                         ·rw [if_pos c49] at H
                          have c49b0 : decide (0 ≤ x17_6) = true := decide_eq_true c49
                          clear c49
                          have H' := Aside0.mk H
                          clear H; obtain ⟨Ao50, co50, eo50⟩ := Kd.R_slice HO_10.out; subst eo50
                          have p544 : 0 ≤ (x13_4 : Int) := of_decide_eq_true (by first | (with_reducible assumption) | assumption)
                          have q544 : x13_4 < (t521.length : Int) := of_decide_eq_true (by first | (with_reducible assumption) | assumption)
                          obtain ⟨ad544, e544, hx544_0⟩ := Kd.at_int (Kd.R_reads' HO_4.out).2.2 x13_4 p544 q544
                          obtain rfl : ad540 = ad544 := (by injection e544)
                          replace p544 := eq_true p544; replace q544 := eq_true q544
                          have p545 : 0 ≤ (x17_6 : Int) := of_decide_eq_true (by first | (with_reducible assumption) | assumption)
                          have q545 : x17_6 < (t534.length : Int) := of_decide_eq_true (by first | (with_reducible assumption) | assumption)
                          obtain ⟨ad545, e545, hx545_0⟩ := Kd.at_int (Kd.R_reads' HO_10.out).2.2 x17_6 p545 q545; cases e545; replace p545 := eq_true p545; replace q545 := eq_true q545
                          have p546 : 0 ≤ (x17_6 : Int) := of_decide_eq_true (by first | (with_reducible assumption) | assumption)
                          have q546 : x17_6 < (t534.length : Int) := of_decide_eq_true (by first | (with_reducible assumption) | assumption)
                          obtain ⟨ad546, e546, hx546_0⟩ := Kd.at_int (Kd.R_reads' HO_10.out).2.2 x17_6 p546 q546
                          obtain rfl : ad545 = ad546 := (by injection e546)
                          replace p546 := eq_true p546; replace q546 := eq_true q546
                          go_wp2
                          repeat (go_quiet (fail); try go_wp2)
                          go_roundg k6
                          case measure => have := HJ6.out; have := HJ19.out; have := HK3.out; have := HK4.out; have := HK5.out; have := HK6.out; omega
                          case rel => exact ⟨(((Go.bits .or .i64 (rd t521 x13_4) (rd t534 x17_6)) == (rd t534 x17_6))), (wrap64 (x17_6 + 1)), sz, sz, H', ⟨by have := HJ6.out; have := HJ19.out; have := HK3.out; have := HK4.out; have := HK5.out; have := HK6.out; omega⟩, ⟨kdQ HO_3⟩, ⟨kdQ HO_4⟩, ⟨kdQ HO_8⟩, ⟨kdQ HO_10⟩, ⟨beQ HB⟩⟩
                         ·rw [if_neg c49] at H
                          exact absurd H (by simp)
                        ·rw [if_neg c48] at H
                         exact absurd H (by simp)
                       ·rw [if_neg c47] at H
                        exact absurd H (by simp)
                     ·rw [if_neg c44] at H
                      have c44b0 : decide (x17_6 < (t534.length : Int)) = false := decide_eq_false c44
                      clear c44
                      by_cases c51 : x14_5 = true
                      ·subst c51
                       have H1 : (if x15_6 = true then (laws_FnCliques.l1 k6 t518 t521 t530 t534 (wrap64 (x13_4 + 1))) else (some false)) = some r := by rw [if_pos rfl] at H; exact H
                       clear H; have H := H1; clear H1
                       by_cases c52 : x15_6 = true
                       ·subst c52
                        have H1 : (laws_FnCliques.l1 k6 t518 t521 t530 t534 (wrap64 (x13_4 + 1))) = some r := by rw [if_pos rfl] at H; exact H
                        clear H; have H := H1; clear H1
                        have H' := Aside0.mk H
                        clear H; obtain ⟨Ao53, co53, eo53⟩ := Kd.R_slice HO_10.out; subst eo53
                        go_wp2
                        repeat (go_quiet (fail); try go_wp2)
                        go_roundg k6
                        case measure => have := HJ6.out; have := HJ19.out; have := HK3.out; have := HK4.out; have := HK5.out; have := HK6.out; omega
                        case rel => exact ⟨(wrap64 (x13_4 + 1)), sz, H', ⟨by have := HJ6.out; have := HJ19.out; have := HK3.out; have := HK4.out; have := HK5.out; have := HK6.out; omega⟩, ⟨kdQ HO_3⟩, ⟨kdQ HO_4⟩, ⟨kdQ HO_8⟩, ⟨kdQ HO_10⟩, ⟨beQ HB⟩⟩
                       ·replace c52 := Bool.eq_false_iff.mpr c52
                        subst c52
                        have H1 : (some false) = some r := by rw [if_neg (show ¬ (false = true) by decide)] at H; exact H
                        clear H; have H := H1; clear H1
                        obtain rfl := Option.some.inj H
                        obtain ⟨Ao54, co54, eo54⟩ := Kd.R_slice HO_10.out; subst eo54
                        go_wp2
                        repeat (go_quiet (fail); try go_wp2)
                        go_ret
                        exact ⟨rz, beQ HB⟩
                      ·replace c51 := Bool.eq_false_iff.mpr c51
                       subst c51
                       have H1 : (some false) = some r := by rw [if_neg (show ¬ (false = true) by decide)] at H; exact H
                       clear H; have H := H1; clear H1
                       obtain rfl := Option.some.inj H
                       obtain ⟨Ao55, co55, eo55⟩ := Kd.R_slice HO_10.out; subst eo55
                       go_wp2
                       repeat (go_quiet (fail); try go_wp2)
                       go_ret
                       exact ⟨rz, beQ HB⟩
               ·rw [if_neg c37] at H
                exact absurd H (by simp)
              ·rw [if_neg c36] at H
               have c36b0 : decide (x13_4 < (t521.length : Int)) = false := decide_eq_false c36
               clear c36
               have H' := Aside0.mk H
               clear H; obtain ⟨Ao56, co56, eo56⟩ := Kd.R_slice HO_4.out; subst eo56
               go_wp2
               repeat (go_quiet (fail); try go_wp2)
               go_loopg [18, 19] k4 (fun kq v18 v19 w' => ∃ (x18_5 : Int) (x19_5 : Int), v18 = .int .i64 x18_5 ∧ v19 = .int .i64 x19_5 ∧ Aside0 (laws_FnCliques.l4 kq t518 t534 x18_5 x19_5 = some r) ∧ Aside0 (kq ≤ k4) ∧ Aside0 (Kd.R (Kd.int .i64) 2 w' w.heap.size (fun k_ => some k_ ≠ (v536 : Value).ownBlock) (.slice Ao9 t518.length co9) t518) ∧ Aside0 (Kd.R (Kd.int .i64) 2 w' w.heap.size (fun k_ => some k_ ≠ ((.slice Ao9 t518.length co9) : Value).ownBlock) v536 t534) ∧ Aside0 (Below w.heap.size w w'))
               case atStart => exact ⟨(0), (0), sz, sz, H', ⟨Nat.le_refl _⟩, ⟨by (with_reducible repeat (first | apply Kd.R_alloc | apply Kd.R_drewN | apply Kd.R_drew)); exact Kd.R_mono HO_3.out (fun _ hk => hk.2.2)⟩, ⟨by (with_reducible repeat (first | apply Kd.R_alloc | apply Kd.R_drewN | apply Kd.R_drew)); exact Kd.R_mono HO_10.out (fun _ hk => hk.1)⟩, ⟨beQ HB⟩⟩
               case round =>
                clear H'
                try clear c1
                try clear c2
                try clear p2
                try clear c3
                try clear c4
                try clear c5
                try clear p5
                try clear q5
                try clear hx5
                try clear p6
                try clear c12
                try clear c12b0
                try clear c12b1
                try clear c16
                try clear c17
                try clear c17b0
                try clear c17b1
                try clear c23
                try clear c23b0
                try clear c23b1
                try clear c24
                try clear c24b0
                try clear c24b1
                try clear c26
                try clear c27
                try clear c27b0
                try clear c28
                try clear c28b0
                try clear c30
                try clear c36
                try clear c36b0
                try clear c37
                try clear c37b0
                try clear c39
                try clear c39b0
                try clear c40
                try clear c41
                try clear c41b0
                try clear c42
                try clear c42b0
                try clear c43
                try clear c43b0
                try clear c44
                try clear c44b0
                try clear c45
                try clear c47
                try clear c47b0
                try clear c48
                try clear c48b0
                try clear c49
                try clear c49b0
                try clear c51
                try clear c52
                try clear p53
                try clear q53
                try clear hx53
                try clear p54
                try clear q54
                try clear hx54
                try clear hx538_0
                try clear hx540_0
                try clear hx541_0
                try clear hx542_0
                try clear hx543_0
                try clear hx544_0
                try clear hx545_0
                try clear hx546_0
                try clear p2
                try clear p5
                try clear p538
                try clear p540
                try clear p541
                try clear p542
                try clear p543
                try clear p544
                try clear p545
                try clear p546
                try clear p6
                try clear q5
                try clear q538
                try clear q540
                try clear q541
                try clear q542
                try clear q543
                try clear q544
                try clear q545
                try clear q546
                obtain ⟨x18_5, x19_5, rfl, rfl, HA, HK5, HO_3, HO_10, HB⟩ := hrel
                cases gk with
                | zero => exact absurd HA.out (by simp [laws_FnCliques.l4])
                | succ k5 =>
                 have H := HA.out; clear HA
                 simp only [laws_FnCliques.l4] at H
                 by_cases c57 : x19_5 < (t534.length : Int)
                 ·rw [if_pos c57] at H
                  have c57b0 : decide (x19_5 < (t534.length : Int)) = true := decide_eq_true c57
                  clear c57
                  by_cases c58 : 0 ≤ x19_5
                  ·rw [if_pos c58] at H
                   have c58b0 : decide (0 ≤ x19_5) = true := decide_eq_true c58
                   clear c58
                   by_cases c59 : (Go.bits .and .i64 x18_5 (rd t534 x19_5)) = 0
                   ·rw [if_pos c59] at H
                    have c59b0 : ((Go.bits .and .i64 x18_5 (rd t534 x19_5)) == 0) = true := beq_iff_eq.mpr c59
                    have c59b1 : ((Go.bits .and .i64 x18_5 (rd t534 x19_5)) != 0) = false := bne_eq_false_iff_eq.mpr c59
                    clear c59
                    have H' := Aside0.mk H
                    clear H; obtain ⟨Ao60, co60, eo60⟩ := Kd.R_slice HO_10.out; subst eo60
                    have p547 : 0 ≤ (x19_5 : Int) := of_decide_eq_true (by first | (with_reducible assumption) | assumption)
                    have q547 : x19_5 < (t534.length : Int) := of_decide_eq_true (by first | (with_reducible assumption) | assumption)
                    obtain ⟨ad547, e547, hx547_0⟩ := Kd.at_int (Kd.R_reads' HO_10.out).2.2 x19_5 p547 q547; cases e547; replace p547 := eq_true p547; replace q547 := eq_true q547
                    have p548 : 0 ≤ (x19_5 : Int) := of_decide_eq_true (by first | (with_reducible assumption) | assumption)
                    have q548 : x19_5 < (t534.length : Int) := of_decide_eq_true (by first | (with_reducible assumption) | assumption)
                    obtain ⟨ad548, e548, hx548_0⟩ := Kd.at_int (Kd.R_reads' HO_10.out).2.2 x19_5 p548 q548
                    obtain rfl : ad547 = ad548 := (by injection e548)
                    replace p548 := eq_true p548; replace q548 := eq_true q548
                    go_wp2
                    repeat (go_quiet (fail); try go_wp2)
                    go_roundg k5
                    case measure => have := HJ6.out; have := HJ19.out; have := HK3.out; have := HK4.out; have := HK5.out; omega
                    case rel => exact ⟨(Go.bits .or .i64 x18_5 (rd t534 x19_5)), (wrap64 (x19_5 + 1)), sz, sz, H', ⟨by have := HJ6.out; have := HJ19.out; have := HK3.out; have := HK4.out; have := HK5.out; omega⟩, ⟨kdQ HO_3⟩, ⟨kdQ HO_10⟩, ⟨beQ HB⟩⟩
                   ·rw [if_neg c59] at H
                    have c59b0 : ((Go.bits .and .i64 x18_5 (rd t534 x19_5)) == 0) = false := beq_eq_false_iff_ne.mpr c59
                    have c59b1 : ((Go.bits .and .i64 x18_5 (rd t534 x19_5)) != 0) = true := bne_iff_ne.mpr c59
                    obtain rfl := Option.some.inj H
                    obtain ⟨Ao61, co61, eo61⟩ := Kd.R_slice HO_10.out; subst eo61
                    have p547 : 0 ≤ (x19_5 : Int) := of_decide_eq_true (by first | (with_reducible assumption) | assumption)
                    have q547 : x19_5 < (t534.length : Int) := of_decide_eq_true (by first | (with_reducible assumption) | assumption)
                    obtain ⟨ad547, e547, hx547_0⟩ := Kd.at_int (Kd.R_reads' HO_10.out).2.2 x19_5 p547 q547; cases e547; replace p547 := eq_true p547; replace q547 := eq_true q547
                    go_wp2
                    repeat (go_quiet (fail); try go_wp2)
                    go_ret
                    exact ⟨rz, beQ HB⟩
                  ·rw [if_neg c58] at H
                   exact absurd H (by simp)
                 ·rw [if_neg c57] at H
                  have c57b0 : decide (x19_5 < (t534.length : Int)) = false := decide_eq_false c57
                  clear c57
                  obtain ⟨ji62, hji62⟩ : ∃ j_ : Int, (IntKind.u64.wrap ((t518.length : Int))) = j_ := ⟨_, rfl⟩
                  replace H : (if 0 ≤ (ji62) then (some (x18_5 == (wrap64 ((shl .i64 1 (ji62)) - 1)))) else (none)) = some r := by first | (rw [hji62] at H; exact H) | (simp only [hji62] at H ⊢; exact H)
                  by_cases c63 : 0 ≤ (ji62)
                  ·rw [if_pos c63] at H
                   have c63b0 := eq_true c63
                   have c63b1 : decide (0 ≤ (ji62)) = true := decide_eq_true c63
                   clear c63
                   obtain ⟨ji64, hji64⟩ : ∃ j_ : Int, (shl .i64 1 (ji62)) = j_ := ⟨_, rfl⟩
                   replace H : (some (x18_5 == (wrap64 ((ji64) - 1)))) = some r := by first | (rw [hji64] at H; exact H) | (simp only [hji64] at H ⊢; exact H)
                   have hji64_ : (IntKind.i64.wrap (1 * 2 ^ min (ji62).toNat 64)) = ji64 := hji64
                   have hji64z : (ji62) ≤ 64 → (IntKind.i64.wrap (1 * 2 ^ (ji62).toNat)) = ji64 := shl_small hji64
                   have hji64u : (IntKind.i64.wrap (2 ^ min (ji62).toNat 64)) = ji64 := by have h_ := hji64_; rw [Int.one_mul] at h_; exact h_
                   have hji64v : (ji62) ≤ 64 → (IntKind.i64.wrap (2 ^ (ji62).toNat)) = ji64 := fun hle_ => by have h_ := hji64z hle_; rw [Int.one_mul] at h_; exact h_
                   have hji64y : (wrap64 (1 * 2 ^ min (ji62).toNat 64)) = ji64 := (i64_w _).symm.trans hji64_
                   have hji64x : (ji62) ≤ 64 → (wrap64 (1 * 2 ^ (ji62).toNat)) = ji64 := fun h_ => (i64_w _).symm.trans (hji64z h_)
                   obtain rfl := Option.some.inj H
                   obtain ⟨Ao65, co65, eo65⟩ := Kd.R_slice HO_10.out; subst eo65
                   go_wp2
                   repeat (go_quiet (fail); try go_wp2)
                   go_ret
                   exact ⟨by first | rfl | (simp [errW_none, errW_some] <;> rfl) | (simp only [← hji62, ← hji64]; first | rfl | (simp [errW_none, errW_some] <;> rfl)) | (simp [*, errW_none, errW_some] <;> rfl), beQ HB⟩
                  ·rw [if_neg c63] at H
                   exact absurd H (by simp)
     ·rw [if_neg c17] at H
      have c17b0 : (t522 == 0) = false := beq_eq_false_iff_ne.mpr c17
      have c17b1 : (t522 != 0) = true := bne_iff_ne.mpr c17
      obtain rfl := Option.some.inj H
      go_wp2
      repeat (go_quiet (fail); try go_wp2)
      go_ret
      exact ⟨rz, beQ HB⟩

end Go.Proofs.YtjckfnaohikmbaaDoor.G
