/- How the program's functions compute, function by function: each is told by a plain Lean function of the same answers, under the condition that this one answers. Written by a program of this project over the seat's translation; Lean checks it. -/
import Derived.Test.YtdbdlhjhacbjoaaDoorG0
import Derived.Test.YtdbdlhjhacbjoaaDoorGQ00
import Derived.Test.YtdbdlhjhacbjoaaDoorGQ02
namespace Go.Proofs.YtdbdlhjhacbjoaaDoor.G
open Go.RowKit Go.Proofs.YtdbdlhjhacbjoaaDoorW.PrintWords Go.Proofs.YtdbdlhjhacbjoaaDoorW.PrintLast Go.Proofs.YtdbdlhjhacbjoaaDoorW.PrintMore
attribute [local go_sem] max2_int min2_int max_two min_two max_three min_three max_four min_four   -- for this text's walks alone
set_option linter.unusedVariables false
set_option linter.unusedSimpArgs false

/-! ### laws_FnMasks: function 3 -/
mutual
def laws_FnMasks.j0 : Nat → Int → List Int → Bool → List Int → Int → Int → Option (Bool)
 | 0, _, _, _, _, _, _ => none
 | k + 1, x4, x5, x45, x128000, x128001, x128002 => if x45 = true then (some false) else (laws_FnMasks.l0 k x4 x5 0 x128000 x128001 x128002)
def laws_FnMasks.l0 : Nat → Int → List Int → Int → List Int → Int → Int → Option (Bool)
 | 0, _, _, _, _, _, _ => none
 | k + 1, x4, x5, x7, x128000, x128001, x128002 => if x7 < (x5.length : Int) then (if 0 ≤ x7 then (if 0 ≤ (IntKind.u64.wrap (rd x5 x7)) then (if (Go.bits .and .i64 (shr .i64 x4 (IntKind.u64.wrap (rd x5 x7))) 1) = 0 then (some false) else (if x7 > 0 then (if 0 ≤ (wrap64 (x7 - 1)) then (if (wrap64 (x7 - 1)) < (x5.length : Int) then (if (rd x5 x7) ≤ (rd x5 (wrap64 (x7 - 1))) then (some false) else (laws_FnMasks.l0 k x4 x5 (wrap64 (x7 + 1)) x128000 x128001 x128002)) else (none)) else (none)) else (laws_FnMasks.l0 k x4 x5 (wrap64 (x7 + 1)) x128000 x128001 x128002))) else (none)) else (none)) else (laws_FnMasks.l1 k x4 x5 (([] : List Int)) (wrap64 ((x5.length : Int) - 1)) x128000 x128001 x128002)
def laws_FnMasks.l1 : Nat → Int → List Int → List Int → Int → List Int → Int → Int → Option (Bool)
 | 0, _, _, _, _, _, _, _ => none
 | k + 1, x4, x5, x8, x9, x128000, x128001, x128002 => if x9 ≥ 0 then (if 0 ≤ x9 then (if x9 < (x5.length : Int) then (if x8.length < 17592186044416 then ((some (x8 ++ [rd x5 x9] : List Int)).bind fun y150 => ((laws_dice_below.f x128000 x128001 x128002 3).bind fun bt153 => (if bt153.1 = 0 then ((laws_dice_below.f x128000 bt153.2.1 bt153.2.2 (x5.length : Int)).bind fun bt156 => (if 0 ≤ bt156.1 then (if bt156.1 < (x5.length : Int) then (if y150.length < 17592186044416 then (laws_FnMasks.l1 k x4 x5 (y150 ++ [rd x5 bt156.1]) (wrap64 (x9 - 1)) x128000 bt156.2.1 bt156.2.2) else (none)) else (none)) else (none))) else (laws_FnMasks.l1 k x4 x5 y150 (wrap64 (x9 - 1)) x128000 bt153.2.1 bt153.2.2)))) else (none)) else (none)) else (none)) else ((impl_MaskOf.f k x8).bind fun bt147 => (if bt147.2 = 0 then (some (bt147.1 == x4)) else (some false)))
end
def laws_FnMasks.f (k : Nat) (l0 : List Int) : Option (Bool) := (laws_big.f l0).bind fun t123 => (if t123 = true then (some true) else ((laws_roll.f k l0 502).bind fun bt124 => ((laws_dice_below.f bt124.1 bt124.2.1 bt124.2.2 4096).bind fun bt128 => ((laws_dice_below.f bt124.1 bt128.2.1 bt128.2.2 4096).bind fun bt131 => ((impl_MembersOf.f k (wrap64 ((wrap64 (bt128.1 * 4096)) + bt131.1))).bind fun bt134 => (if bt134.2 = 0 then ((laws_bits5.f k (wrap64 ((wrap64 (bt128.1 * 4096)) + bt131.1))).bind fun t138 => (if (bt134.1.length : Int) = t138 then ((impl_IsMask.f (wrap64 ((wrap64 (bt128.1 * 4096)) + bt131.1)) 24).bind fun t139 => (if t139 = true then ((impl_IsMask.f (Go.bits .or .i64 (wrap64 ((wrap64 (bt128.1 * 4096)) + bt131.1)) 16777216) 24).bind fun t140 => (laws_FnMasks.j0 k (wrap64 ((wrap64 (bt128.1 * 4096)) + bt131.1)) bt134.1 t140 bt124.1 bt131.2.1 bt131.2.2)) else (laws_FnMasks.j0 k (wrap64 ((wrap64 (bt128.1 * 4096)) + bt131.1)) bt134.1 true bt124.1 bt131.2.1 bt131.2.2))) else (laws_FnMasks.j0 k (wrap64 ((wrap64 (bt128.1 * 4096)) + bt131.1)) bt134.1 true bt124.1 bt131.2.1 bt131.2.2))) else (laws_FnMasks.j0 k (wrap64 ((wrap64 (bt128.1 * 4096)) + bt131.1)) bt134.1 true bt124.1 bt131.2.1 bt131.2.2)))))))
theorem laws_FnMasks.mono_l : ∀ k, (∀ y0 y1 y2 y3 y4 y5, LeO (laws_FnMasks.j0 k y0 y1 y2 y3 y4 y5) (laws_FnMasks.j0 (k + 1) y0 y1 y2 y3 y4 y5)) ∧ (∀ y0 y1 y2 y3 y4 y5, LeO (laws_FnMasks.l0 k y0 y1 y2 y3 y4 y5) (laws_FnMasks.l0 (k + 1) y0 y1 y2 y3 y4 y5)) ∧ (∀ y0 y1 y2 y3 y4 y5 y6, LeO (laws_FnMasks.l1 k y0 y1 y2 y3 y4 y5 y6) (laws_FnMasks.l1 (k + 1) y0 y1 y2 y3 y4 y5 y6))
 | 0 => ⟨fun _ _ _ _ _ _ r h => by simp [laws_FnMasks.j0] at h, fun _ _ _ _ _ _ r h => by simp [laws_FnMasks.l0] at h, fun _ _ _ _ _ _ _ r h => by simp [laws_FnMasks.l1] at h⟩
 | k + 1 => by
  obtain ⟨ih0, ih1, ih2⟩ := laws_FnMasks.mono_l k
  refine ⟨?_, ?_, ?_⟩
  ·intro y0 y1 y2 y3 y4 y5
   unfold laws_FnMasks.j0
   repeat' first
   | (with_reducible exact ih0 _ _ _ _ _ _)
   | (with_reducible exact ih1 _ _ _ _ _ _)
   | (with_reducible exact ih2 _ _ _ _ _ _ _)
   | (with_reducible exact impl_MaskOf.mono _ _)
   | (with_reducible exact impl_MembersOf.mono _ _)
   | (with_reducible exact laws_bits5.mono _ _)
   | (with_reducible exact laws_roll.mono _ _ _)
   | (with_reducible exact LeO.refl _)
   | (with_reducible exact LeO.none _)
   | (with_reducible refine LeO.ite ?_ ?_)
   | (with_reducible refine LeO.bind ?_ (fun _ => ?_))
   | exact ih0 _ _ _ _ _ _
   | exact ih1 _ _ _ _ _ _
   | exact ih2 _ _ _ _ _ _ _
   | exact impl_MaskOf.mono _ _
   | exact impl_MembersOf.mono _ _
   | exact laws_bits5.mono _ _
   | exact laws_roll.mono _ _ _
   | exact LeO.none _
   | refine LeO.ite ?_ ?_
   | refine LeO.bind ?_ (fun _ => ?_)
  ·intro y0 y1 y2 y3 y4 y5
   unfold laws_FnMasks.l0
   repeat' first
   | (with_reducible exact ih0 _ _ _ _ _ _)
   | (with_reducible exact ih1 _ _ _ _ _ _)
   | (with_reducible exact ih2 _ _ _ _ _ _ _)
   | (with_reducible exact impl_MaskOf.mono _ _)
   | (with_reducible exact impl_MembersOf.mono _ _)
   | (with_reducible exact laws_bits5.mono _ _)
   | (with_reducible exact laws_roll.mono _ _ _)
   | (with_reducible exact LeO.refl _)
   | (with_reducible exact LeO.none _)
   | (with_reducible refine LeO.ite ?_ ?_)
   | (with_reducible refine LeO.bind ?_ (fun _ => ?_))
   | exact ih0 _ _ _ _ _ _
   | exact ih1 _ _ _ _ _ _
   | exact ih2 _ _ _ _ _ _ _
   | exact impl_MaskOf.mono _ _
   | exact impl_MembersOf.mono _ _
   | exact laws_bits5.mono _ _
   | exact laws_roll.mono _ _ _
   | exact LeO.none _
   | refine LeO.ite ?_ ?_
   | refine LeO.bind ?_ (fun _ => ?_)
  ·intro y0 y1 y2 y3 y4 y5 y6
   unfold laws_FnMasks.l1
   repeat' first
   | (with_reducible exact ih0 _ _ _ _ _ _)
   | (with_reducible exact ih1 _ _ _ _ _ _)
   | (with_reducible exact ih2 _ _ _ _ _ _ _)
   | (with_reducible exact impl_MaskOf.mono _ _)
   | (with_reducible exact impl_MembersOf.mono _ _)
   | (with_reducible exact laws_bits5.mono _ _)
   | (with_reducible exact laws_roll.mono _ _ _)
   | (with_reducible exact LeO.refl _)
   | (with_reducible exact LeO.none _)
   | (with_reducible refine LeO.ite ?_ ?_)
   | (with_reducible refine LeO.bind ?_ (fun _ => ?_))
   | exact ih0 _ _ _ _ _ _
   | exact ih1 _ _ _ _ _ _
   | exact ih2 _ _ _ _ _ _ _
   | exact impl_MaskOf.mono _ _
   | exact impl_MembersOf.mono _ _
   | exact laws_bits5.mono _ _
   | exact laws_roll.mono _ _ _
   | exact LeO.none _
   | refine LeO.ite ?_ ?_
   | refine LeO.bind ?_ (fun _ => ?_)
theorem laws_FnMasks.mono : ∀ a0 k, LeO (laws_FnMasks.f k a0) (laws_FnMasks.f (k + 1) a0) := by
 intro a0 k
 obtain ⟨ih0, ih1, ih2⟩ := laws_FnMasks.mono_l k
 unfold laws_FnMasks.f
 repeat' first
   | (with_reducible exact ih0 _ _ _ _ _ _)
   | (with_reducible exact ih1 _ _ _ _ _ _)
   | (with_reducible exact ih2 _ _ _ _ _ _ _)
   | (with_reducible exact impl_MaskOf.mono _ _)
   | (with_reducible exact impl_MembersOf.mono _ _)
   | (with_reducible exact laws_bits5.mono _ _)
   | (with_reducible exact laws_roll.mono _ _ _)
   | (with_reducible exact LeO.refl _)
   | (with_reducible exact LeO.none _)
   | (with_reducible refine LeO.ite ?_ ?_)
   | (with_reducible refine LeO.bind ?_ (fun _ => ?_))
   | exact ih0 _ _ _ _ _ _
   | exact ih1 _ _ _ _ _ _
   | exact ih2 _ _ _ _ _ _ _
   | exact impl_MaskOf.mono _ _
   | exact impl_MembersOf.mono _ _
   | exact laws_bits5.mono _ _
   | exact laws_roll.mono _ _ _
   | exact LeO.none _
   | refine LeO.ite ?_ ?_
   | refine LeO.bind ?_ (fun _ => ?_)
set_option maxHeartbeats 8000000 in
set_option maxRecDepth 100000 in
theorem laws_FnMasks.calls (k : Nat) (A0 : Option Addr) (c0 : Nat) (l0 : List Int) (r : Bool) (w : World) (hr0 : Kd.C (Kd.int .u8) w A0 l0.length l0) (hc0 : l0.length ≤ c0) (hT : TabW w) (h : laws_FnMasks.f k l0 = some r) :
  Calls Tryd.prog 3 #[.slice A0 l0.length c0] w fun e w' => e = .returned (.bool r) ∧ Below w.heap.size w w' := by
 have HT := Aside0.mk hT; clear hT; have HR0 := Aside0.mk hr0; have HC0 := Aside0.mk hc0; clear hr0 hc0; have HB := Aside0.mk (Below.refl w.heap.size w)
 have H : ((laws_big.f l0).bind fun t123 => (if t123 = true then (some true) else ((laws_roll.f k l0 502).bind fun bt124 => ((laws_dice_below.f bt124.1 bt124.2.1 bt124.2.2 4096).bind fun bt128 => ((laws_dice_below.f bt124.1 bt128.2.1 bt128.2.2 4096).bind fun bt131 => ((impl_MembersOf.f k (wrap64 ((wrap64 (bt128.1 * 4096)) + bt131.1))).bind fun bt134 => (if bt134.2 = 0 then ((laws_bits5.f k (wrap64 ((wrap64 (bt128.1 * 4096)) + bt131.1))).bind fun t138 => (if (bt134.1.length : Int) = t138 then ((impl_IsMask.f (wrap64 ((wrap64 (bt128.1 * 4096)) + bt131.1)) 24).bind fun t139 => (if t139 = true then ((impl_IsMask.f (Go.bits .or .i64 (wrap64 ((wrap64 (bt128.1 * 4096)) + bt131.1)) 16777216) 24).bind fun t140 => (laws_FnMasks.j0 k (wrap64 ((wrap64 (bt128.1 * 4096)) + bt131.1)) bt134.1 t140 bt124.1 bt131.2.1 bt131.2.2)) else (laws_FnMasks.j0 k (wrap64 ((wrap64 (bt128.1 * 4096)) + bt131.1)) bt134.1 true bt124.1 bt131.2.1 bt131.2.2))) else (laws_FnMasks.j0 k (wrap64 ((wrap64 (bt128.1 * 4096)) + bt131.1)) bt134.1 true bt124.1 bt131.2.1 bt131.2.2))) else (laws_FnMasks.j0 k (wrap64 ((wrap64 (bt128.1 * 4096)) + bt131.1)) bt134.1 true bt124.1 bt131.2.1 bt131.2.2)))))))) = some r := h
 clear h; replace H := Option.bind_eq_some_iff.mp H; obtain ⟨t123, A20, H⟩ := H
 replace H : (if t123 = true then (some true) else ((laws_roll.f k l0 502).bind fun bt124 => ((laws_dice_below.f bt124.1 bt124.2.1 bt124.2.2 4096).bind fun bt128 => ((laws_dice_below.f bt124.1 bt128.2.1 bt128.2.2 4096).bind fun bt131 => ((impl_MembersOf.f k (wrap64 ((wrap64 (bt128.1 * 4096)) + bt131.1))).bind fun bt134 => (if bt134.2 = 0 then ((laws_bits5.f k (wrap64 ((wrap64 (bt128.1 * 4096)) + bt131.1))).bind fun t138 => (if (bt134.1.length : Int) = t138 then ((impl_IsMask.f (wrap64 ((wrap64 (bt128.1 * 4096)) + bt131.1)) 24).bind fun t139 => (if t139 = true then ((impl_IsMask.f (Go.bits .or .i64 (wrap64 ((wrap64 (bt128.1 * 4096)) + bt131.1)) 16777216) 24).bind fun t140 => (laws_FnMasks.j0 k (wrap64 ((wrap64 (bt128.1 * 4096)) + bt131.1)) bt134.1 t140 bt124.1 bt131.2.1 bt131.2.2)) else (laws_FnMasks.j0 k (wrap64 ((wrap64 (bt128.1 * 4096)) + bt131.1)) bt134.1 true bt124.1 bt131.2.1 bt131.2.2))) else (laws_FnMasks.j0 k (wrap64 ((wrap64 (bt128.1 * 4096)) + bt131.1)) bt134.1 true bt124.1 bt131.2.1 bt131.2.2))) else (laws_FnMasks.j0 k (wrap64 ((wrap64 (bt128.1 * 4096)) + bt131.1)) bt134.1 true bt124.1 bt131.2.1 bt131.2.2))))))) = some r := H
 have A2 := Aside0.mk A20; clear A20
 by_cases c3 : t123 = true
 ·subst c3
  have H1 : (some true) = some r := by rw [if_pos rfl] at H; exact H
  clear H; have H := H1; clear H1
  obtain rfl := Option.some.inj H
  go_enter Tryd.func3, Tryd.ntmps3
  go_wp2_with (first | (go_at_call 13; (with_reducible refine (laws_big.calls _ _ l0 true _ ?side1 ?side2 A2.out).mono ?_); (case side1 => have q_ := Aside0.mk HR0.out; exact cQ q_); (case side2 => exact HC0.out); rintro e w' ⟨rfl, ⟨nd, rfl⟩⟩; (try first | exact ⟨rfl, _, World.drewN_drewN _ _ _⟩ | exact ⟨rfl, _, Eq.trans (World.drewN_drewN _ _ _) (congrArg (World.drewN _) (Nat.add_assoc _ _ _))⟩)))
  repeat (go_quiet (first | (go_at_call 13; (with_reducible refine (laws_big.calls _ _ l0 true _ ?side1 ?side2 A2.out).mono ?_); (case side1 => have q_ := Aside0.mk HR0.out; exact cQ q_); (case side2 => exact HC0.out); rintro e w' ⟨rfl, ⟨nd, rfl⟩⟩; (try first | exact ⟨rfl, _, World.drewN_drewN _ _ _⟩ | exact ⟨rfl, _, Eq.trans (World.drewN_drewN _ _ _) (congrArg (World.drewN _) (Nat.add_assoc _ _ _))⟩))); try go_wp2_with (first | (go_at_call 13; (with_reducible refine (laws_big.calls _ _ l0 true _ ?side1 ?side2 A2.out).mono ?_); (case side1 => have q_ := Aside0.mk HR0.out; exact cQ q_); (case side2 => exact HC0.out); rintro e w' ⟨rfl, ⟨nd, rfl⟩⟩; (try first | exact ⟨rfl, _, World.drewN_drewN _ _ _⟩ | exact ⟨rfl, _, Eq.trans (World.drewN_drewN _ _ _) (congrArg (World.drewN _) (Nat.add_assoc _ _ _))⟩))))
  go_ret
  exact ⟨rz, beQ HB⟩
 ·replace c3 := Bool.eq_false_iff.mpr c3
  subst c3
  have H1 : ((laws_roll.f k l0 502).bind fun bt124 => ((laws_dice_below.f bt124.1 bt124.2.1 bt124.2.2 4096).bind fun bt128 => ((laws_dice_below.f bt124.1 bt128.2.1 bt128.2.2 4096).bind fun bt131 => ((impl_MembersOf.f k (wrap64 ((wrap64 (bt128.1 * 4096)) + bt131.1))).bind fun bt134 => (if bt134.2 = 0 then ((laws_bits5.f k (wrap64 ((wrap64 (bt128.1 * 4096)) + bt131.1))).bind fun t138 => (if (bt134.1.length : Int) = t138 then ((impl_IsMask.f (wrap64 ((wrap64 (bt128.1 * 4096)) + bt131.1)) 24).bind fun t139 => (if t139 = true then ((impl_IsMask.f (Go.bits .or .i64 (wrap64 ((wrap64 (bt128.1 * 4096)) + bt131.1)) 16777216) 24).bind fun t140 => (laws_FnMasks.j0 k (wrap64 ((wrap64 (bt128.1 * 4096)) + bt131.1)) bt134.1 t140 bt124.1 bt131.2.1 bt131.2.2)) else (laws_FnMasks.j0 k (wrap64 ((wrap64 (bt128.1 * 4096)) + bt131.1)) bt134.1 true bt124.1 bt131.2.1 bt131.2.2))) else (laws_FnMasks.j0 k (wrap64 ((wrap64 (bt128.1 * 4096)) + bt131.1)) bt134.1 true bt124.1 bt131.2.1 bt131.2.2))) else (laws_FnMasks.j0 k (wrap64 ((wrap64 (bt128.1 * 4096)) + bt131.1)) bt134.1 true bt124.1 bt131.2.1 bt131.2.2)))))) = some r := by rw [if_neg (show ¬ (false = true) by decide)] at H; exact H
  clear H; have H := H1; clear H1; replace H := Option.bind_eq_some_iff.mp H
  obtain ⟨⟨t124, t125, t126⟩, A40, H⟩ := H
  replace H : ((laws_dice_below.f t124 t125 t126 4096).bind fun bt128 => ((laws_dice_below.f t124 bt128.2.1 bt128.2.2 4096).bind fun bt131 => ((impl_MembersOf.f k (wrap64 ((wrap64 (bt128.1 * 4096)) + bt131.1))).bind fun bt134 => (if bt134.2 = 0 then ((laws_bits5.f k (wrap64 ((wrap64 (bt128.1 * 4096)) + bt131.1))).bind fun t138 => (if (bt134.1.length : Int) = t138 then ((impl_IsMask.f (wrap64 ((wrap64 (bt128.1 * 4096)) + bt131.1)) 24).bind fun t139 => (if t139 = true then ((impl_IsMask.f (Go.bits .or .i64 (wrap64 ((wrap64 (bt128.1 * 4096)) + bt131.1)) 16777216) 24).bind fun t140 => (laws_FnMasks.j0 k (wrap64 ((wrap64 (bt128.1 * 4096)) + bt131.1)) bt134.1 t140 t124 bt131.2.1 bt131.2.2)) else (laws_FnMasks.j0 k (wrap64 ((wrap64 (bt128.1 * 4096)) + bt131.1)) bt134.1 true t124 bt131.2.1 bt131.2.2))) else (laws_FnMasks.j0 k (wrap64 ((wrap64 (bt128.1 * 4096)) + bt131.1)) bt134.1 true t124 bt131.2.1 bt131.2.2))) else (laws_FnMasks.j0 k (wrap64 ((wrap64 (bt128.1 * 4096)) + bt131.1)) bt134.1 true t124 bt131.2.1 bt131.2.2))))) = some r := H
  have A4 := Aside0.mk A40; clear A40; replace H := Option.bind_eq_some_iff.mp H
  obtain ⟨⟨t128, t129, t130⟩, A50, H⟩ := H
  replace H : ((laws_dice_below.f t124 t129 t130 4096).bind fun bt131 => ((impl_MembersOf.f k (wrap64 ((wrap64 (t128 * 4096)) + bt131.1))).bind fun bt134 => (if bt134.2 = 0 then ((laws_bits5.f k (wrap64 ((wrap64 (t128 * 4096)) + bt131.1))).bind fun t138 => (if (bt134.1.length : Int) = t138 then ((impl_IsMask.f (wrap64 ((wrap64 (t128 * 4096)) + bt131.1)) 24).bind fun t139 => (if t139 = true then ((impl_IsMask.f (Go.bits .or .i64 (wrap64 ((wrap64 (t128 * 4096)) + bt131.1)) 16777216) 24).bind fun t140 => (laws_FnMasks.j0 k (wrap64 ((wrap64 (t128 * 4096)) + bt131.1)) bt134.1 t140 t124 bt131.2.1 bt131.2.2)) else (laws_FnMasks.j0 k (wrap64 ((wrap64 (t128 * 4096)) + bt131.1)) bt134.1 true t124 bt131.2.1 bt131.2.2))) else (laws_FnMasks.j0 k (wrap64 ((wrap64 (t128 * 4096)) + bt131.1)) bt134.1 true t124 bt131.2.1 bt131.2.2))) else (laws_FnMasks.j0 k (wrap64 ((wrap64 (t128 * 4096)) + bt131.1)) bt134.1 true t124 bt131.2.1 bt131.2.2)))) = some r := H
  have A5 := Aside0.mk A50; clear A50; replace H := Option.bind_eq_some_iff.mp H
  obtain ⟨⟨t131, t132, t133⟩, A60, H⟩ := H
  replace H : ((impl_MembersOf.f k (wrap64 ((wrap64 (t128 * 4096)) + t131))).bind fun bt134 => (if bt134.2 = 0 then ((laws_bits5.f k (wrap64 ((wrap64 (t128 * 4096)) + t131))).bind fun t138 => (if (bt134.1.length : Int) = t138 then ((impl_IsMask.f (wrap64 ((wrap64 (t128 * 4096)) + t131)) 24).bind fun t139 => (if t139 = true then ((impl_IsMask.f (Go.bits .or .i64 (wrap64 ((wrap64 (t128 * 4096)) + t131)) 16777216) 24).bind fun t140 => (laws_FnMasks.j0 k (wrap64 ((wrap64 (t128 * 4096)) + t131)) bt134.1 t140 t124 t132 t133)) else (laws_FnMasks.j0 k (wrap64 ((wrap64 (t128 * 4096)) + t131)) bt134.1 true t124 t132 t133))) else (laws_FnMasks.j0 k (wrap64 ((wrap64 (t128 * 4096)) + t131)) bt134.1 true t124 t132 t133))) else (laws_FnMasks.j0 k (wrap64 ((wrap64 (t128 * 4096)) + t131)) bt134.1 true t124 t132 t133))) = some r := H
  have A6 := Aside0.mk A60; clear A60; replace H := Option.bind_eq_some_iff.mp H
  obtain ⟨⟨t134, t135⟩, A70, H⟩ := H
  replace H : (if t135 = 0 then ((laws_bits5.f k (wrap64 ((wrap64 (t128 * 4096)) + t131))).bind fun t138 => (if (t134.length : Int) = t138 then ((impl_IsMask.f (wrap64 ((wrap64 (t128 * 4096)) + t131)) 24).bind fun t139 => (if t139 = true then ((impl_IsMask.f (Go.bits .or .i64 (wrap64 ((wrap64 (t128 * 4096)) + t131)) 16777216) 24).bind fun t140 => (laws_FnMasks.j0 k (wrap64 ((wrap64 (t128 * 4096)) + t131)) t134 t140 t124 t132 t133)) else (laws_FnMasks.j0 k (wrap64 ((wrap64 (t128 * 4096)) + t131)) t134 true t124 t132 t133))) else (laws_FnMasks.j0 k (wrap64 ((wrap64 (t128 * 4096)) + t131)) t134 true t124 t132 t133))) else (laws_FnMasks.j0 k (wrap64 ((wrap64 (t128 * 4096)) + t131)) t134 true t124 t132 t133)) = some r := H
  have A7 := Aside0.mk A70; clear A70; have HC8 := Aside0.mk H; clear H
  go_enter Tryd.func3, Tryd.ntmps3
  go_upto_region 6 with (first | (go_at_call 13; (with_reducible refine (laws_big.calls _ _ l0 false _ ?side1 ?side2 A2.out).mono ?_); (case side1 => have q_ := Aside0.mk HR0.out; exact cQ q_); (case side2 => exact HC0.out); rintro e w' ⟨rfl, ⟨nd, rfl⟩⟩; (try first | exact ⟨rfl, _, World.drewN_drewN _ _ _⟩ | exact ⟨rfl, _, Eq.trans (World.drewN_drewN _ _ _) (congrArg (World.drewN _) (Nat.add_assoc _ _ _))⟩)) | (go_at_call 14; (with_reducible refine (laws_roll.calls k _ _ l0 502 t124 t125 t126 w _ ?side1 ?side2 ?side3 A4.out).mono ?_); (case side1 => repeat (first | (with_reducible first | exact HB.out | apply below_alloc | apply pw_below_drewN | apply below_drew1) | exact HB.out)); (case side2 => exact HR0.out); (case side3 => exact HC0.out); rintro e w9 ⟨g127, rfl, hi, hb, hb2⟩; replace HB := Aside0.mk (hb); have HI127 := Aside0.mk (hi); (try clear hb); (try clear hb2); (try clear hk); (try clear hi)) | (go_at_call 15; (with_reducible refine (laws_dice_below.calls g127 t124 t125 t126 4096 t128 t129 t130 w _ ?side1 ?side2 A5.out).mono ?_); (case side1 => repeat (first | (with_reducible first | exact HI127.out | apply IsS58.alloc | apply IsS58.drewN | apply IsS58.drew | apply IsS58.set_1 | apply IsS58.set_2) | exact HI127.out)); (case side2 => repeat (first | (with_reducible first | exact HB.out | apply below_alloc | apply pw_below_drewN | apply below_drew1 | refine below_set ?_ (IsS58.ge HI127.out)) | exact HB.out)); rintro e w10 ⟨rfl, hi, hb, hk⟩; replace HB := Aside0.mk (hb); replace HI127 := Aside0.mk (hi); (try clear hb); (try clear hb2); (try clear hk); (try clear hi)) | (go_at_call 15; (with_reducible refine (laws_dice_below.calls g127 t124 t129 t130 4096 t131 t132 t133 w _ ?side1 ?side2 A6.out).mono ?_); (case side1 => repeat (first | (with_reducible first | exact HI127.out | apply IsS58.alloc | apply IsS58.drewN | apply IsS58.drew | apply IsS58.set_1 | apply IsS58.set_2) | exact HI127.out)); (case side2 => repeat (first | (with_reducible first | exact HB.out | apply below_alloc | apply pw_below_drewN | apply below_drew1 | refine below_set ?_ (IsS58.ge HI127.out)) | exact HB.out)); rintro e w11 ⟨rfl, hi, hb, hk⟩; replace HB := Aside0.mk (hb); replace HI127 := Aside0.mk (hi); (try clear hb); (try clear hb2); (try clear hk); (try clear hi)) | (go_at_call 16; (with_reducible refine (impl_MembersOf.calls k (wrap64 ((wrap64 (t128 * 4096)) + t131)) t134 t135 _ ?side1 A7.out).mono ?_); (case side1 => exact TabW.below HT.out (by repeat (first | (with_reducible first | exact HB.out | apply below_alloc | apply pw_below_drewN | apply below_drew1 | refine below_set ?_ (IsS58.ge HI127.out)) | exact HB.out))); rintro e w12 ⟨v136, rfl, ho0, hb⟩; have HO137 := Aside0.mk (Kd.R_lower ho0 (below_size (by repeat (first | (with_reducible first | exact HB.out | apply below_alloc | apply pw_below_drewN | apply below_drew1 | refine below_set ?_ (IsS58.ge HI127.out)) | exact HB.out)))); replace HB := Aside0.mk (below_step (by repeat (first | (with_reducible first | exact HB.out | apply below_alloc | apply pw_below_drewN | apply below_drew1 | refine below_set ?_ (IsS58.ge HI127.out)) | exact HB.out)) hb); replace HI127 := Aside0.mk (IsS58.below (by repeat (first | (with_reducible first | exact HI127.out | apply IsS58.alloc | apply IsS58.drewN | apply IsS58.drew | apply IsS58.set_1 | apply IsS58.set_2) | exact HI127.out)) hb); (try clear hb); (try clear hb2); (try clear hk); (try clear hi); (try clear ho0)))
  repeat (go_quiet (first | (go_at_call 13; (with_reducible refine (laws_big.calls _ _ l0 false _ ?side1 ?side2 A2.out).mono ?_); (case side1 => have q_ := Aside0.mk HR0.out; exact cQ q_); (case side2 => exact HC0.out); rintro e w' ⟨rfl, ⟨nd, rfl⟩⟩; (try first | exact ⟨rfl, _, World.drewN_drewN _ _ _⟩ | exact ⟨rfl, _, Eq.trans (World.drewN_drewN _ _ _) (congrArg (World.drewN _) (Nat.add_assoc _ _ _))⟩)) | (go_at_call 14; (with_reducible refine (laws_roll.calls k _ _ l0 502 t124 t125 t126 w _ ?side1 ?side2 ?side3 A4.out).mono ?_); (case side1 => repeat (first | (with_reducible first | exact HB.out | apply below_alloc | apply pw_below_drewN | apply below_drew1) | exact HB.out)); (case side2 => exact HR0.out); (case side3 => exact HC0.out); rintro e w9 ⟨g127, rfl, hi, hb, hb2⟩; replace HB := Aside0.mk (hb); have HI127 := Aside0.mk (hi); (try clear hb); (try clear hb2); (try clear hk); (try clear hi)) | (go_at_call 15; (with_reducible refine (laws_dice_below.calls g127 t124 t125 t126 4096 t128 t129 t130 w _ ?side1 ?side2 A5.out).mono ?_); (case side1 => repeat (first | (with_reducible first | exact HI127.out | apply IsS58.alloc | apply IsS58.drewN | apply IsS58.drew | apply IsS58.set_1 | apply IsS58.set_2) | exact HI127.out)); (case side2 => repeat (first | (with_reducible first | exact HB.out | apply below_alloc | apply pw_below_drewN | apply below_drew1 | refine below_set ?_ (IsS58.ge HI127.out)) | exact HB.out)); rintro e w10 ⟨rfl, hi, hb, hk⟩; replace HB := Aside0.mk (hb); replace HI127 := Aside0.mk (hi); (try clear hb); (try clear hb2); (try clear hk); (try clear hi)) | (go_at_call 15; (with_reducible refine (laws_dice_below.calls g127 t124 t129 t130 4096 t131 t132 t133 w _ ?side1 ?side2 A6.out).mono ?_); (case side1 => repeat (first | (with_reducible first | exact HI127.out | apply IsS58.alloc | apply IsS58.drewN | apply IsS58.drew | apply IsS58.set_1 | apply IsS58.set_2) | exact HI127.out)); (case side2 => repeat (first | (with_reducible first | exact HB.out | apply below_alloc | apply pw_below_drewN | apply below_drew1 | refine below_set ?_ (IsS58.ge HI127.out)) | exact HB.out)); rintro e w11 ⟨rfl, hi, hb, hk⟩; replace HB := Aside0.mk (hb); replace HI127 := Aside0.mk (hi); (try clear hb); (try clear hb2); (try clear hk); (try clear hi)) | (go_at_call 16; (with_reducible refine (impl_MembersOf.calls k (wrap64 ((wrap64 (t128 * 4096)) + t131)) t134 t135 _ ?side1 A7.out).mono ?_); (case side1 => exact TabW.below HT.out (by repeat (first | (with_reducible first | exact HB.out | apply below_alloc | apply pw_below_drewN | apply below_drew1 | refine below_set ?_ (IsS58.ge HI127.out)) | exact HB.out))); rintro e w12 ⟨v136, rfl, ho0, hb⟩; have HO137 := Aside0.mk (Kd.R_lower ho0 (below_size (by repeat (first | (with_reducible first | exact HB.out | apply below_alloc | apply pw_below_drewN | apply below_drew1 | refine below_set ?_ (IsS58.ge HI127.out)) | exact HB.out)))); replace HB := Aside0.mk (below_step (by repeat (first | (with_reducible first | exact HB.out | apply below_alloc | apply pw_below_drewN | apply below_drew1 | refine below_set ?_ (IsS58.ge HI127.out)) | exact HB.out)) hb); replace HI127 := Aside0.mk (IsS58.below (by repeat (first | (with_reducible first | exact HI127.out | apply IsS58.alloc | apply IsS58.drewN | apply IsS58.drew | apply IsS58.set_1 | apply IsS58.set_2) | exact HI127.out)) hb); (try clear hb); (try clear hb2); (try clear hk); (try clear hi); (try clear ho0))); go_upto_region 6 with (first | (go_at_call 13; (with_reducible refine (laws_big.calls _ _ l0 false _ ?side1 ?side2 A2.out).mono ?_); (case side1 => have q_ := Aside0.mk HR0.out; exact cQ q_); (case side2 => exact HC0.out); rintro e w' ⟨rfl, ⟨nd, rfl⟩⟩; (try first | exact ⟨rfl, _, World.drewN_drewN _ _ _⟩ | exact ⟨rfl, _, Eq.trans (World.drewN_drewN _ _ _) (congrArg (World.drewN _) (Nat.add_assoc _ _ _))⟩)) | (go_at_call 14; (with_reducible refine (laws_roll.calls k _ _ l0 502 t124 t125 t126 w _ ?side1 ?side2 ?side3 A4.out).mono ?_); (case side1 => repeat (first | (with_reducible first | exact HB.out | apply below_alloc | apply pw_below_drewN | apply below_drew1) | exact HB.out)); (case side2 => exact HR0.out); (case side3 => exact HC0.out); rintro e w9 ⟨g127, rfl, hi, hb, hb2⟩; replace HB := Aside0.mk (hb); have HI127 := Aside0.mk (hi); (try clear hb); (try clear hb2); (try clear hk); (try clear hi)) | (go_at_call 15; (with_reducible refine (laws_dice_below.calls g127 t124 t125 t126 4096 t128 t129 t130 w _ ?side1 ?side2 A5.out).mono ?_); (case side1 => repeat (first | (with_reducible first | exact HI127.out | apply IsS58.alloc | apply IsS58.drewN | apply IsS58.drew | apply IsS58.set_1 | apply IsS58.set_2) | exact HI127.out)); (case side2 => repeat (first | (with_reducible first | exact HB.out | apply below_alloc | apply pw_below_drewN | apply below_drew1 | refine below_set ?_ (IsS58.ge HI127.out)) | exact HB.out)); rintro e w10 ⟨rfl, hi, hb, hk⟩; replace HB := Aside0.mk (hb); replace HI127 := Aside0.mk (hi); (try clear hb); (try clear hb2); (try clear hk); (try clear hi)) | (go_at_call 15; (with_reducible refine (laws_dice_below.calls g127 t124 t129 t130 4096 t131 t132 t133 w _ ?side1 ?side2 A6.out).mono ?_); (case side1 => repeat (first | (with_reducible first | exact HI127.out | apply IsS58.alloc | apply IsS58.drewN | apply IsS58.drew | apply IsS58.set_1 | apply IsS58.set_2) | exact HI127.out)); (case side2 => repeat (first | (with_reducible first | exact HB.out | apply below_alloc | apply pw_below_drewN | apply below_drew1 | refine below_set ?_ (IsS58.ge HI127.out)) | exact HB.out)); rintro e w11 ⟨rfl, hi, hb, hk⟩; replace HB := Aside0.mk (hb); replace HI127 := Aside0.mk (hi); (try clear hb); (try clear hb2); (try clear hk); (try clear hi)) | (go_at_call 16; (with_reducible refine (impl_MembersOf.calls k (wrap64 ((wrap64 (t128 * 4096)) + t131)) t134 t135 _ ?side1 A7.out).mono ?_); (case side1 => exact TabW.below HT.out (by repeat (first | (with_reducible first | exact HB.out | apply below_alloc | apply pw_below_drewN | apply below_drew1 | refine below_set ?_ (IsS58.ge HI127.out)) | exact HB.out))); rintro e w12 ⟨v136, rfl, ho0, hb⟩; have HO137 := Aside0.mk (Kd.R_lower ho0 (below_size (by repeat (first | (with_reducible first | exact HB.out | apply below_alloc | apply pw_below_drewN | apply below_drew1 | refine below_set ?_ (IsS58.ge HI127.out)) | exact HB.out)))); replace HB := Aside0.mk (below_step (by repeat (first | (with_reducible first | exact HB.out | apply below_alloc | apply pw_below_drewN | apply below_drew1 | refine below_set ?_ (IsS58.ge HI127.out)) | exact HB.out)) hb); replace HI127 := Aside0.mk (IsS58.below (by repeat (first | (with_reducible first | exact HI127.out | apply IsS58.alloc | apply IsS58.drewN | apply IsS58.drew | apply IsS58.set_1 | apply IsS58.set_2) | exact HI127.out)) hb); (try clear hb); (try clear hb2); (try clear hk); (try clear hi); (try clear ho0))))
  (try simp only [Act.put, List.setIfInBounds_toArray, List.set_cons_zero, List.set_cons_succ])
  go_cut [45] (fun v45 wc => ∃ (kq : Nat) (x45_7 : Bool), v45 = .bool x45_7 ∧ Aside0 (laws_FnMasks.j0 kq (wrap64 ((wrap64 (t128 * 4096)) + t131)) t134 x45_7 t124 t132 t133 = some r) ∧ Aside0 (kq ≤ k) ∧ Aside0 (Kd.R (Kd.int .i64) 2 wc w.heap.size (fun _ => True) v136 t134) ∧ Aside0 (IsS58 w wc g127 t124 t132 t133) ∧ Aside0 (Below w.heap.size w wc))
  case first =>
   have H := HC8.out; clear HC8
   by_cases c13 : t135 = 0
   ·rw [if_pos c13] at H
    have c13b0 : (t135 == 0) = true := beq_iff_eq.mpr c13
    have c13b1 : (t135 != 0) = false := bne_eq_false_iff_eq.mpr c13
    clear c13
    (first | rw [c13b0] | (simp only [i64_w, i32_w]; rw [c13b0]) | skip)
    replace H := Option.bind_eq_some_iff.mp H; obtain ⟨t138, A140, H⟩ := H
    replace H : (if (t134.length : Int) = t138 then ((impl_IsMask.f (wrap64 ((wrap64 (t128 * 4096)) + t131)) 24).bind fun t139 => (if t139 = true then ((impl_IsMask.f (Go.bits .or .i64 (wrap64 ((wrap64 (t128 * 4096)) + t131)) 16777216) 24).bind fun t140 => (laws_FnMasks.j0 k (wrap64 ((wrap64 (t128 * 4096)) + t131)) t134 t140 t124 t132 t133)) else (laws_FnMasks.j0 k (wrap64 ((wrap64 (t128 * 4096)) + t131)) t134 true t124 t132 t133))) else (laws_FnMasks.j0 k (wrap64 ((wrap64 (t128 * 4096)) + t131)) t134 true t124 t132 t133)) = some r := H
    have A14 := Aside0.mk A140; clear A140
    by_cases c15 : (t134.length : Int) = t138
    ·rw [if_pos c15] at H
     have c15b0 : ((t134.length : Int) == t138) = true := beq_iff_eq.mpr c15
     have c15b1 : ((t134.length : Int) != t138) = false := bne_eq_false_iff_eq.mpr c15
     clear c15; replace H := Option.bind_eq_some_iff.mp H; obtain ⟨t139, A160, H⟩ := H
     replace H : (if t139 = true then ((impl_IsMask.f (Go.bits .or .i64 (wrap64 ((wrap64 (t128 * 4096)) + t131)) 16777216) 24).bind fun t140 => (laws_FnMasks.j0 k (wrap64 ((wrap64 (t128 * 4096)) + t131)) t134 t140 t124 t132 t133)) else (laws_FnMasks.j0 k (wrap64 ((wrap64 (t128 * 4096)) + t131)) t134 true t124 t132 t133)) = some r := H
     have A16 := Aside0.mk A160; clear A160
     by_cases c17 : t139 = true
     ·subst c17
      have H1 : ((impl_IsMask.f (Go.bits .or .i64 (wrap64 ((wrap64 (t128 * 4096)) + t131)) 16777216) 24).bind fun t140 => (laws_FnMasks.j0 k (wrap64 ((wrap64 (t128 * 4096)) + t131)) t134 t140 t124 t132 t133)) = some r := by rw [if_pos rfl] at H; exact H
      clear H; have H := H1; clear H1; replace H := Option.bind_eq_some_iff.mp H; obtain ⟨t140, A180, H⟩ := H
      replace H : (laws_FnMasks.j0 k (wrap64 ((wrap64 (t128 * 4096)) + t131)) t134 t140 t124 t132 t133) = some r := H
      have A18 := Aside0.mk A180; clear A180
      have H' := Aside0.mk H
      clear H; obtain ⟨Ao19, co19, eo19⟩ := Kd.R_slice HO137.out; subst eo19
      go_wp2_with (first | (go_at_call 17; (with_reducible refine (laws_bits5.calls k (wrap64 ((wrap64 (t128 * 4096)) + t131)) t138 _ A14.out).mono ?_); rintro e w' ⟨rfl, ⟨nd, rfl⟩⟩; (try first | exact ⟨rfl, _, World.drewN_drewN _ _ _⟩ | exact ⟨rfl, _, Eq.trans (World.drewN_drewN _ _ _) (congrArg (World.drewN _) (Nat.add_assoc _ _ _))⟩)) | (go_at_call 18; (with_reducible refine (impl_IsMask.calls (wrap64 ((wrap64 (t128 * 4096)) + t131)) 24 true _ A16.out).mono ?_); rintro e w' ⟨rfl, ⟨nd, rfl⟩⟩; (try first | exact ⟨rfl, _, World.drewN_drewN _ _ _⟩ | exact ⟨rfl, _, Eq.trans (World.drewN_drewN _ _ _) (congrArg (World.drewN _) (Nat.add_assoc _ _ _))⟩)) | (go_at_call 18; (with_reducible refine (impl_IsMask.calls (Go.bits .or .i64 (wrap64 ((wrap64 (t128 * 4096)) + t131)) 16777216) 24 t140 _ A18.out).mono ?_); rintro e w' ⟨rfl, ⟨nd, rfl⟩⟩; (try first | exact ⟨rfl, _, World.drewN_drewN _ _ _⟩ | exact ⟨rfl, _, Eq.trans (World.drewN_drewN _ _ _) (congrArg (World.drewN _) (Nat.add_assoc _ _ _))⟩)))
      repeat (go_quiet (first | (go_at_call 17; (with_reducible refine (laws_bits5.calls k (wrap64 ((wrap64 (t128 * 4096)) + t131)) t138 _ A14.out).mono ?_); rintro e w' ⟨rfl, ⟨nd, rfl⟩⟩; (try first | exact ⟨rfl, _, World.drewN_drewN _ _ _⟩ | exact ⟨rfl, _, Eq.trans (World.drewN_drewN _ _ _) (congrArg (World.drewN _) (Nat.add_assoc _ _ _))⟩)) | (go_at_call 18; (with_reducible refine (impl_IsMask.calls (wrap64 ((wrap64 (t128 * 4096)) + t131)) 24 true _ A16.out).mono ?_); rintro e w' ⟨rfl, ⟨nd, rfl⟩⟩; (try first | exact ⟨rfl, _, World.drewN_drewN _ _ _⟩ | exact ⟨rfl, _, Eq.trans (World.drewN_drewN _ _ _) (congrArg (World.drewN _) (Nat.add_assoc _ _ _))⟩)) | (go_at_call 18; (with_reducible refine (impl_IsMask.calls (Go.bits .or .i64 (wrap64 ((wrap64 (t128 * 4096)) + t131)) 16777216) 24 t140 _ A18.out).mono ?_); rintro e w' ⟨rfl, ⟨nd, rfl⟩⟩; (try first | exact ⟨rfl, _, World.drewN_drewN _ _ _⟩ | exact ⟨rfl, _, Eq.trans (World.drewN_drewN _ _ _) (congrArg (World.drewN _) (Nat.add_assoc _ _ _))⟩))); try go_wp2_with (first | (go_at_call 17; (with_reducible refine (laws_bits5.calls k (wrap64 ((wrap64 (t128 * 4096)) + t131)) t138 _ A14.out).mono ?_); rintro e w' ⟨rfl, ⟨nd, rfl⟩⟩; (try first | exact ⟨rfl, _, World.drewN_drewN _ _ _⟩ | exact ⟨rfl, _, Eq.trans (World.drewN_drewN _ _ _) (congrArg (World.drewN _) (Nat.add_assoc _ _ _))⟩)) | (go_at_call 18; (with_reducible refine (impl_IsMask.calls (wrap64 ((wrap64 (t128 * 4096)) + t131)) 24 true _ A16.out).mono ?_); rintro e w' ⟨rfl, ⟨nd, rfl⟩⟩; (try first | exact ⟨rfl, _, World.drewN_drewN _ _ _⟩ | exact ⟨rfl, _, Eq.trans (World.drewN_drewN _ _ _) (congrArg (World.drewN _) (Nat.add_assoc _ _ _))⟩)) | (go_at_call 18; (with_reducible refine (impl_IsMask.calls (Go.bits .or .i64 (wrap64 ((wrap64 (t128 * 4096)) + t131)) 16777216) 24 t140 _ A18.out).mono ?_); rintro e w' ⟨rfl, ⟨nd, rfl⟩⟩; (try first | exact ⟨rfl, _, World.drewN_drewN _ _ _⟩ | exact ⟨rfl, _, Eq.trans (World.drewN_drewN _ _ _) (congrArg (World.drewN _) (Nat.add_assoc _ _ _))⟩))))
      go_meet
      case rel => exact ⟨_, (t140), sz, H', ⟨by first | omega | exact Nat.le_refl _⟩, ⟨kdQ HO137⟩, ⟨by repeat (first | (with_reducible first | exact HI127.out | apply IsS58.alloc | apply IsS58.drewN | apply IsS58.drew | apply IsS58.set_1 | apply IsS58.set_2) | exact HI127.out)⟩, ⟨by repeat (first | (with_reducible first | exact HB.out | apply below_alloc | apply pw_below_drewN | apply below_drew1 | refine below_set ?_ (IsS58.ge HI127.out)) | exact HB.out)⟩⟩
     ·replace c17 := Bool.eq_false_iff.mpr c17
      subst c17
      have H1 : (laws_FnMasks.j0 k (wrap64 ((wrap64 (t128 * 4096)) + t131)) t134 true t124 t132 t133) = some r := by rw [if_neg (show ¬ (false = true) by decide)] at H; exact H
      clear H; have H := H1; clear H1
      have H' := Aside0.mk H
      clear H; obtain ⟨Ao20, co20, eo20⟩ := Kd.R_slice HO137.out; subst eo20
      go_wp2_with (first | (go_at_call 17; (with_reducible refine (laws_bits5.calls k (wrap64 ((wrap64 (t128 * 4096)) + t131)) t138 _ A14.out).mono ?_); rintro e w' ⟨rfl, ⟨nd, rfl⟩⟩; (try first | exact ⟨rfl, _, World.drewN_drewN _ _ _⟩ | exact ⟨rfl, _, Eq.trans (World.drewN_drewN _ _ _) (congrArg (World.drewN _) (Nat.add_assoc _ _ _))⟩)) | (go_at_call 18; (with_reducible refine (impl_IsMask.calls (wrap64 ((wrap64 (t128 * 4096)) + t131)) 24 false _ A16.out).mono ?_); rintro e w' ⟨rfl, ⟨nd, rfl⟩⟩; (try first | exact ⟨rfl, _, World.drewN_drewN _ _ _⟩ | exact ⟨rfl, _, Eq.trans (World.drewN_drewN _ _ _) (congrArg (World.drewN _) (Nat.add_assoc _ _ _))⟩)))
      repeat (go_quiet (first | (go_at_call 17; (with_reducible refine (laws_bits5.calls k (wrap64 ((wrap64 (t128 * 4096)) + t131)) t138 _ A14.out).mono ?_); rintro e w' ⟨rfl, ⟨nd, rfl⟩⟩; (try first | exact ⟨rfl, _, World.drewN_drewN _ _ _⟩ | exact ⟨rfl, _, Eq.trans (World.drewN_drewN _ _ _) (congrArg (World.drewN _) (Nat.add_assoc _ _ _))⟩)) | (go_at_call 18; (with_reducible refine (impl_IsMask.calls (wrap64 ((wrap64 (t128 * 4096)) + t131)) 24 false _ A16.out).mono ?_); rintro e w' ⟨rfl, ⟨nd, rfl⟩⟩; (try first | exact ⟨rfl, _, World.drewN_drewN _ _ _⟩ | exact ⟨rfl, _, Eq.trans (World.drewN_drewN _ _ _) (congrArg (World.drewN _) (Nat.add_assoc _ _ _))⟩))); try go_wp2_with (first | (go_at_call 17; (with_reducible refine (laws_bits5.calls k (wrap64 ((wrap64 (t128 * 4096)) + t131)) t138 _ A14.out).mono ?_); rintro e w' ⟨rfl, ⟨nd, rfl⟩⟩; (try first | exact ⟨rfl, _, World.drewN_drewN _ _ _⟩ | exact ⟨rfl, _, Eq.trans (World.drewN_drewN _ _ _) (congrArg (World.drewN _) (Nat.add_assoc _ _ _))⟩)) | (go_at_call 18; (with_reducible refine (impl_IsMask.calls (wrap64 ((wrap64 (t128 * 4096)) + t131)) 24 false _ A16.out).mono ?_); rintro e w' ⟨rfl, ⟨nd, rfl⟩⟩; (try first | exact ⟨rfl, _, World.drewN_drewN _ _ _⟩ | exact ⟨rfl, _, Eq.trans (World.drewN_drewN _ _ _) (congrArg (World.drewN _) (Nat.add_assoc _ _ _))⟩))))
      go_meet
      case rel => exact ⟨_, (true), sz, H', ⟨by first | omega | exact Nat.le_refl _⟩, ⟨kdQ HO137⟩, ⟨by repeat (first | (with_reducible first | exact HI127.out | apply IsS58.alloc | apply IsS58.drewN | apply IsS58.drew | apply IsS58.set_1 | apply IsS58.set_2) | exact HI127.out)⟩, ⟨by repeat (first | (with_reducible first | exact HB.out | apply below_alloc | apply pw_below_drewN | apply below_drew1 | refine below_set ?_ (IsS58.ge HI127.out)) | exact HB.out)⟩⟩
    ·rw [if_neg c15] at H
     have c15b0 : ((t134.length : Int) == t138) = false := beq_eq_false_iff_ne.mpr c15
     have c15b1 : ((t134.length : Int) != t138) = true := bne_iff_ne.mpr c15
     have H' := Aside0.mk H
     clear H; obtain ⟨Ao21, co21, eo21⟩ := Kd.R_slice HO137.out; subst eo21
     go_wp2_with (first | (go_at_call 17; (with_reducible refine (laws_bits5.calls k (wrap64 ((wrap64 (t128 * 4096)) + t131)) t138 _ A14.out).mono ?_); rintro e w' ⟨rfl, ⟨nd, rfl⟩⟩; (try first | exact ⟨rfl, _, World.drewN_drewN _ _ _⟩ | exact ⟨rfl, _, Eq.trans (World.drewN_drewN _ _ _) (congrArg (World.drewN _) (Nat.add_assoc _ _ _))⟩)))
     repeat (go_quiet (first | (go_at_call 17; (with_reducible refine (laws_bits5.calls k (wrap64 ((wrap64 (t128 * 4096)) + t131)) t138 _ A14.out).mono ?_); rintro e w' ⟨rfl, ⟨nd, rfl⟩⟩; (try first | exact ⟨rfl, _, World.drewN_drewN _ _ _⟩ | exact ⟨rfl, _, Eq.trans (World.drewN_drewN _ _ _) (congrArg (World.drewN _) (Nat.add_assoc _ _ _))⟩))); try go_wp2_with (first | (go_at_call 17; (with_reducible refine (laws_bits5.calls k (wrap64 ((wrap64 (t128 * 4096)) + t131)) t138 _ A14.out).mono ?_); rintro e w' ⟨rfl, ⟨nd, rfl⟩⟩; (try first | exact ⟨rfl, _, World.drewN_drewN _ _ _⟩ | exact ⟨rfl, _, Eq.trans (World.drewN_drewN _ _ _) (congrArg (World.drewN _) (Nat.add_assoc _ _ _))⟩))))
     go_meet
     case rel => exact ⟨_, (true), sz, H', ⟨by first | omega | exact Nat.le_refl _⟩, ⟨kdQ HO137⟩, ⟨by repeat (first | (with_reducible first | exact HI127.out | apply IsS58.alloc | apply IsS58.drewN | apply IsS58.drew | apply IsS58.set_1 | apply IsS58.set_2) | exact HI127.out)⟩, ⟨by repeat (first | (with_reducible first | exact HB.out | apply below_alloc | apply pw_below_drewN | apply below_drew1 | refine below_set ?_ (IsS58.ge HI127.out)) | exact HB.out)⟩⟩
   ·rw [if_neg c13] at H
    have c13b0 : (t135 == 0) = false := beq_eq_false_iff_ne.mpr c13
    have c13b1 : (t135 != 0) = true := bne_iff_ne.mpr c13
    (first | rw [c13b0] | (simp only [i64_w, i32_w]; rw [c13b0]) | skip)
    have H' := Aside0.mk H
    clear H
    go_wp2
    repeat (go_quiet (fail); try go_wp2)
    go_meet
    case rel => exact ⟨_, (true), sz, H', ⟨by first | omega | exact Nat.le_refl _⟩, ⟨kdQ HO137⟩, ⟨by repeat (first | (with_reducible first | exact HI127.out | apply IsS58.alloc | apply IsS58.drewN | apply IsS58.drew | apply IsS58.set_1 | apply IsS58.set_2) | exact HI127.out)⟩, ⟨by repeat (first | (with_reducible first | exact HB.out | apply below_alloc | apply pw_below_drewN | apply below_drew1 | refine below_set ?_ (IsS58.ge HI127.out)) | exact HB.out)⟩⟩
  case rest =>
   clear HC8
   try clear c1
   try clear p2
   try clear c3
   try clear p6
   try clear c13
   try clear c13b0
   try clear c13b1
   try clear c15
   try clear c15b0
   try clear c15b1
   try clear c17
   obtain ⟨kq, x45_7, rfl, HA, HJ7, HO_5, HI127, HB⟩ := hcut
   cases kq with
   | zero => exact absurd HA.out (by simp [laws_FnMasks.j0])
   | succ kj7 =>
    have H := HA.out; clear HA
    simp only [laws_FnMasks.j0] at H
    by_cases c22 : x45_7 = true
    ·subst c22
     have H1 : (some false) = some r := by rw [if_pos rfl] at H; exact H
     clear H; have H := H1; clear H1
     obtain rfl := Option.some.inj H
     go_wp2
     repeat (go_quiet (fail); try go_wp2)
     go_ret
     exact ⟨rz, by repeat (first | (with_reducible first | exact HB.out | apply below_alloc | apply pw_below_drewN | apply below_drew1 | refine below_set ?_ (IsS58.ge HI127.out)) | exact HB.out)⟩
    ·replace c22 := Bool.eq_false_iff.mpr c22
     subst c22
     have H1 : (laws_FnMasks.l0 kj7 (wrap64 ((wrap64 (t128 * 4096)) + t131)) t134 0 t124 t132 t133) = some r := by rw [if_neg (show ¬ (false = true) by decide)] at H; exact H
     clear H; have H := H1; clear H1
     have H' := Aside0.mk H
     clear H
     go_wp2
     repeat (go_quiet (fail); try go_wp2)
     go_loopg [7] kj7 (fun kq v7 w' => ∃ (x7_2 : Int), v7 = .int .i64 x7_2 ∧ Aside0 (laws_FnMasks.l0 kq (wrap64 ((wrap64 (t128 * 4096)) + t131)) t134 x7_2 t124 t132 t133 = some r) ∧ Aside0 (kq ≤ kj7) ∧ Aside0 (Kd.R (Kd.int .i64) 2 w' w.heap.size (fun _ => True) v136 t134) ∧ Aside0 (IsS58 w w' g127 t124 t132 t133) ∧ Aside0 (Below w.heap.size w w'))
     case atStart => exact ⟨(0), sz, H', ⟨Nat.le_refl _⟩, ⟨kdQ HO_5⟩, ⟨by repeat (first | (with_reducible first | exact HI127.out | apply IsS58.alloc | apply IsS58.drewN | apply IsS58.drew | apply IsS58.set_1 | apply IsS58.set_2) | exact HI127.out)⟩, ⟨by repeat (first | (with_reducible first | exact HB.out | apply below_alloc | apply pw_below_drewN | apply below_drew1 | refine below_set ?_ (IsS58.ge HI127.out)) | exact HB.out)⟩⟩
     case round =>
      clear H'
      try clear c1
      try clear c2
      try clear p2
      try clear c3
      try clear p6
      try clear c13
      try clear c13b0
      try clear c13b1
      try clear c15
      try clear c15b0
      try clear c15b1
      try clear c17
      try clear c22
      try clear p2
      try clear p6
      obtain ⟨x7_2, rfl, HA, HK2, HO_5, HI127, HB⟩ := hrel
      cases gk with
      | zero => exact absurd HA.out (by simp [laws_FnMasks.l0])
      | succ k2 =>
       have H := HA.out; clear HA
       simp only [laws_FnMasks.l0] at H
       by_cases c23 : x7_2 < (t134.length : Int)
       ·rw [if_pos c23] at H
        have c23b0 : decide (x7_2 < (t134.length : Int)) = true := decide_eq_true c23
        clear c23
        by_cases c24 : 0 ≤ x7_2
        ·rw [if_pos c24] at H
         have c24b0 : decide (0 ≤ x7_2) = true := decide_eq_true c24
         clear c24
         obtain ⟨ji25, hji25⟩ : ∃ j_ : Int, (IntKind.u64.wrap (rd t134 x7_2)) = j_ := ⟨_, rfl⟩
         replace H : (if 0 ≤ (ji25) then (if (Go.bits .and .i64 (shr .i64 (wrap64 ((wrap64 (t128 * 4096)) + t131)) (ji25)) 1) = 0 then (some false) else (if x7_2 > 0 then (if 0 ≤ (wrap64 (x7_2 - 1)) then (if (wrap64 (x7_2 - 1)) < (t134.length : Int) then (if (rd t134 x7_2) ≤ (rd t134 (wrap64 (x7_2 - 1))) then (some false) else (laws_FnMasks.l0 k2 (wrap64 ((wrap64 (t128 * 4096)) + t131)) t134 (wrap64 (x7_2 + 1)) t124 t132 t133)) else (none)) else (none)) else (laws_FnMasks.l0 k2 (wrap64 ((wrap64 (t128 * 4096)) + t131)) t134 (wrap64 (x7_2 + 1)) t124 t132 t133))) else (none)) = some r := by first | (rw [hji25] at H; exact H) | (simp only [hji25] at H ⊢; exact H)
         by_cases c26 : 0 ≤ (ji25)
         ·rw [if_pos c26] at H
          have c26b0 := eq_true c26
          have c26b1 : decide (0 ≤ (ji25)) = true := decide_eq_true c26
          clear c26
          obtain ⟨ji27, hji27⟩ : ∃ j_ : Int, (shr .i64 (wrap64 ((wrap64 (t128 * 4096)) + t131)) (ji25)) = j_ := ⟨_, rfl⟩
          replace H : (if (Go.bits .and .i64 (ji27) 1) = 0 then (some false) else (if x7_2 > 0 then (if 0 ≤ (wrap64 (x7_2 - 1)) then (if (wrap64 (x7_2 - 1)) < (t134.length : Int) then (if (rd t134 x7_2) ≤ (rd t134 (wrap64 (x7_2 - 1))) then (some false) else (laws_FnMasks.l0 k2 (wrap64 ((wrap64 (t128 * 4096)) + t131)) t134 (wrap64 (x7_2 + 1)) t124 t132 t133)) else (none)) else (none)) else (laws_FnMasks.l0 k2 (wrap64 ((wrap64 (t128 * 4096)) + t131)) t134 (wrap64 (x7_2 + 1)) t124 t132 t133))) = some r := by first | (rw [hji27] at H; exact H) | (simp only [hji27] at H ⊢; exact H)
          have hji27_ : ((wrap64 ((wrap64 (t128 * 4096)) + t131)) / 2 ^ min (ji25).toNat 64) = ji27 := hji27
          have hji27z : (ji25) ≤ 64 → ((wrap64 ((wrap64 (t128 * 4096)) + t131)) / 2 ^ (ji25).toNat) = ji27 := shr_small hji27
          by_cases c28 : (Go.bits .and .i64 (ji27) 1) = 0
          ·rw [if_pos c28] at H
           have c28b0 : ((Go.bits .and .i64 (ji27) 1) == 0) = true := beq_iff_eq.mpr c28
           have c28b1 : ((Go.bits .and .i64 (ji27) 1) != 0) = false := bne_eq_false_iff_eq.mpr c28
           clear c28
           obtain rfl := Option.some.inj H
           obtain ⟨Ao29, co29, eo29⟩ := Kd.R_slice HO_5.out; subst eo29
           have p141 : 0 ≤ (x7_2 : Int) := of_decide_eq_true (by first | (with_reducible assumption) | assumption)
           have q141 : x7_2 < (t134.length : Int) := of_decide_eq_true (by first | (with_reducible assumption) | assumption)
           obtain ⟨ad141, e141, hx141_0⟩ := Kd.at_int (Kd.R_reads' HO_5.out).2.2 x7_2 p141 q141; cases e141; replace p141 := eq_true p141; replace q141 := eq_true q141
           go_wp2
           repeat (go_quiet (fail); try go_wp2)
           go_ret
           exact ⟨by first | rfl | (simp [errW_none, errW_some] <;> rfl) | (simp only [← hji25, ← hji27]; first | rfl | (simp [errW_none, errW_some] <;> rfl)) | (simp [*, errW_none, errW_some] <;> rfl), by repeat (first | (with_reducible first | exact HB.out | apply below_alloc | apply pw_below_drewN | apply below_drew1 | refine below_set ?_ (IsS58.ge HI127.out)) | exact HB.out)⟩
          ·rw [if_neg c28] at H
           have c28b0 : ((Go.bits .and .i64 (ji27) 1) == 0) = false := beq_eq_false_iff_ne.mpr c28
           have c28b1 : ((Go.bits .and .i64 (ji27) 1) != 0) = true := bne_iff_ne.mpr c28
           by_cases c30 : x7_2 > 0
           ·rw [if_pos c30] at H
            have c30b0 : decide (0 < x7_2) = true := decide_eq_true c30
            clear c30
            obtain ⟨ji31, hji31⟩ : ∃ j_ : Int, (wrap64 (x7_2 - 1)) = j_ := ⟨_, rfl⟩
            replace H : (if 0 ≤ (ji31) then (if (ji31) < (t134.length : Int) then (if (rd t134 x7_2) ≤ (rd t134 (ji31)) then (some false) else (laws_FnMasks.l0 k2 (wrap64 ((wrap64 (t128 * 4096)) + t131)) t134 (wrap64 (x7_2 + 1)) t124 t132 t133)) else (none)) else (none)) = some r := by first | (rw [hji31] at H; exact H) | (simp only [hji31] at H ⊢; exact H)
            have hji31w : (IntKind.i64.wrap (x7_2 - 1)) = ji31 := (i64_w _).trans hji31
            by_cases c32 : 0 ≤ (ji31)
            ·rw [if_pos c32] at H
             have c32b0 : decide (0 ≤ (ji31)) = true := decide_eq_true c32
             clear c32
             by_cases c33 : (ji31) < (t134.length : Int)
             ·rw [if_pos c33] at H
              have c33b0 : decide ((ji31) < (t134.length : Int)) = true := decide_eq_true c33
              clear c33
              by_cases c34 : (rd t134 x7_2) ≤ (rd t134 (ji31))
              ·rw [if_pos c34] at H
               have c34b0 : decide ((rd t134 x7_2) ≤ (rd t134 (ji31))) = true := decide_eq_true c34
               clear c34
               obtain rfl := Option.some.inj H
               obtain ⟨Ao35, co35, eo35⟩ := Kd.R_slice HO_5.out; subst eo35
               have p141 : 0 ≤ (x7_2 : Int) := of_decide_eq_true (by first | (with_reducible assumption) | assumption)
               have q141 : x7_2 < (t134.length : Int) := of_decide_eq_true (by first | (with_reducible assumption) | assumption)
               obtain ⟨ad141, e141, hx141_0⟩ := Kd.at_int (Kd.R_reads' HO_5.out).2.2 x7_2 p141 q141; cases e141; replace p141 := eq_true p141; replace q141 := eq_true q141
               have p142 : 0 ≤ (x7_2 : Int) := of_decide_eq_true (by first | (with_reducible assumption) | assumption)
               have q142 : x7_2 < (t134.length : Int) := of_decide_eq_true (by first | (with_reducible assumption) | assumption)
               obtain ⟨ad142, e142, hx142_0⟩ := Kd.at_int (Kd.R_reads' HO_5.out).2.2 x7_2 p142 q142
               obtain rfl : ad141 = ad142 := (by injection e142)
               replace p142 := eq_true p142; replace q142 := eq_true q142
               have p143 : 0 ≤ ((ji31) : Int) := of_decide_eq_true (by first | (with_reducible assumption) | assumption)
               have q143 : (ji31) < (t134.length : Int) := of_decide_eq_true (by first | (with_reducible assumption) | assumption)
               obtain ⟨ad143, e143, hx143_0⟩ := Kd.at_int (Kd.R_reads' HO_5.out).2.2 (ji31) p143 q143
               obtain rfl : ad141 = ad143 := (by injection e143)
               replace p143 := eq_true p143; replace q143 := eq_true q143
               go_wp2
               repeat (go_quiet (fail); try go_wp2)
               go_ret
               exact ⟨by first | rfl | (simp [errW_none, errW_some] <;> rfl) | (simp only [← hji25, ← hji27, ← hji31]; first | rfl | (simp [errW_none, errW_some] <;> rfl)) | (simp [*, errW_none, errW_some] <;> rfl), by repeat (first | (with_reducible first | exact HB.out | apply below_alloc | apply pw_below_drewN | apply below_drew1 | refine below_set ?_ (IsS58.ge HI127.out)) | exact HB.out)⟩
              ·rw [if_neg c34] at H
               have c34b0 : decide ((rd t134 x7_2) ≤ (rd t134 (ji31))) = false := decide_eq_false c34
               clear c34
               have H' := Aside0.mk H
               clear H; obtain ⟨Ao36, co36, eo36⟩ := Kd.R_slice HO_5.out; subst eo36
               have p141 : 0 ≤ (x7_2 : Int) := of_decide_eq_true (by first | (with_reducible assumption) | assumption)
               have q141 : x7_2 < (t134.length : Int) := of_decide_eq_true (by first | (with_reducible assumption) | assumption)
               obtain ⟨ad141, e141, hx141_0⟩ := Kd.at_int (Kd.R_reads' HO_5.out).2.2 x7_2 p141 q141; cases e141; replace p141 := eq_true p141; replace q141 := eq_true q141
               have p142 : 0 ≤ (x7_2 : Int) := of_decide_eq_true (by first | (with_reducible assumption) | assumption)
               have q142 : x7_2 < (t134.length : Int) := of_decide_eq_true (by first | (with_reducible assumption) | assumption)
               obtain ⟨ad142, e142, hx142_0⟩ := Kd.at_int (Kd.R_reads' HO_5.out).2.2 x7_2 p142 q142
               obtain rfl : ad141 = ad142 := (by injection e142)
               replace p142 := eq_true p142; replace q142 := eq_true q142
               have p143 : 0 ≤ ((ji31) : Int) := of_decide_eq_true (by first | (with_reducible assumption) | assumption)
               have q143 : (ji31) < (t134.length : Int) := of_decide_eq_true (by first | (with_reducible assumption) | assumption)
               obtain ⟨ad143, e143, hx143_0⟩ := Kd.at_int (Kd.R_reads' HO_5.out).2.2 (ji31) p143 q143
               obtain rfl : ad141 = ad143 := (by injection e143)
               replace p143 := eq_true p143; replace q143 := eq_true q143
               go_wp2
               repeat (go_quiet (fail); try go_wp2)
               go_roundg k2
               case measure => have := HJ7.out; have := HK2.out; omega
               case rel => exact ⟨(wrap64 (x7_2 + 1)), sz, H', ⟨by have := HJ7.out; have := HK2.out; omega⟩, ⟨kdQ HO_5⟩, ⟨by repeat (first | (with_reducible first | exact HI127.out | apply IsS58.alloc | apply IsS58.drewN | apply IsS58.drew | apply IsS58.set_1 | apply IsS58.set_2) | exact HI127.out)⟩, ⟨by repeat (first | (with_reducible first | exact HB.out | apply below_alloc | apply pw_below_drewN | apply below_drew1 | refine below_set ?_ (IsS58.ge HI127.out)) | exact HB.out)⟩⟩
             ·rw [if_neg c33] at H
              exact absurd H (by simp)
            ·rw [if_neg c32] at H
             exact absurd H (by simp)
           ·rw [if_neg c30] at H
            have c30b0 : decide (0 < x7_2) = false := decide_eq_false c30
            clear c30
            have H' := Aside0.mk H
            clear H; obtain ⟨Ao37, co37, eo37⟩ := Kd.R_slice HO_5.out; subst eo37
            have p141 : 0 ≤ (x7_2 : Int) := of_decide_eq_true (by first | (with_reducible assumption) | assumption)
            have q141 : x7_2 < (t134.length : Int) := of_decide_eq_true (by first | (with_reducible assumption) | assumption)
            obtain ⟨ad141, e141, hx141_0⟩ := Kd.at_int (Kd.R_reads' HO_5.out).2.2 x7_2 p141 q141; cases e141; replace p141 := eq_true p141; replace q141 := eq_true q141
            go_wp2
            repeat (go_quiet (fail); try go_wp2)
            go_roundg k2
            case measure => have := HJ7.out; have := HK2.out; omega
            case rel => exact ⟨(wrap64 (x7_2 + 1)), sz, H', ⟨by have := HJ7.out; have := HK2.out; omega⟩, ⟨kdQ HO_5⟩, ⟨by repeat (first | (with_reducible first | exact HI127.out | apply IsS58.alloc | apply IsS58.drewN | apply IsS58.drew | apply IsS58.set_1 | apply IsS58.set_2) | exact HI127.out)⟩, ⟨by repeat (first | (with_reducible first | exact HB.out | apply below_alloc | apply pw_below_drewN | apply below_drew1 | refine below_set ?_ (IsS58.ge HI127.out)) | exact HB.out)⟩⟩
         ·rw [if_neg c26] at H
          exact absurd H (by simp)
        ·rw [if_neg c24] at H
         exact absurd H (by simp)
       ·rw [if_neg c23] at H
        have c23b0 : decide (x7_2 < (t134.length : Int)) = false := decide_eq_false c23
        clear c23
        obtain ⟨y144, hy144⟩ : ∃ y_ : List Int, y_ = (([] : List Int)) := ⟨_, rfl⟩
        replace H : (laws_FnMasks.l1 k2 (wrap64 ((wrap64 (t128 * 4096)) + t131)) t134 y144 (wrap64 ((t134.length : Int) - 1)) t124 t132 t133) = some r := by first | (rw [hy144]; with_reducible exact H) | (have H2_ := (Option.bind_some _ _).symm.trans H; rw [hy144]; with_reducible exact H2_) | (have H2_ := (Option.bind_some _ _).symm.trans H; with_reducible exact H2_) | with_reducible exact H | (rw [hy144]; exact H) | exact H
        have Ny144 := Aside0.mk hy144; clear hy144
        have H' := Aside0.mk H
        clear H; obtain ⟨Ao38, co38, eo38⟩ := Kd.R_slice HO_5.out; subst eo38
        go_wp2_with (first | ((with_reducible refine gate_dst (N := 77) rfl ?_); (try (refine gate_guard (by rfl) ?_; dsimp only)); refine Kd.R_lit (Kd.int .i64) _ 2 ?hg (N := 77) ?hd (xs := ([] : List Int)) (inner := []) (ok := fun _ => True) (okp := fun _ => True) ?hr ?hp (fun _ hk => hk) trivial (Below.refl _ _) (Nat.le_refl _) (by simp) ?_; (case hd => rfl); (case hg => rfl); (case hr => first | (go_simp; done) | (go_simp; rfl)); (case hp => exact (Reps.none _ _)); intro v145 w39 ho40 hb hg_ hnew_; clear hg_ hnew_; (first | rw [← Ny144.out] at ho40 | (simp only [Int.reduceToNat] at ho40; rw [← Ny144.out] at ho40)); have HO146 := Aside0.mk (Kd.R_lower (Kd.R_new' ho40 (Kd.R_lt (kdQ HO_5))) (below_size (by repeat (first | (with_reducible first | exact HB.out | apply below_alloc | apply pw_below_drewN | apply below_drew1 | refine below_set ?_ (IsS58.ge HI127.out)) | exact HB.out)))); replace HO_5 := Aside0.mk (Kd.R_elder' (kdQ HO_5) (Kd.R_base ho40) hb); replace HB := Aside0.mk (below_step (by repeat (first | (with_reducible first | exact HB.out | apply below_alloc | apply pw_below_drewN | apply below_drew1 | refine below_set ?_ (IsS58.ge HI127.out)) | exact HB.out)) hb); replace HI127 := Aside0.mk (IsS58.below (by repeat (first | (with_reducible first | exact HI127.out | apply IsS58.alloc | apply IsS58.drewN | apply IsS58.drew | apply IsS58.set_1 | apply IsS58.set_2) | exact HI127.out)) hb); clear hb ho40))
        repeat (go_quiet (first | ((with_reducible refine gate_dst (N := 77) rfl ?_); (try (refine gate_guard (by rfl) ?_; dsimp only)); refine Kd.R_lit (Kd.int .i64) _ 2 ?hg (N := 77) ?hd (xs := ([] : List Int)) (inner := []) (ok := fun _ => True) (okp := fun _ => True) ?hr ?hp (fun _ hk => hk) trivial (Below.refl _ _) (Nat.le_refl _) (by simp) ?_; (case hd => rfl); (case hg => rfl); (case hr => first | (go_simp; done) | (go_simp; rfl)); (case hp => exact (Reps.none _ _)); intro v145 w39 ho40 hb hg_ hnew_; clear hg_ hnew_; (first | rw [← Ny144.out] at ho40 | (simp only [Int.reduceToNat] at ho40; rw [← Ny144.out] at ho40)); have HO146 := Aside0.mk (Kd.R_lower (Kd.R_new' ho40 (Kd.R_lt (kdQ HO_5))) (below_size (by repeat (first | (with_reducible first | exact HB.out | apply below_alloc | apply pw_below_drewN | apply below_drew1 | refine below_set ?_ (IsS58.ge HI127.out)) | exact HB.out)))); replace HO_5 := Aside0.mk (Kd.R_elder' (kdQ HO_5) (Kd.R_base ho40) hb); replace HB := Aside0.mk (below_step (by repeat (first | (with_reducible first | exact HB.out | apply below_alloc | apply pw_below_drewN | apply below_drew1 | refine below_set ?_ (IsS58.ge HI127.out)) | exact HB.out)) hb); replace HI127 := Aside0.mk (IsS58.below (by repeat (first | (with_reducible first | exact HI127.out | apply IsS58.alloc | apply IsS58.drewN | apply IsS58.drew | apply IsS58.set_1 | apply IsS58.set_2) | exact HI127.out)) hb); clear hb ho40)); try go_wp2_with (first | ((with_reducible refine gate_dst (N := 77) rfl ?_); (try (refine gate_guard (by rfl) ?_; dsimp only)); refine Kd.R_lit (Kd.int .i64) _ 2 ?hg (N := 77) ?hd (xs := ([] : List Int)) (inner := []) (ok := fun _ => True) (okp := fun _ => True) ?hr ?hp (fun _ hk => hk) trivial (Below.refl _ _) (Nat.le_refl _) (by simp) ?_; (case hd => rfl); (case hg => rfl); (case hr => first | (go_simp; done) | (go_simp; rfl)); (case hp => exact (Reps.none _ _)); intro v145 w39 ho40 hb hg_ hnew_; clear hg_ hnew_; (first | rw [← Ny144.out] at ho40 | (simp only [Int.reduceToNat] at ho40; rw [← Ny144.out] at ho40)); have HO146 := Aside0.mk (Kd.R_lower (Kd.R_new' ho40 (Kd.R_lt (kdQ HO_5))) (below_size (by repeat (first | (with_reducible first | exact HB.out | apply below_alloc | apply pw_below_drewN | apply below_drew1 | refine below_set ?_ (IsS58.ge HI127.out)) | exact HB.out)))); replace HO_5 := Aside0.mk (Kd.R_elder' (kdQ HO_5) (Kd.R_base ho40) hb); replace HB := Aside0.mk (below_step (by repeat (first | (with_reducible first | exact HB.out | apply below_alloc | apply pw_below_drewN | apply below_drew1 | refine below_set ?_ (IsS58.ge HI127.out)) | exact HB.out)) hb); replace HI127 := Aside0.mk (IsS58.below (by repeat (first | (with_reducible first | exact HI127.out | apply IsS58.alloc | apply IsS58.drewN | apply IsS58.drew | apply IsS58.set_1 | apply IsS58.set_2) | exact HI127.out)) hb); clear hb ho40)))
        go_loopg [8, 9] k2 (fun kq v8 v9 w' => ∃ (x8_3 : List Int) (x9_3 : Int) (x128001_3 : Int) (x128002_3 : Int), v9 = .int .i64 x9_3 ∧ Aside0 (laws_FnMasks.l1 kq (wrap64 ((wrap64 (t128 * 4096)) + t131)) t134 x8_3 x9_3 t124 x128001_3 x128002_3 = some r) ∧ Aside0 (kq ≤ k2) ∧ Aside0 (Kd.R (Kd.int .i64) 2 w' w.heap.size (fun k_ => some k_ ≠ (v8 : Value).ownBlock) (.slice Ao38 t134.length co38) t134) ∧ Aside0 (Kd.R (Kd.int .i64) 2 w' w.heap.size (fun k_ => some k_ ≠ ((.slice Ao38 t134.length co38) : Value).ownBlock) v8 x8_3) ∧ Aside0 (IsS58 w w' g127 t124 x128001_3 x128002_3) ∧ Aside0 (Below w.heap.size w w'))
        case atStart => exact ⟨(y144), (wrap64 ((t134.length : Int) - 1)), (t132), (t133), sz, H', ⟨Nat.le_refl _⟩, ⟨by (with_reducible repeat (first | apply Kd.R_alloc | apply Kd.R_drewN | apply Kd.R_drew)); exact Kd.R_mono HO_5.out (fun _ hk => hk.2)⟩, ⟨by (with_reducible repeat (first | apply Kd.R_alloc | apply Kd.R_drewN | apply Kd.R_drew)); exact Kd.R_mono HO146.out (fun _ hk => hk.2)⟩, ⟨by repeat (first | (with_reducible first | exact HI127.out | apply IsS58.alloc | apply IsS58.drewN | apply IsS58.drew | apply IsS58.set_1 | apply IsS58.set_2) | exact HI127.out)⟩, ⟨by repeat (first | (with_reducible first | exact HB.out | apply below_alloc | apply pw_below_drewN | apply below_drew1 | refine below_set ?_ (IsS58.ge HI127.out)) | exact HB.out)⟩⟩
        case round =>
         clear H'
         try clear c1
         try clear p1
         try clear q1
         try clear hx1
         try clear c2
         try clear p2
         try clear c3
         try clear p6
         try clear c13
         try clear c13b0
         try clear c13b1
         try clear p14
         try clear q14
         try clear hx14
         try clear c15
         try clear c15b0
         try clear c15b1
         try clear c17
         try clear c22
         try clear c23
         try clear c23b0
         try clear c24
         try clear c24b0
         try clear c26
         try clear c26b0
         try clear c26b1
         try clear c28
         try clear c28b0
         try clear c28b1
         try clear c30
         try clear c30b0
         try clear c32
         try clear c32b0
         try clear c33
         try clear c33b0
         try clear c34
         try clear c34b0
         try clear hx141_0
         try clear hx142_0
         try clear hx143_0
         try clear p141
         try clear p142
         try clear p143
         try clear p2
         try clear p6
         try clear q141
         try clear q142
         try clear q143
         obtain ⟨x8_3, x9_3, x128001_3, x128002_3, rfl, HA, HK3, HO_5, HO_8, HI127, HB⟩ := hrel
         cases gk with
         | zero => exact absurd HA.out (by simp [laws_FnMasks.l1])
         | succ k3 =>
          have H := HA.out; clear HA
          simp only [laws_FnMasks.l1] at H
          by_cases c41 : x9_3 ≥ 0
          ·rw [if_pos c41] at H
           have c41b0 : decide (0 ≤ x9_3) = true := decide_eq_true c41
           clear c41
           by_cases c42 : 0 ≤ x9_3
           ·rw [if_pos c42] at H
            have c42b0 : decide (0 ≤ x9_3) = true := decide_eq_true c42
            clear c42
            by_cases c43 : x9_3 < (t134.length : Int)
            ·rw [if_pos c43] at H
             have c43b0 : decide (x9_3 < (t134.length : Int)) = true := decide_eq_true c43
             clear c43
             by_cases c44 : x8_3.length < 17592186044416
             ·rw [if_pos c44] at H
              have LMc44 := Aside0.mk c44; clear c44
              obtain ⟨y150, hy150⟩ : ∃ y_ : List Int, y_ = (x8_3 ++ [rd t134 x9_3]) := ⟨_, rfl⟩
              replace H : ((laws_dice_below.f t124 x128001_3 x128002_3 3).bind fun bt153 => (if bt153.1 = 0 then ((laws_dice_below.f t124 bt153.2.1 bt153.2.2 (t134.length : Int)).bind fun bt156 => (if 0 ≤ bt156.1 then (if bt156.1 < (t134.length : Int) then (if y150.length < 17592186044416 then (laws_FnMasks.l1 k3 (wrap64 ((wrap64 (t128 * 4096)) + t131)) t134 (y150 ++ [rd t134 bt156.1]) (wrap64 (x9_3 - 1)) t124 bt156.2.1 bt156.2.2) else (none)) else (none)) else (none))) else (laws_FnMasks.l1 k3 (wrap64 ((wrap64 (t128 * 4096)) + t131)) t134 y150 (wrap64 (x9_3 - 1)) t124 bt153.2.1 bt153.2.2))) = some r := by first | (rw [hy150]; with_reducible exact H) | (have H2_ := (Option.bind_some _ _).symm.trans H; rw [hy150]; with_reducible exact H2_) | (have H2_ := (Option.bind_some _ _).symm.trans H; with_reducible exact H2_) | with_reducible exact H | (rw [hy150]; exact H) | exact H
              have Ny150 := Aside0.mk hy150; clear hy150; replace H := Option.bind_eq_some_iff.mp H
              obtain ⟨⟨t153, t154, t155⟩, A450, H⟩ := H
              replace H : (if t153 = 0 then ((laws_dice_below.f t124 t154 t155 (t134.length : Int)).bind fun bt156 => (if 0 ≤ bt156.1 then (if bt156.1 < (t134.length : Int) then (if y150.length < 17592186044416 then (laws_FnMasks.l1 k3 (wrap64 ((wrap64 (t128 * 4096)) + t131)) t134 (y150 ++ [rd t134 bt156.1]) (wrap64 (x9_3 - 1)) t124 bt156.2.1 bt156.2.2) else (none)) else (none)) else (none))) else (laws_FnMasks.l1 k3 (wrap64 ((wrap64 (t128 * 4096)) + t131)) t134 y150 (wrap64 (x9_3 - 1)) t124 t154 t155)) = some r := H
              have A45 := Aside0.mk A450; clear A450
              by_cases c46 : t153 = 0
              ·rw [if_pos c46] at H
               have c46b0 : (t153 == 0) = true := beq_iff_eq.mpr c46
               have c46b1 : (t153 != 0) = false := bne_eq_false_iff_eq.mpr c46
               clear c46; replace H := Option.bind_eq_some_iff.mp H
               obtain ⟨⟨t156, t157, t158⟩, A470, H⟩ := H
               replace H : (if 0 ≤ t156 then (if t156 < (t134.length : Int) then (if y150.length < 17592186044416 then (laws_FnMasks.l1 k3 (wrap64 ((wrap64 (t128 * 4096)) + t131)) t134 (y150 ++ [rd t134 t156]) (wrap64 (x9_3 - 1)) t124 t157 t158) else (none)) else (none)) else (none)) = some r := H
               have A47 := Aside0.mk A470; clear A470
               by_cases c48 : 0 ≤ t156
               ·rw [if_pos c48] at H
                have c48b0 : decide (0 ≤ t156) = true := decide_eq_true c48
                clear c48
                by_cases c49 : t156 < (t134.length : Int)
                ·rw [if_pos c49] at H
                 have c49b0 : decide (t156 < (t134.length : Int)) = true := decide_eq_true c49
                 clear c49
                 by_cases c50 : y150.length < 17592186044416
                 ·rw [if_pos c50] at H
                  have LMc50 := Aside0.mk c50; clear c50
                  obtain ⟨y160, hy160⟩ : ∃ y_ : List Int, y_ = (y150 ++ [rd t134 t156]) := ⟨_, rfl⟩
                  replace H : (laws_FnMasks.l1 k3 (wrap64 ((wrap64 (t128 * 4096)) + t131)) t134 y160 (wrap64 (x9_3 - 1)) t124 t157 t158) = some r := by first | (rw [hy160]; with_reducible exact H) | (have H2_ := (Option.bind_some _ _).symm.trans H; rw [hy160]; with_reducible exact H2_) | (have H2_ := (Option.bind_some _ _).symm.trans H; with_reducible exact H2_) | with_reducible exact H | (rw [hy160]; exact H) | exact H
                  have Ny160 := Aside0.mk hy160; clear hy160
                  have H' := Aside0.mk H
                  clear H
                  have p149 : 0 ≤ (x9_3 : Int) := of_decide_eq_true (by first | (with_reducible assumption) | assumption)
                  have q149 : x9_3 < (t134.length : Int) := of_decide_eq_true (by first | (with_reducible assumption) | assumption)
                  obtain ⟨ad149, e149, hx149_0⟩ := Kd.at_int (Kd.R_reads' HO_5.out).2.2 x9_3 p149 q149; cases e149; replace p149 := eq_true p149; replace q149 := eq_true q149
                  go_wp2_with (first | ((with_reducible refine gate_builtin (b := .append) (xs := #[.tmp 85, .tmp 90]) rfl ?_); (try (refine gate_guard (by rfl) ?_; dsimp only)); at_builtin; refine Kd.R_append (Kd.int .i64) (w0 := w) w.heap.size rfl (.tmp 85) (.tmp 90) 28 2 (.int .i64 0) 8 rfl Tryd.underlying28 info2 rfl (by decide) (by omega) u8 x8_3 (rd t134 x9_3) [.int .i64 (rd t134 x9_3)] (fun k_ => some k_ ≠ (.slice (some ad149) t134.length co38 : Value).ownBlock) (fun _ => False) rfl rfl ?aP (fun _ hk => hk.elim) ?aF ?aO ?aB ?aS ?aL ?_; (case aP => exact rfl); (case aB => exact (by repeat (first | (with_reducible first | exact HB.out | apply below_alloc | apply pw_below_drewN | apply below_drew1 | refine below_set ?_ (IsS58.ge HI127.out)) | exact HB.out))); (case aF => exact (fun k_ hk => Kd.fresh' (Kd.R_lt (kdQ HO_5)) k_ hk)); (case aO => exact (kdQ HO_8)); (case aS => exact (below_size (by repeat (first | (with_reducible first | exact HB.out | apply below_alloc | apply pw_below_drewN | apply below_drew1 | refine below_set ?_ (IsS58.ge HI127.out)) | exact HB.out)))); (case aL => have := LMc44.out; omega); intro v151 w51 ho hb hg hat; rw [← Ny150.out] at ho; have n0_ := Aside0.mk (Kd.R_after (ok := (fun _ => True)) (by (with_reducible repeat (first | apply Kd.R_alloc | apply Kd.R_drewN | apply Kd.R_drew)); exact Kd.R_mono HO_5.out (fun _ hk => ⟨trivial, hk⟩)) hg hat); have n1_ := Aside0.mk (IsS58.grown (by repeat (first | (with_reducible first | exact HI127.out | apply IsS58.alloc | apply IsS58.drewN | apply IsS58.drew | apply IsS58.set_1 | apply IsS58.set_2) | exact HI127.out)) hg (IsS58.own_ne HI127.out HO_8.out (by decide))); have n2_ := Aside0.mk (hb); have n3_ := Aside0.mk (ho); clear HO_5; clear HI127; clear HB; clear HO_8; have HO_5 := n0_; have HI127 := n1_; have HB := n2_; have HO152 := n3_; clear n0_ n1_ n2_ n3_; clear ho hb hg hat) | (go_at_call 15; (with_reducible refine (laws_dice_below.calls g127 t124 x128001_3 x128002_3 3 t153 t154 t155 w _ ?side1 ?side2 A45.out).mono ?_); (case side1 => repeat (first | (with_reducible first | exact HI127.out | apply IsS58.alloc | apply IsS58.drewN | apply IsS58.drew | apply IsS58.set_1 | apply IsS58.set_2) | exact HI127.out)); (case side2 => repeat (first | (with_reducible first | exact HB.out | apply below_alloc | apply pw_below_drewN | apply below_drew1 | refine below_set ?_ (IsS58.ge HI127.out)) | exact HB.out)); rintro e w52 ⟨rfl, hi, hb, hk⟩; replace HO_5 := Aside0.mk (Kd.R_mono (Kd.R_keep (IsS58.apart (show IsS58 w _ g127 t124 x128001_3 x128002_3 from by repeat (first | (with_reducible first | exact HI127.out | apply IsS58.alloc | apply IsS58.drewN | apply IsS58.drew | apply IsS58.set_1 | apply IsS58.set_2) | exact HI127.out)) (kdQ HO_5) (by decide)) hk (fun _ h => h.2)) (fun _ h => h.1)); replace HO152 := Aside0.mk (Kd.R_mono (Kd.R_keep (IsS58.apart (show IsS58 w _ g127 t124 x128001_3 x128002_3 from by repeat (first | (with_reducible first | exact HI127.out | apply IsS58.alloc | apply IsS58.drewN | apply IsS58.drew | apply IsS58.set_1 | apply IsS58.set_2) | exact HI127.out)) (kdQ HO152) (by decide)) hk (fun _ h => h.2)) (fun _ h => h.1)); replace HB := Aside0.mk (hb); replace HI127 := Aside0.mk (hi); (try clear hb); (try clear hb2); (try clear hk); (try clear hi)) | (go_at_call 15; (with_reducible refine (laws_dice_below.calls g127 t124 t154 t155 (t134.length : Int) t156 t157 t158 w _ ?side1 ?side2 A47.out).mono ?_); (case side1 => repeat (first | (with_reducible first | exact HI127.out | apply IsS58.alloc | apply IsS58.drewN | apply IsS58.drew | apply IsS58.set_1 | apply IsS58.set_2) | exact HI127.out)); (case side2 => repeat (first | (with_reducible first | exact HB.out | apply below_alloc | apply pw_below_drewN | apply below_drew1 | refine below_set ?_ (IsS58.ge HI127.out)) | exact HB.out)); rintro e w53 ⟨rfl, hi, hb, hk⟩; replace HO_5 := Aside0.mk (Kd.R_mono (Kd.R_keep (IsS58.apart (show IsS58 w _ g127 t124 t154 t155 from by repeat (first | (with_reducible first | exact HI127.out | apply IsS58.alloc | apply IsS58.drewN | apply IsS58.drew | apply IsS58.set_1 | apply IsS58.set_2) | exact HI127.out)) (kdQ HO_5) (by decide)) hk (fun _ h => h.2)) (fun _ h => h.1)); replace HO152 := Aside0.mk (Kd.R_mono (Kd.R_keep (IsS58.apart (show IsS58 w _ g127 t124 t154 t155 from by repeat (first | (with_reducible first | exact HI127.out | apply IsS58.alloc | apply IsS58.drewN | apply IsS58.drew | apply IsS58.set_1 | apply IsS58.set_2) | exact HI127.out)) (kdQ HO152) (by decide)) hk (fun _ h => h.2)) (fun _ h => h.1)); replace HB := Aside0.mk (hb); replace HI127 := Aside0.mk (hi); (try clear hb); (try clear hb2); (try clear hk); (try clear hi); have p159 : 0 ≤ (t156 : Int) := of_decide_eq_true (by first | (with_reducible assumption) | assumption); have q159 : t156 < (t134.length : Int) := of_decide_eq_true (by first | (with_reducible assumption) | assumption); obtain ⟨ad159, e159, hx159_0⟩ := Kd.at_int (Kd.R_reads' HO_5.out).2.2 t156 p159 q159; obtain rfl : ad149 = ad159 := (by injection e159); replace p159 := eq_true p159; replace q159 := eq_true q159) | ((with_reducible refine gate_builtin (b := .append) (xs := #[.tmp 95, .tmp 103]) rfl ?_); (try (refine gate_guard (by rfl) ?_; dsimp only)); at_builtin; refine Kd.R_append (Kd.int .i64) (w0 := w) w.heap.size rfl (.tmp 95) (.tmp 103) 28 2 (.int .i64 0) 8 rfl Tryd.underlying28 info2 rfl (by decide) (by omega) v151 y150 (rd t134 t156) [.int .i64 (rd t134 t156)] (fun k_ => some k_ ≠ (.slice (some ad149) t134.length co38 : Value).ownBlock) (fun _ => False) rfl rfl ?aP (fun _ hk => hk.elim) ?aF ?aO ?aB ?aS ?aL ?_; (case aP => exact rfl); (case aB => exact (by repeat (first | (with_reducible first | exact HB.out | apply below_alloc | apply pw_below_drewN | apply below_drew1 | refine below_set ?_ (IsS58.ge HI127.out)) | exact HB.out))); (case aF => exact (fun k_ hk => Kd.fresh' (Kd.R_lt (kdQ HO_5)) k_ hk)); (case aO => exact (kdQ HO152)); (case aS => exact (below_size (by repeat (first | (with_reducible first | exact HB.out | apply below_alloc | apply pw_below_drewN | apply below_drew1 | refine below_set ?_ (IsS58.ge HI127.out)) | exact HB.out)))); (case aL => have := LMc50.out; omega); intro v161 w54 ho hb hg hat; rw [← Ny160.out] at ho; have n0_ := Aside0.mk (Kd.R_after (ok := (fun _ => True)) (kdQ HO_5) hg hat); have n1_ := Aside0.mk (IsS58.grown (by repeat (first | (with_reducible first | exact HI127.out | apply IsS58.alloc | apply IsS58.drewN | apply IsS58.drew | apply IsS58.set_1 | apply IsS58.set_2) | exact HI127.out)) hg (IsS58.own_ne HI127.out HO152.out (by decide))); have n2_ := Aside0.mk (hb); have n3_ := Aside0.mk (ho); clear HO_5; clear HI127; clear HB; clear HO152; have HO_5 := n0_; have HI127 := n1_; have HB := n2_; have HO162 := n3_; clear n0_ n1_ n2_ n3_; clear ho hb hg hat))
                  repeat (go_quiet (first | ((with_reducible refine gate_builtin (b := .append) (xs := #[.tmp 85, .tmp 90]) rfl ?_); (try (refine gate_guard (by rfl) ?_; dsimp only)); at_builtin; refine Kd.R_append (Kd.int .i64) (w0 := w) w.heap.size rfl (.tmp 85) (.tmp 90) 28 2 (.int .i64 0) 8 rfl Tryd.underlying28 info2 rfl (by decide) (by omega) u8 x8_3 (rd t134 x9_3) [.int .i64 (rd t134 x9_3)] (fun k_ => some k_ ≠ (.slice (some ad149) t134.length co38 : Value).ownBlock) (fun _ => False) rfl rfl ?aP (fun _ hk => hk.elim) ?aF ?aO ?aB ?aS ?aL ?_; (case aP => exact rfl); (case aB => exact (by repeat (first | (with_reducible first | exact HB.out | apply below_alloc | apply pw_below_drewN | apply below_drew1 | refine below_set ?_ (IsS58.ge HI127.out)) | exact HB.out))); (case aF => exact (fun k_ hk => Kd.fresh' (Kd.R_lt (kdQ HO_5)) k_ hk)); (case aO => exact (kdQ HO_8)); (case aS => exact (below_size (by repeat (first | (with_reducible first | exact HB.out | apply below_alloc | apply pw_below_drewN | apply below_drew1 | refine below_set ?_ (IsS58.ge HI127.out)) | exact HB.out)))); (case aL => have := LMc44.out; omega); intro v151 w51 ho hb hg hat; rw [← Ny150.out] at ho; have n0_ := Aside0.mk (Kd.R_after (ok := (fun _ => True)) (by (with_reducible repeat (first | apply Kd.R_alloc | apply Kd.R_drewN | apply Kd.R_drew)); exact Kd.R_mono HO_5.out (fun _ hk => ⟨trivial, hk⟩)) hg hat); have n1_ := Aside0.mk (IsS58.grown (by repeat (first | (with_reducible first | exact HI127.out | apply IsS58.alloc | apply IsS58.drewN | apply IsS58.drew | apply IsS58.set_1 | apply IsS58.set_2) | exact HI127.out)) hg (IsS58.own_ne HI127.out HO_8.out (by decide))); have n2_ := Aside0.mk (hb); have n3_ := Aside0.mk (ho); clear HO_5; clear HI127; clear HB; clear HO_8; have HO_5 := n0_; have HI127 := n1_; have HB := n2_; have HO152 := n3_; clear n0_ n1_ n2_ n3_; clear ho hb hg hat) | (go_at_call 15; (with_reducible refine (laws_dice_below.calls g127 t124 x128001_3 x128002_3 3 t153 t154 t155 w _ ?side1 ?side2 A45.out).mono ?_); (case side1 => repeat (first | (with_reducible first | exact HI127.out | apply IsS58.alloc | apply IsS58.drewN | apply IsS58.drew | apply IsS58.set_1 | apply IsS58.set_2) | exact HI127.out)); (case side2 => repeat (first | (with_reducible first | exact HB.out | apply below_alloc | apply pw_below_drewN | apply below_drew1 | refine below_set ?_ (IsS58.ge HI127.out)) | exact HB.out)); rintro e w52 ⟨rfl, hi, hb, hk⟩; replace HO_5 := Aside0.mk (Kd.R_mono (Kd.R_keep (IsS58.apart (show IsS58 w _ g127 t124 x128001_3 x128002_3 from by repeat (first | (with_reducible first | exact HI127.out | apply IsS58.alloc | apply IsS58.drewN | apply IsS58.drew | apply IsS58.set_1 | apply IsS58.set_2) | exact HI127.out)) (kdQ HO_5) (by decide)) hk (fun _ h => h.2)) (fun _ h => h.1)); replace HO152 := Aside0.mk (Kd.R_mono (Kd.R_keep (IsS58.apart (show IsS58 w _ g127 t124 x128001_3 x128002_3 from by repeat (first | (with_reducible first | exact HI127.out | apply IsS58.alloc | apply IsS58.drewN | apply IsS58.drew | apply IsS58.set_1 | apply IsS58.set_2) | exact HI127.out)) (kdQ HO152) (by decide)) hk (fun _ h => h.2)) (fun _ h => h.1)); replace HB := Aside0.mk (hb); replace HI127 := Aside0.mk (hi); (try clear hb); (try clear hb2); (try clear hk); (try clear hi)) | (go_at_call 15; (with_reducible refine (laws_dice_below.calls g127 t124 t154 t155 (t134.length : Int) t156 t157 t158 w _ ?side1 ?side2 A47.out).mono ?_); (case side1 => repeat (first | (with_reducible first | exact HI127.out | apply IsS58.alloc | apply IsS58.drewN | apply IsS58.drew | apply IsS58.set_1 | apply IsS58.set_2) | exact HI127.out)); (case side2 => repeat (first | (with_reducible first | exact HB.out | apply below_alloc | apply pw_below_drewN | apply below_drew1 | refine below_set ?_ (IsS58.ge HI127.out)) | exact HB.out)); rintro e w53 ⟨rfl, hi, hb, hk⟩; replace HO_5 := Aside0.mk (Kd.R_mono (Kd.R_keep (IsS58.apart (show IsS58 w _ g127 t124 t154 t155 from by repeat (first | (with_reducible first | exact HI127.out | apply IsS58.alloc | apply IsS58.drewN | apply IsS58.drew | apply IsS58.set_1 | apply IsS58.set_2) | exact HI127.out)) (kdQ HO_5) (by decide)) hk (fun _ h => h.2)) (fun _ h => h.1)); replace HO152 := Aside0.mk (Kd.R_mono (Kd.R_keep (IsS58.apart (show IsS58 w _ g127 t124 t154 t155 from by repeat (first | (with_reducible first | exact HI127.out | apply IsS58.alloc | apply IsS58.drewN | apply IsS58.drew | apply IsS58.set_1 | apply IsS58.set_2) | exact HI127.out)) (kdQ HO152) (by decide)) hk (fun _ h => h.2)) (fun _ h => h.1)); replace HB := Aside0.mk (hb); replace HI127 := Aside0.mk (hi); (try clear hb); (try clear hb2); (try clear hk); (try clear hi); have p159 : 0 ≤ (t156 : Int) := of_decide_eq_true (by first | (with_reducible assumption) | assumption); have q159 : t156 < (t134.length : Int) := of_decide_eq_true (by first | (with_reducible assumption) | assumption); obtain ⟨ad159, e159, hx159_0⟩ := Kd.at_int (Kd.R_reads' HO_5.out).2.2 t156 p159 q159; obtain rfl : ad149 = ad159 := (by injection e159); replace p159 := eq_true p159; replace q159 := eq_true q159) | ((with_reducible refine gate_builtin (b := .append) (xs := #[.tmp 95, .tmp 103]) rfl ?_); (try (refine gate_guard (by rfl) ?_; dsimp only)); at_builtin; refine Kd.R_append (Kd.int .i64) (w0 := w) w.heap.size rfl (.tmp 95) (.tmp 103) 28 2 (.int .i64 0) 8 rfl Tryd.underlying28 info2 rfl (by decide) (by omega) v151 y150 (rd t134 t156) [.int .i64 (rd t134 t156)] (fun k_ => some k_ ≠ (.slice (some ad149) t134.length co38 : Value).ownBlock) (fun _ => False) rfl rfl ?aP (fun _ hk => hk.elim) ?aF ?aO ?aB ?aS ?aL ?_; (case aP => exact rfl); (case aB => exact (by repeat (first | (with_reducible first | exact HB.out | apply below_alloc | apply pw_below_drewN | apply below_drew1 | refine below_set ?_ (IsS58.ge HI127.out)) | exact HB.out))); (case aF => exact (fun k_ hk => Kd.fresh' (Kd.R_lt (kdQ HO_5)) k_ hk)); (case aO => exact (kdQ HO152)); (case aS => exact (below_size (by repeat (first | (with_reducible first | exact HB.out | apply below_alloc | apply pw_below_drewN | apply below_drew1 | refine below_set ?_ (IsS58.ge HI127.out)) | exact HB.out)))); (case aL => have := LMc50.out; omega); intro v161 w54 ho hb hg hat; rw [← Ny160.out] at ho; have n0_ := Aside0.mk (Kd.R_after (ok := (fun _ => True)) (kdQ HO_5) hg hat); have n1_ := Aside0.mk (IsS58.grown (by repeat (first | (with_reducible first | exact HI127.out | apply IsS58.alloc | apply IsS58.drewN | apply IsS58.drew | apply IsS58.set_1 | apply IsS58.set_2) | exact HI127.out)) hg (IsS58.own_ne HI127.out HO152.out (by decide))); have n2_ := Aside0.mk (hb); have n3_ := Aside0.mk (ho); clear HO_5; clear HI127; clear HB; clear HO152; have HO_5 := n0_; have HI127 := n1_; have HB := n2_; have HO162 := n3_; clear n0_ n1_ n2_ n3_; clear ho hb hg hat)); try go_wp2_with (first | ((with_reducible refine gate_builtin (b := .append) (xs := #[.tmp 85, .tmp 90]) rfl ?_); (try (refine gate_guard (by rfl) ?_; dsimp only)); at_builtin; refine Kd.R_append (Kd.int .i64) (w0 := w) w.heap.size rfl (.tmp 85) (.tmp 90) 28 2 (.int .i64 0) 8 rfl Tryd.underlying28 info2 rfl (by decide) (by omega) u8 x8_3 (rd t134 x9_3) [.int .i64 (rd t134 x9_3)] (fun k_ => some k_ ≠ (.slice (some ad149) t134.length co38 : Value).ownBlock) (fun _ => False) rfl rfl ?aP (fun _ hk => hk.elim) ?aF ?aO ?aB ?aS ?aL ?_; (case aP => exact rfl); (case aB => exact (by repeat (first | (with_reducible first | exact HB.out | apply below_alloc | apply pw_below_drewN | apply below_drew1 | refine below_set ?_ (IsS58.ge HI127.out)) | exact HB.out))); (case aF => exact (fun k_ hk => Kd.fresh' (Kd.R_lt (kdQ HO_5)) k_ hk)); (case aO => exact (kdQ HO_8)); (case aS => exact (below_size (by repeat (first | (with_reducible first | exact HB.out | apply below_alloc | apply pw_below_drewN | apply below_drew1 | refine below_set ?_ (IsS58.ge HI127.out)) | exact HB.out)))); (case aL => have := LMc44.out; omega); intro v151 w51 ho hb hg hat; rw [← Ny150.out] at ho; have n0_ := Aside0.mk (Kd.R_after (ok := (fun _ => True)) (by (with_reducible repeat (first | apply Kd.R_alloc | apply Kd.R_drewN | apply Kd.R_drew)); exact Kd.R_mono HO_5.out (fun _ hk => ⟨trivial, hk⟩)) hg hat); have n1_ := Aside0.mk (IsS58.grown (by repeat (first | (with_reducible first | exact HI127.out | apply IsS58.alloc | apply IsS58.drewN | apply IsS58.drew | apply IsS58.set_1 | apply IsS58.set_2) | exact HI127.out)) hg (IsS58.own_ne HI127.out HO_8.out (by decide))); have n2_ := Aside0.mk (hb); have n3_ := Aside0.mk (ho); clear HO_5; clear HI127; clear HB; clear HO_8; have HO_5 := n0_; have HI127 := n1_; have HB := n2_; have HO152 := n3_; clear n0_ n1_ n2_ n3_; clear ho hb hg hat) | (go_at_call 15; (with_reducible refine (laws_dice_below.calls g127 t124 x128001_3 x128002_3 3 t153 t154 t155 w _ ?side1 ?side2 A45.out).mono ?_); (case side1 => repeat (first | (with_reducible first | exact HI127.out | apply IsS58.alloc | apply IsS58.drewN | apply IsS58.drew | apply IsS58.set_1 | apply IsS58.set_2) | exact HI127.out)); (case side2 => repeat (first | (with_reducible first | exact HB.out | apply below_alloc | apply pw_below_drewN | apply below_drew1 | refine below_set ?_ (IsS58.ge HI127.out)) | exact HB.out)); rintro e w52 ⟨rfl, hi, hb, hk⟩; replace HO_5 := Aside0.mk (Kd.R_mono (Kd.R_keep (IsS58.apart (show IsS58 w _ g127 t124 x128001_3 x128002_3 from by repeat (first | (with_reducible first | exact HI127.out | apply IsS58.alloc | apply IsS58.drewN | apply IsS58.drew | apply IsS58.set_1 | apply IsS58.set_2) | exact HI127.out)) (kdQ HO_5) (by decide)) hk (fun _ h => h.2)) (fun _ h => h.1)); replace HO152 := Aside0.mk (Kd.R_mono (Kd.R_keep (IsS58.apart (show IsS58 w _ g127 t124 x128001_3 x128002_3 from by repeat (first | (with_reducible first | exact HI127.out | apply IsS58.alloc | apply IsS58.drewN | apply IsS58.drew | apply IsS58.set_1 | apply IsS58.set_2) | exact HI127.out)) (kdQ HO152) (by decide)) hk (fun _ h => h.2)) (fun _ h => h.1)); replace HB := Aside0.mk (hb); replace HI127 := Aside0.mk (hi); (try clear hb); (try clear hb2); (try clear hk); (try clear hi)) | (go_at_call 15; (with_reducible refine (laws_dice_below.calls g127 t124 t154 t155 (t134.length : Int) t156 t157 t158 w _ ?side1 ?side2 A47.out).mono ?_); (case side1 => repeat (first | (with_reducible first | exact HI127.out | apply IsS58.alloc | apply IsS58.drewN | apply IsS58.drew | apply IsS58.set_1 | apply IsS58.set_2) | exact HI127.out)); (case side2 => repeat (first | (with_reducible first | exact HB.out | apply below_alloc | apply pw_below_drewN | apply below_drew1 | refine below_set ?_ (IsS58.ge HI127.out)) | exact HB.out)); rintro e w53 ⟨rfl, hi, hb, hk⟩; replace HO_5 := Aside0.mk (Kd.R_mono (Kd.R_keep (IsS58.apart (show IsS58 w _ g127 t124 t154 t155 from by repeat (first | (with_reducible first | exact HI127.out | apply IsS58.alloc | apply IsS58.drewN | apply IsS58.drew | apply IsS58.set_1 | apply IsS58.set_2) | exact HI127.out)) (kdQ HO_5) (by decide)) hk (fun _ h => h.2)) (fun _ h => h.1)); replace HO152 := Aside0.mk (Kd.R_mono (Kd.R_keep (IsS58.apart (show IsS58 w _ g127 t124 t154 t155 from by repeat (first | (with_reducible first | exact HI127.out | apply IsS58.alloc | apply IsS58.drewN | apply IsS58.drew | apply IsS58.set_1 | apply IsS58.set_2) | exact HI127.out)) (kdQ HO152) (by decide)) hk (fun _ h => h.2)) (fun _ h => h.1)); replace HB := Aside0.mk (hb); replace HI127 := Aside0.mk (hi); (try clear hb); (try clear hb2); (try clear hk); (try clear hi); have p159 : 0 ≤ (t156 : Int) := of_decide_eq_true (by first | (with_reducible assumption) | assumption); have q159 : t156 < (t134.length : Int) := of_decide_eq_true (by first | (with_reducible assumption) | assumption); obtain ⟨ad159, e159, hx159_0⟩ := Kd.at_int (Kd.R_reads' HO_5.out).2.2 t156 p159 q159; obtain rfl : ad149 = ad159 := (by injection e159); replace p159 := eq_true p159; replace q159 := eq_true q159) | ((with_reducible refine gate_builtin (b := .append) (xs := #[.tmp 95, .tmp 103]) rfl ?_); (try (refine gate_guard (by rfl) ?_; dsimp only)); at_builtin; refine Kd.R_append (Kd.int .i64) (w0 := w) w.heap.size rfl (.tmp 95) (.tmp 103) 28 2 (.int .i64 0) 8 rfl Tryd.underlying28 info2 rfl (by decide) (by omega) v151 y150 (rd t134 t156) [.int .i64 (rd t134 t156)] (fun k_ => some k_ ≠ (.slice (some ad149) t134.length co38 : Value).ownBlock) (fun _ => False) rfl rfl ?aP (fun _ hk => hk.elim) ?aF ?aO ?aB ?aS ?aL ?_; (case aP => exact rfl); (case aB => exact (by repeat (first | (with_reducible first | exact HB.out | apply below_alloc | apply pw_below_drewN | apply below_drew1 | refine below_set ?_ (IsS58.ge HI127.out)) | exact HB.out))); (case aF => exact (fun k_ hk => Kd.fresh' (Kd.R_lt (kdQ HO_5)) k_ hk)); (case aO => exact (kdQ HO152)); (case aS => exact (below_size (by repeat (first | (with_reducible first | exact HB.out | apply below_alloc | apply pw_below_drewN | apply below_drew1 | refine below_set ?_ (IsS58.ge HI127.out)) | exact HB.out)))); (case aL => have := LMc50.out; omega); intro v161 w54 ho hb hg hat; rw [← Ny160.out] at ho; have n0_ := Aside0.mk (Kd.R_after (ok := (fun _ => True)) (kdQ HO_5) hg hat); have n1_ := Aside0.mk (IsS58.grown (by repeat (first | (with_reducible first | exact HI127.out | apply IsS58.alloc | apply IsS58.drewN | apply IsS58.drew | apply IsS58.set_1 | apply IsS58.set_2) | exact HI127.out)) hg (IsS58.own_ne HI127.out HO152.out (by decide))); have n2_ := Aside0.mk (hb); have n3_ := Aside0.mk (ho); clear HO_5; clear HI127; clear HB; clear HO152; have HO_5 := n0_; have HI127 := n1_; have HB := n2_; have HO162 := n3_; clear n0_ n1_ n2_ n3_; clear ho hb hg hat)))
                  go_roundg k3
                  case measure => have := HJ7.out; have := HK2.out; have := HK3.out; omega
                  case rel => exact ⟨(y160), (wrap64 (x9_3 - 1)), (t157), (t158), sz, H', ⟨by have := HJ7.out; have := HK2.out; have := HK3.out; omega⟩, ⟨by (with_reducible repeat (first | apply Kd.R_alloc | apply Kd.R_drewN | apply Kd.R_drew)); exact Kd.R_mono HO_5.out (fun _ hk => hk.2)⟩, ⟨kdQ HO162⟩, ⟨by repeat (first | (with_reducible first | exact HI127.out | apply IsS58.alloc | apply IsS58.drewN | apply IsS58.drew | apply IsS58.set_1 | apply IsS58.set_2) | exact HI127.out)⟩, ⟨by repeat (first | (with_reducible first | exact HB.out | apply below_alloc | apply pw_below_drewN | apply below_drew1 | refine below_set ?_ (IsS58.ge HI127.out)) | exact HB.out)⟩⟩
                 ·rw [if_neg c50] at H
                  exact absurd H (by simp)
                ·rw [if_neg c49] at H
                 exact absurd H (by simp)
               ·rw [if_neg c48] at H
                exact absurd H (by simp)
              ·rw [if_neg c46] at H
               have c46b0 : (t153 == 0) = false := beq_eq_false_iff_ne.mpr c46
               have c46b1 : (t153 != 0) = true := bne_iff_ne.mpr c46
               have H' := Aside0.mk H
               clear H
               have p149 : 0 ≤ (x9_3 : Int) := of_decide_eq_true (by first | (with_reducible assumption) | assumption)
               have q149 : x9_3 < (t134.length : Int) := of_decide_eq_true (by first | (with_reducible assumption) | assumption)
               obtain ⟨ad149, e149, hx149_0⟩ := Kd.at_int (Kd.R_reads' HO_5.out).2.2 x9_3 p149 q149; cases e149; replace p149 := eq_true p149; replace q149 := eq_true q149
               go_wp2_with (first | ((with_reducible refine gate_builtin (b := .append) (xs := #[.tmp 85, .tmp 90]) rfl ?_); (try (refine gate_guard (by rfl) ?_; dsimp only)); at_builtin; refine Kd.R_append (Kd.int .i64) (w0 := w) w.heap.size rfl (.tmp 85) (.tmp 90) 28 2 (.int .i64 0) 8 rfl Tryd.underlying28 info2 rfl (by decide) (by omega) u8 x8_3 (rd t134 x9_3) [.int .i64 (rd t134 x9_3)] (fun k_ => some k_ ≠ (.slice (some ad149) t134.length co38 : Value).ownBlock) (fun _ => False) rfl rfl ?aP (fun _ hk => hk.elim) ?aF ?aO ?aB ?aS ?aL ?_; (case aP => exact rfl); (case aB => exact (by repeat (first | (with_reducible first | exact HB.out | apply below_alloc | apply pw_below_drewN | apply below_drew1 | refine below_set ?_ (IsS58.ge HI127.out)) | exact HB.out))); (case aF => exact (fun k_ hk => Kd.fresh' (Kd.R_lt (kdQ HO_5)) k_ hk)); (case aO => exact (kdQ HO_8)); (case aS => exact (below_size (by repeat (first | (with_reducible first | exact HB.out | apply below_alloc | apply pw_below_drewN | apply below_drew1 | refine below_set ?_ (IsS58.ge HI127.out)) | exact HB.out)))); (case aL => have := LMc44.out; omega); intro v151 w55 ho hb hg hat; rw [← Ny150.out] at ho; have n0_ := Aside0.mk (Kd.R_after (ok := (fun _ => True)) (by (with_reducible repeat (first | apply Kd.R_alloc | apply Kd.R_drewN | apply Kd.R_drew)); exact Kd.R_mono HO_5.out (fun _ hk => ⟨trivial, hk⟩)) hg hat); have n1_ := Aside0.mk (IsS58.grown (by repeat (first | (with_reducible first | exact HI127.out | apply IsS58.alloc | apply IsS58.drewN | apply IsS58.drew | apply IsS58.set_1 | apply IsS58.set_2) | exact HI127.out)) hg (IsS58.own_ne HI127.out HO_8.out (by decide))); have n2_ := Aside0.mk (hb); have n3_ := Aside0.mk (ho); clear HO_5; clear HI127; clear HB; clear HO_8; have HO_5 := n0_; have HI127 := n1_; have HB := n2_; have HO152 := n3_; clear n0_ n1_ n2_ n3_; clear ho hb hg hat) | (go_at_call 15; (with_reducible refine (laws_dice_below.calls g127 t124 x128001_3 x128002_3 3 t153 t154 t155 w _ ?side1 ?side2 A45.out).mono ?_); (case side1 => repeat (first | (with_reducible first | exact HI127.out | apply IsS58.alloc | apply IsS58.drewN | apply IsS58.drew | apply IsS58.set_1 | apply IsS58.set_2) | exact HI127.out)); (case side2 => repeat (first | (with_reducible first | exact HB.out | apply below_alloc | apply pw_below_drewN | apply below_drew1 | refine below_set ?_ (IsS58.ge HI127.out)) | exact HB.out)); rintro e w56 ⟨rfl, hi, hb, hk⟩; replace HO_5 := Aside0.mk (Kd.R_mono (Kd.R_keep (IsS58.apart (show IsS58 w _ g127 t124 x128001_3 x128002_3 from by repeat (first | (with_reducible first | exact HI127.out | apply IsS58.alloc | apply IsS58.drewN | apply IsS58.drew | apply IsS58.set_1 | apply IsS58.set_2) | exact HI127.out)) (kdQ HO_5) (by decide)) hk (fun _ h => h.2)) (fun _ h => h.1)); replace HO152 := Aside0.mk (Kd.R_mono (Kd.R_keep (IsS58.apart (show IsS58 w _ g127 t124 x128001_3 x128002_3 from by repeat (first | (with_reducible first | exact HI127.out | apply IsS58.alloc | apply IsS58.drewN | apply IsS58.drew | apply IsS58.set_1 | apply IsS58.set_2) | exact HI127.out)) (kdQ HO152) (by decide)) hk (fun _ h => h.2)) (fun _ h => h.1)); replace HB := Aside0.mk (hb); replace HI127 := Aside0.mk (hi); (try clear hb); (try clear hb2); (try clear hk); (try clear hi)))
               repeat (go_quiet (first | ((with_reducible refine gate_builtin (b := .append) (xs := #[.tmp 85, .tmp 90]) rfl ?_); (try (refine gate_guard (by rfl) ?_; dsimp only)); at_builtin; refine Kd.R_append (Kd.int .i64) (w0 := w) w.heap.size rfl (.tmp 85) (.tmp 90) 28 2 (.int .i64 0) 8 rfl Tryd.underlying28 info2 rfl (by decide) (by omega) u8 x8_3 (rd t134 x9_3) [.int .i64 (rd t134 x9_3)] (fun k_ => some k_ ≠ (.slice (some ad149) t134.length co38 : Value).ownBlock) (fun _ => False) rfl rfl ?aP (fun _ hk => hk.elim) ?aF ?aO ?aB ?aS ?aL ?_; (case aP => exact rfl); (case aB => exact (by repeat (first | (with_reducible first | exact HB.out | apply below_alloc | apply pw_below_drewN | apply below_drew1 | refine below_set ?_ (IsS58.ge HI127.out)) | exact HB.out))); (case aF => exact (fun k_ hk => Kd.fresh' (Kd.R_lt (kdQ HO_5)) k_ hk)); (case aO => exact (kdQ HO_8)); (case aS => exact (below_size (by repeat (first | (with_reducible first | exact HB.out | apply below_alloc | apply pw_below_drewN | apply below_drew1 | refine below_set ?_ (IsS58.ge HI127.out)) | exact HB.out)))); (case aL => have := LMc44.out; omega); intro v151 w55 ho hb hg hat; rw [← Ny150.out] at ho; have n0_ := Aside0.mk (Kd.R_after (ok := (fun _ => True)) (by (with_reducible repeat (first | apply Kd.R_alloc | apply Kd.R_drewN | apply Kd.R_drew)); exact Kd.R_mono HO_5.out (fun _ hk => ⟨trivial, hk⟩)) hg hat); have n1_ := Aside0.mk (IsS58.grown (by repeat (first | (with_reducible first | exact HI127.out | apply IsS58.alloc | apply IsS58.drewN | apply IsS58.drew | apply IsS58.set_1 | apply IsS58.set_2) | exact HI127.out)) hg (IsS58.own_ne HI127.out HO_8.out (by decide))); have n2_ := Aside0.mk (hb); have n3_ := Aside0.mk (ho); clear HO_5; clear HI127; clear HB; clear HO_8; have HO_5 := n0_; have HI127 := n1_; have HB := n2_; have HO152 := n3_; clear n0_ n1_ n2_ n3_; clear ho hb hg hat) | (go_at_call 15; (with_reducible refine (laws_dice_below.calls g127 t124 x128001_3 x128002_3 3 t153 t154 t155 w _ ?side1 ?side2 A45.out).mono ?_); (case side1 => repeat (first | (with_reducible first | exact HI127.out | apply IsS58.alloc | apply IsS58.drewN | apply IsS58.drew | apply IsS58.set_1 | apply IsS58.set_2) | exact HI127.out)); (case side2 => repeat (first | (with_reducible first | exact HB.out | apply below_alloc | apply pw_below_drewN | apply below_drew1 | refine below_set ?_ (IsS58.ge HI127.out)) | exact HB.out)); rintro e w56 ⟨rfl, hi, hb, hk⟩; replace HO_5 := Aside0.mk (Kd.R_mono (Kd.R_keep (IsS58.apart (show IsS58 w _ g127 t124 x128001_3 x128002_3 from by repeat (first | (with_reducible first | exact HI127.out | apply IsS58.alloc | apply IsS58.drewN | apply IsS58.drew | apply IsS58.set_1 | apply IsS58.set_2) | exact HI127.out)) (kdQ HO_5) (by decide)) hk (fun _ h => h.2)) (fun _ h => h.1)); replace HO152 := Aside0.mk (Kd.R_mono (Kd.R_keep (IsS58.apart (show IsS58 w _ g127 t124 x128001_3 x128002_3 from by repeat (first | (with_reducible first | exact HI127.out | apply IsS58.alloc | apply IsS58.drewN | apply IsS58.drew | apply IsS58.set_1 | apply IsS58.set_2) | exact HI127.out)) (kdQ HO152) (by decide)) hk (fun _ h => h.2)) (fun _ h => h.1)); replace HB := Aside0.mk (hb); replace HI127 := Aside0.mk (hi); (try clear hb); (try clear hb2); (try clear hk); (try clear hi))); try go_wp2_with (first | ((with_reducible refine gate_builtin (b := .append) (xs := #[.tmp 85, .tmp 90]) rfl ?_); (try (refine gate_guard (by rfl) ?_; dsimp only)); at_builtin; refine Kd.R_append (Kd.int .i64) (w0 := w) w.heap.size rfl (.tmp 85) (.tmp 90) 28 2 (.int .i64 0) 8 rfl Tryd.underlying28 info2 rfl (by decide) (by omega) u8 x8_3 (rd t134 x9_3) [.int .i64 (rd t134 x9_3)] (fun k_ => some k_ ≠ (.slice (some ad149) t134.length co38 : Value).ownBlock) (fun _ => False) rfl rfl ?aP (fun _ hk => hk.elim) ?aF ?aO ?aB ?aS ?aL ?_; (case aP => exact rfl); (case aB => exact (by repeat (first | (with_reducible first | exact HB.out | apply below_alloc | apply pw_below_drewN | apply below_drew1 | refine below_set ?_ (IsS58.ge HI127.out)) | exact HB.out))); (case aF => exact (fun k_ hk => Kd.fresh' (Kd.R_lt (kdQ HO_5)) k_ hk)); (case aO => exact (kdQ HO_8)); (case aS => exact (below_size (by repeat (first | (with_reducible first | exact HB.out | apply below_alloc | apply pw_below_drewN | apply below_drew1 | refine below_set ?_ (IsS58.ge HI127.out)) | exact HB.out)))); (case aL => have := LMc44.out; omega); intro v151 w55 ho hb hg hat; rw [← Ny150.out] at ho; have n0_ := Aside0.mk (Kd.R_after (ok := (fun _ => True)) (by (with_reducible repeat (first | apply Kd.R_alloc | apply Kd.R_drewN | apply Kd.R_drew)); exact Kd.R_mono HO_5.out (fun _ hk => ⟨trivial, hk⟩)) hg hat); have n1_ := Aside0.mk (IsS58.grown (by repeat (first | (with_reducible first | exact HI127.out | apply IsS58.alloc | apply IsS58.drewN | apply IsS58.drew | apply IsS58.set_1 | apply IsS58.set_2) | exact HI127.out)) hg (IsS58.own_ne HI127.out HO_8.out (by decide))); have n2_ := Aside0.mk (hb); have n3_ := Aside0.mk (ho); clear HO_5; clear HI127; clear HB; clear HO_8; have HO_5 := n0_; have HI127 := n1_; have HB := n2_; have HO152 := n3_; clear n0_ n1_ n2_ n3_; clear ho hb hg hat) | (go_at_call 15; (with_reducible refine (laws_dice_below.calls g127 t124 x128001_3 x128002_3 3 t153 t154 t155 w _ ?side1 ?side2 A45.out).mono ?_); (case side1 => repeat (first | (with_reducible first | exact HI127.out | apply IsS58.alloc | apply IsS58.drewN | apply IsS58.drew | apply IsS58.set_1 | apply IsS58.set_2) | exact HI127.out)); (case side2 => repeat (first | (with_reducible first | exact HB.out | apply below_alloc | apply pw_below_drewN | apply below_drew1 | refine below_set ?_ (IsS58.ge HI127.out)) | exact HB.out)); rintro e w56 ⟨rfl, hi, hb, hk⟩; replace HO_5 := Aside0.mk (Kd.R_mono (Kd.R_keep (IsS58.apart (show IsS58 w _ g127 t124 x128001_3 x128002_3 from by repeat (first | (with_reducible first | exact HI127.out | apply IsS58.alloc | apply IsS58.drewN | apply IsS58.drew | apply IsS58.set_1 | apply IsS58.set_2) | exact HI127.out)) (kdQ HO_5) (by decide)) hk (fun _ h => h.2)) (fun _ h => h.1)); replace HO152 := Aside0.mk (Kd.R_mono (Kd.R_keep (IsS58.apart (show IsS58 w _ g127 t124 x128001_3 x128002_3 from by repeat (first | (with_reducible first | exact HI127.out | apply IsS58.alloc | apply IsS58.drewN | apply IsS58.drew | apply IsS58.set_1 | apply IsS58.set_2) | exact HI127.out)) (kdQ HO152) (by decide)) hk (fun _ h => h.2)) (fun _ h => h.1)); replace HB := Aside0.mk (hb); replace HI127 := Aside0.mk (hi); (try clear hb); (try clear hb2); (try clear hk); (try clear hi))))
               go_roundg k3
               case measure => have := HJ7.out; have := HK2.out; have := HK3.out; omega
               case rel => exact ⟨(y150), (wrap64 (x9_3 - 1)), (t154), (t155), sz, H', ⟨by have := HJ7.out; have := HK2.out; have := HK3.out; omega⟩, ⟨by (with_reducible repeat (first | apply Kd.R_alloc | apply Kd.R_drewN | apply Kd.R_drew)); exact Kd.R_mono HO_5.out (fun _ hk => hk.2)⟩, ⟨kdQ HO152⟩, ⟨by repeat (first | (with_reducible first | exact HI127.out | apply IsS58.alloc | apply IsS58.drewN | apply IsS58.drew | apply IsS58.set_1 | apply IsS58.set_2) | exact HI127.out)⟩, ⟨by repeat (first | (with_reducible first | exact HB.out | apply below_alloc | apply pw_below_drewN | apply below_drew1 | refine below_set ?_ (IsS58.ge HI127.out)) | exact HB.out)⟩⟩
             ·rw [if_neg c44] at H
              exact absurd H (by simp)
            ·rw [if_neg c43] at H
             exact absurd H (by simp)
           ·rw [if_neg c42] at H
            exact absurd H (by simp)
          ·rw [if_neg c41] at H
           have c41b0 : decide (0 ≤ x9_3) = false := decide_eq_false c41
           clear c41; replace H := Option.bind_eq_some_iff.mp H
           obtain ⟨⟨t147, t148⟩, A570, H⟩ := H
           replace H : (if t148 = 0 then (some (t147 == (wrap64 ((wrap64 (t128 * 4096)) + t131)))) else (some false)) = some r := H
           have A57 := Aside0.mk A570; clear A570
           by_cases c58 : t148 = 0
           ·rw [if_pos c58] at H
            have c58b0 : (t148 == 0) = true := beq_iff_eq.mpr c58
            have c58b1 : (t148 != 0) = false := bne_eq_false_iff_eq.mpr c58
            clear c58
            obtain rfl := Option.some.inj H
            obtain ⟨Ao59, co59, eo59⟩ := Kd.R_slice HO_8.out; subst eo59
            go_wp2_with (first | (go_at_call 19; (with_reducible refine (impl_MaskOf.calls k3 _ _ x8_3 t147 t148 _ ?side1 ?side2 A57.out).mono ?_); (case side1 => have q_ := Aside0.mk (Kd.R_reads' HO_8.out).2.2; exact cQ q_); (case side2 => exact (Kd.R_reads' HO_8.out).2.1); rintro e w60 ⟨rfl, hb⟩; replace HO_5 := kb HO_5 hb; replace HO_8 := kb HO_8 hb; replace HB := Aside0.mk (below_step (by repeat (first | (with_reducible first | exact HB.out | apply below_alloc | apply pw_below_drewN | apply below_drew1 | refine below_set ?_ (IsS58.ge HI127.out)) | exact HB.out)) hb); replace HI127 := Aside0.mk (IsS58.below (by repeat (first | (with_reducible first | exact HI127.out | apply IsS58.alloc | apply IsS58.drewN | apply IsS58.drew | apply IsS58.set_1 | apply IsS58.set_2) | exact HI127.out)) hb); (try clear hb); (try clear hb2); (try clear hk); (try clear hi)))
            repeat (go_quiet (first | (go_at_call 19; (with_reducible refine (impl_MaskOf.calls k3 _ _ x8_3 t147 t148 _ ?side1 ?side2 A57.out).mono ?_); (case side1 => have q_ := Aside0.mk (Kd.R_reads' HO_8.out).2.2; exact cQ q_); (case side2 => exact (Kd.R_reads' HO_8.out).2.1); rintro e w60 ⟨rfl, hb⟩; replace HO_5 := kb HO_5 hb; replace HO_8 := kb HO_8 hb; replace HB := Aside0.mk (below_step (by repeat (first | (with_reducible first | exact HB.out | apply below_alloc | apply pw_below_drewN | apply below_drew1 | refine below_set ?_ (IsS58.ge HI127.out)) | exact HB.out)) hb); replace HI127 := Aside0.mk (IsS58.below (by repeat (first | (with_reducible first | exact HI127.out | apply IsS58.alloc | apply IsS58.drewN | apply IsS58.drew | apply IsS58.set_1 | apply IsS58.set_2) | exact HI127.out)) hb); (try clear hb); (try clear hb2); (try clear hk); (try clear hi))); try go_wp2_with (first | (go_at_call 19; (with_reducible refine (impl_MaskOf.calls k3 _ _ x8_3 t147 t148 _ ?side1 ?side2 A57.out).mono ?_); (case side1 => have q_ := Aside0.mk (Kd.R_reads' HO_8.out).2.2; exact cQ q_); (case side2 => exact (Kd.R_reads' HO_8.out).2.1); rintro e w60 ⟨rfl, hb⟩; replace HO_5 := kb HO_5 hb; replace HO_8 := kb HO_8 hb; replace HB := Aside0.mk (below_step (by repeat (first | (with_reducible first | exact HB.out | apply below_alloc | apply pw_below_drewN | apply below_drew1 | refine below_set ?_ (IsS58.ge HI127.out)) | exact HB.out)) hb); replace HI127 := Aside0.mk (IsS58.below (by repeat (first | (with_reducible first | exact HI127.out | apply IsS58.alloc | apply IsS58.drewN | apply IsS58.drew | apply IsS58.set_1 | apply IsS58.set_2) | exact HI127.out)) hb); (try clear hb); (try clear hb2); (try clear hk); (try clear hi))))
            go_ret
            exact ⟨rz, by repeat (first | (with_reducible first | exact HB.out | apply below_alloc | apply pw_below_drewN | apply below_drew1 | refine below_set ?_ (IsS58.ge HI127.out)) | exact HB.out)⟩
           ·rw [if_neg c58] at H
            have c58b0 : (t148 == 0) = false := beq_eq_false_iff_ne.mpr c58
            have c58b1 : (t148 != 0) = true := bne_iff_ne.mpr c58
            obtain rfl := Option.some.inj H
            obtain ⟨Ao61, co61, eo61⟩ := Kd.R_slice HO_8.out; subst eo61
            go_wp2_with (first | (go_at_call 19; (with_reducible refine (impl_MaskOf.calls k3 _ _ x8_3 t147 t148 _ ?side1 ?side2 A57.out).mono ?_); (case side1 => have q_ := Aside0.mk (Kd.R_reads' HO_8.out).2.2; exact cQ q_); (case side2 => exact (Kd.R_reads' HO_8.out).2.1); rintro e w62 ⟨rfl, hb⟩; replace HO_5 := kb HO_5 hb; replace HO_8 := kb HO_8 hb; replace HB := Aside0.mk (below_step (by repeat (first | (with_reducible first | exact HB.out | apply below_alloc | apply pw_below_drewN | apply below_drew1 | refine below_set ?_ (IsS58.ge HI127.out)) | exact HB.out)) hb); replace HI127 := Aside0.mk (IsS58.below (by repeat (first | (with_reducible first | exact HI127.out | apply IsS58.alloc | apply IsS58.drewN | apply IsS58.drew | apply IsS58.set_1 | apply IsS58.set_2) | exact HI127.out)) hb); (try clear hb); (try clear hb2); (try clear hk); (try clear hi)))
            repeat (go_quiet (first | (go_at_call 19; (with_reducible refine (impl_MaskOf.calls k3 _ _ x8_3 t147 t148 _ ?side1 ?side2 A57.out).mono ?_); (case side1 => have q_ := Aside0.mk (Kd.R_reads' HO_8.out).2.2; exact cQ q_); (case side2 => exact (Kd.R_reads' HO_8.out).2.1); rintro e w62 ⟨rfl, hb⟩; replace HO_5 := kb HO_5 hb; replace HO_8 := kb HO_8 hb; replace HB := Aside0.mk (below_step (by repeat (first | (with_reducible first | exact HB.out | apply below_alloc | apply pw_below_drewN | apply below_drew1 | refine below_set ?_ (IsS58.ge HI127.out)) | exact HB.out)) hb); replace HI127 := Aside0.mk (IsS58.below (by repeat (first | (with_reducible first | exact HI127.out | apply IsS58.alloc | apply IsS58.drewN | apply IsS58.drew | apply IsS58.set_1 | apply IsS58.set_2) | exact HI127.out)) hb); (try clear hb); (try clear hb2); (try clear hk); (try clear hi))); try go_wp2_with (first | (go_at_call 19; (with_reducible refine (impl_MaskOf.calls k3 _ _ x8_3 t147 t148 _ ?side1 ?side2 A57.out).mono ?_); (case side1 => have q_ := Aside0.mk (Kd.R_reads' HO_8.out).2.2; exact cQ q_); (case side2 => exact (Kd.R_reads' HO_8.out).2.1); rintro e w62 ⟨rfl, hb⟩; replace HO_5 := kb HO_5 hb; replace HO_8 := kb HO_8 hb; replace HB := Aside0.mk (below_step (by repeat (first | (with_reducible first | exact HB.out | apply below_alloc | apply pw_below_drewN | apply below_drew1 | refine below_set ?_ (IsS58.ge HI127.out)) | exact HB.out)) hb); replace HI127 := Aside0.mk (IsS58.below (by repeat (first | (with_reducible first | exact HI127.out | apply IsS58.alloc | apply IsS58.drewN | apply IsS58.drew | apply IsS58.set_1 | apply IsS58.set_2) | exact HI127.out)) hb); (try clear hb); (try clear hb2); (try clear hk); (try clear hi))))
            go_ret
            exact ⟨rz, by repeat (first | (with_reducible first | exact HB.out | apply below_alloc | apply pw_below_drewN | apply below_drew1 | refine below_set ?_ (IsS58.ge HI127.out)) | exact HB.out)⟩

end Go.Proofs.YtdbdlhjhacbjoaaDoor.G
