/- How the program's functions compute, function by function: each is told by a plain Lean function of the same answers, under the condition that this one answers. Written by a program of this project over the seat's translation; Lean checks it. -/
import Derived.Test.YtclabhnloohccaaDoorG0
import Derived.Test.YtclabhnloohccaaDoorGQ00b
namespace Go.Proofs.YtclabhnloohccaaDoor.G
open Go.RowKit Go.Proofs.YtclabhnloohccaaDoorW.PrintWords Go.Proofs.YtclabhnloohccaaDoorW.PrintLast Go.Proofs.YtclabhnloohccaaDoorW.PrintMore
attribute [local go_sem] max2_int min2_int max_two min_two max_three min_three max_four min_four   -- for this text's walks alone
set_option linter.unusedVariables false
set_option linter.unusedSimpArgs false

/-! ### impl_Alphabet_ties: function 34 -/
def impl_Alphabet_ties.f (a0_0 : Int) (l0_1 : List Int) : Option (List Int) := some l0_1
set_option maxHeartbeats 1000000 in
/-- The dependence of an alphabet is the alphabet's own row, and the call leaves one new block behind. -/
theorem impl_Alphabet_ties.calls (a0_0 : Int) (A0_1 : Option Addr) (n c0_1 : Nat) (w : World) :
    Calls Tryd.prog 34 #[.agg #[.int .i64 a0_0, .slice A0_1 n c0_1]] w fun e w' => e = .returned (.slice A0_1 n c0_1) ∧ w' = w.alloc (.cells #[.int .i64 a0_0, .slice A0_1 n c0_1] 29 (0, 0)) := by
  have hu := Tryd.underlying29
  go_enter Tryd.func34, Tryd.ntmps34
  go_wp2
  go_ret
  exact ⟨rfl, rfl⟩

/-! ### impl_ties_firsts: function 66 -/
def impl_ties_firsts.l0 : Nat → List Int → Int → Int → List Int → Int → Int → Option (Int)
 | 0, _, _, _, _, _, _ => none
 | k + 1, x0, x5, x6, x9, x10, x11 => if x11 < x10 then (if 0 ≤ x11 then (if x11 < (x9.length : Int) then ((impl_has.f x6 (rd x9 x11)).bind fun t281 => (if t281 = true then (if 0 ≤ (rd x9 x11) then (if (rd x9 x11) < (x0.length : Int) then (impl_ties_firsts.l0 k x0 x5 (Go.bits .or .i64 x6 (rd x0 (rd x9 x11))) x9 x10 (wrap64 (x11 + 1))) else (none)) else (none)) else ((impl_one.f (rd x9 x11)).bind fun t283 => (if 0 ≤ (rd x9 x11) then (if (rd x9 x11) < (x0.length : Int) then (impl_ties_firsts.l0 k x0 (Go.bits .or .i64 x5 t283) (Go.bits .or .i64 x6 (rd x0 (rd x9 x11))) x9 x10 (wrap64 (x11 + 1))) else (none)) else (none))))) else (none)) else (none)) else (some x5)
def impl_ties_firsts.f (k : Nat) (l0 : List Int) (l1 : List Int) : Option (Int) := impl_ties_firsts.l0 k l0 0 0 l1 (l1.length : Int) 0
theorem impl_ties_firsts.mono_l : ∀ k, (∀ y0 y1 y2 y3 y4 y5, LeO (impl_ties_firsts.l0 k y0 y1 y2 y3 y4 y5) (impl_ties_firsts.l0 (k + 1) y0 y1 y2 y3 y4 y5))
 | 0 => fun _ _ _ _ _ _ r h => by simp [impl_ties_firsts.l0] at h
 | k + 1 => by
  have ih0 := impl_ties_firsts.mono_l k
  ·intro y0 y1 y2 y3 y4 y5
   unfold impl_ties_firsts.l0
   repeat' first
   | (with_reducible exact ih0 _ _ _ _ _ _)
   | (with_reducible exact LeO.refl _)
   | (with_reducible exact LeO.none _)
   | (with_reducible refine LeO.ite ?_ ?_)
   | (with_reducible refine LeO.bind ?_ (fun _ => ?_))
   | exact ih0 _ _ _ _ _ _
   | exact LeO.none _
   | refine LeO.ite ?_ ?_
   | refine LeO.bind ?_ (fun _ => ?_)
theorem impl_ties_firsts.mono : ∀ a0 a1 k, LeO (impl_ties_firsts.f k a0 a1) (impl_ties_firsts.f (k + 1) a0 a1) := by
 intro a0 a1 k
 have ih0 := impl_ties_firsts.mono_l k
 unfold impl_ties_firsts.f
 repeat' first
   | (with_reducible exact ih0 _ _ _ _ _ _)
   | (with_reducible exact LeO.refl _)
   | (with_reducible exact LeO.none _)
   | (with_reducible refine LeO.ite ?_ ?_)
   | (with_reducible refine LeO.bind ?_ (fun _ => ?_))
   | exact ih0 _ _ _ _ _ _
   | exact LeO.none _
   | refine LeO.ite ?_ ?_
   | refine LeO.bind ?_ (fun _ => ?_)
set_option maxHeartbeats 8000000 in
set_option maxRecDepth 100000 in
theorem impl_ties_firsts.calls (k : Nat) (A0 : Option Addr) (c0 : Nat) (l0 : List Int) (A1 : Option Addr) (c1 : Nat) (l1 : List Int) (r : Int) (w : World) (hr0 : Kd.C (Kd.int .i64) w A0 l0.length l0) (hc0 : l0.length ≤ c0) (hr1 : Kd.C (Kd.int .i64) w A1 l1.length l1) (hc1 : l1.length ≤ c1) (h : impl_ties_firsts.f k l0 l1 = some r) :
  Calls Tryd.prog 66 #[.slice A0 l0.length c0, .slice A1 l1.length c1] w fun e w' => e = .returned (.int .i64 r) ∧ Drawn0 w w' := by
 have HR0 := Aside0.mk hr0; have HC0 := Aside0.mk hc0; clear hr0 hc0; have HR1 := Aside0.mk hr1; have HC1 := Aside0.mk hc1; clear hr1 hc1
 have H : (impl_ties_firsts.l0 k l0 0 0 l1 (l1.length : Int) 0) = some r := h
 clear h
 have H' := Aside0.mk H
 clear H
 go_enter Tryd.func66, Tryd.ntmps66
 go_wp2
 go_loopg [5, 6, 11] k (fun kq v5 v6 v11 w' => ∃ (x5_1 : Int) (x6_1 : Int) (x11_1 : Int), v5 = .int .i64 x5_1 ∧ v6 = .int .i64 x6_1 ∧ v11 = .int .i64 x11_1 ∧ Aside0 (impl_ties_firsts.l0 kq l0 x5_1 x6_1 l1 (l1.length : Int) x11_1 = some r) ∧ Aside0 (kq ≤ k) ∧ Drawn0 w w')
 case atStart => exact ⟨(0), (0), (0), sz, sz, sz, H', ⟨Nat.le_refl _⟩, by repeat (first | exact Drawn0.refl _ | apply Drawn0.step)⟩
 case round =>
  clear H'
  try clear c1
  try clear p2
  obtain ⟨x5_1, x6_1, x11_1, rfl, rfl, rfl, HA, HK1, ⟨m1, rfl⟩⟩ := hrel
  cases gk with
  | zero => exact absurd HA.out (by simp [impl_ties_firsts.l0])
  | succ k1 =>
   have H := HA.out; clear HA
   simp only [impl_ties_firsts.l0] at H
   by_cases c3 : x11_1 < (l1.length : Int)
   ·rw [if_pos c3] at H
    have c3b0 : decide (x11_1 < (l1.length : Int)) = true := decide_eq_true c3
    clear c3
    by_cases c4 : 0 ≤ x11_1
    ·rw [if_pos c4] at H
     have c4b0 : decide (0 ≤ x11_1) = true := decide_eq_true c4
     clear c4
     by_cases c5 : x11_1 < (l1.length : Int)
     ·rw [if_pos c5] at H
      have c5b0 : decide (x11_1 < (l1.length : Int)) = true := decide_eq_true c5
      clear c5; replace H := Option.bind_eq_some_iff.mp H; obtain ⟨t281, A60, H⟩ := H
      replace H : (if t281 = true then (if 0 ≤ (rd l1 x11_1) then (if (rd l1 x11_1) < (l0.length : Int) then (impl_ties_firsts.l0 k1 l0 x5_1 (Go.bits .or .i64 x6_1 (rd l0 (rd l1 x11_1))) l1 (l1.length : Int) (wrap64 (x11_1 + 1))) else (none)) else (none)) else ((impl_one.f (rd l1 x11_1)).bind fun t283 => (if 0 ≤ (rd l1 x11_1) then (if (rd l1 x11_1) < (l0.length : Int) then (impl_ties_firsts.l0 k1 l0 (Go.bits .or .i64 x5_1 t283) (Go.bits .or .i64 x6_1 (rd l0 (rd l1 x11_1))) l1 (l1.length : Int) (wrap64 (x11_1 + 1))) else (none)) else (none)))) = some r := H
      have A6 := Aside0.mk A60; clear A60
      by_cases c7 : t281 = true
      ·subst c7
       have H1 : (if 0 ≤ (rd l1 x11_1) then (if (rd l1 x11_1) < (l0.length : Int) then (impl_ties_firsts.l0 k1 l0 x5_1 (Go.bits .or .i64 x6_1 (rd l0 (rd l1 x11_1))) l1 (l1.length : Int) (wrap64 (x11_1 + 1))) else (none)) else (none)) = some r := by rw [if_pos rfl] at H; exact H
       clear H; have H := H1; clear H1
       by_cases c8 : 0 ≤ (rd l1 x11_1)
       ·rw [if_pos c8] at H
        have c8b0 : decide (0 ≤ (rd l1 x11_1)) = true := decide_eq_true c8
        clear c8
        by_cases c9 : (rd l1 x11_1) < (l0.length : Int)
        ·rw [if_pos c9] at H
         have c9b0 : decide ((rd l1 x11_1) < (l0.length : Int)) = true := decide_eq_true c9
         clear c9
         have H' := Aside0.mk H
         clear H
         have p280 : 0 ≤ (x11_1 : Int) := of_decide_eq_true (by first | (with_reducible assumption) | assumption)
         have q280 : x11_1 < (l1.length : Int) := of_decide_eq_true (by first | (with_reducible assumption) | assumption)
         obtain ⟨ad280, e280, hx280_0⟩ := Kd.at_int HR1.out x11_1 p280 q280; cases e280; replace p280 := eq_true p280; replace q280 := eq_true q280
         go_wp2_with (first | ((with_reducible refine gate_callee (f := 50) rfl ?_); refine goesL_ (some 17) rfl rfl Tryd.func50 (by kernel_rfl) rfl #[.int .i64 x6_1, .int .i64 (rd l1 x11_1)] rfl lz ?_; (with_reducible refine (impl_has.calls x6_1 (rd l1 x11_1) true _ A6.out).mono ?_); rintro e w' ⟨rfl, ⟨nd, rfl⟩⟩; refine ⟨_, rfl, ?_⟩; have p282 : 0 ≤ ((rd l1 x11_1) : Int) := of_decide_eq_true (by first | (with_reducible assumption) | assumption); have q282 : (rd l1 x11_1) < (l0.length : Int) := of_decide_eq_true (by first | (with_reducible assumption) | assumption); obtain ⟨ad282, e282, hx282_0⟩ := Kd.at_int HR0.out (rd l1 x11_1) p282 q282; cases e282; replace p282 := eq_true p282; replace q282 := eq_true q282))
         go_roundg k1
         case measure => have := HK1.out; omega
         case rel => exact ⟨(x5_1), (Go.bits .or .i64 x6_1 (rd l0 (rd l1 x11_1))), (wrap64 (x11_1 + 1)), sz, sz, sz, H', ⟨by have := HK1.out; omega⟩, by repeat (first | exact Drawn0.refl _ | apply Drawn0.step)⟩
        ·rw [if_neg c9] at H
         exact absurd H (by simp)
       ·rw [if_neg c8] at H
        exact absurd H (by simp)
      ·replace c7 := Bool.eq_false_iff.mpr c7
       subst c7
       have H1 : ((impl_one.f (rd l1 x11_1)).bind fun t283 => (if 0 ≤ (rd l1 x11_1) then (if (rd l1 x11_1) < (l0.length : Int) then (impl_ties_firsts.l0 k1 l0 (Go.bits .or .i64 x5_1 t283) (Go.bits .or .i64 x6_1 (rd l0 (rd l1 x11_1))) l1 (l1.length : Int) (wrap64 (x11_1 + 1))) else (none)) else (none))) = some r := by rw [if_neg (show ¬ (false = true) by decide)] at H; exact H
       clear H; have H := H1; clear H1; replace H := Option.bind_eq_some_iff.mp H; obtain ⟨t283, A100, H⟩ := H
       replace H : (if 0 ≤ (rd l1 x11_1) then (if (rd l1 x11_1) < (l0.length : Int) then (impl_ties_firsts.l0 k1 l0 (Go.bits .or .i64 x5_1 t283) (Go.bits .or .i64 x6_1 (rd l0 (rd l1 x11_1))) l1 (l1.length : Int) (wrap64 (x11_1 + 1))) else (none)) else (none)) = some r := H
       have A10 := Aside0.mk A100; clear A100
       by_cases c11 : 0 ≤ (rd l1 x11_1)
       ·rw [if_pos c11] at H
        have c11b0 : decide (0 ≤ (rd l1 x11_1)) = true := decide_eq_true c11
        clear c11
        by_cases c12 : (rd l1 x11_1) < (l0.length : Int)
        ·rw [if_pos c12] at H
         have c12b0 : decide ((rd l1 x11_1) < (l0.length : Int)) = true := decide_eq_true c12
         clear c12
         have H' := Aside0.mk H
         clear H
         have p280 : 0 ≤ (x11_1 : Int) := of_decide_eq_true (by first | (with_reducible assumption) | assumption)
         have q280 : x11_1 < (l1.length : Int) := of_decide_eq_true (by first | (with_reducible assumption) | assumption)
         obtain ⟨ad280, e280, hx280_0⟩ := Kd.at_int HR1.out x11_1 p280 q280; cases e280; replace p280 := eq_true p280; replace q280 := eq_true q280
         go_wp2_with (first | ((with_reducible refine gate_callee (f := 50) rfl ?_); refine goesL_ (some 17) rfl rfl Tryd.func50 (by kernel_rfl) rfl #[.int .i64 x6_1, .int .i64 (rd l1 x11_1)] rfl lz ?_; (with_reducible refine (impl_has.calls x6_1 (rd l1 x11_1) false _ A6.out).mono ?_); rintro e w' ⟨rfl, ⟨nd, rfl⟩⟩; refine ⟨_, rfl, ?_⟩) | ((with_reducible refine gate_callee (f := 75) rfl ?_); refine goesL_ (some 21) rfl rfl Tryd.func75 (by kernel_rfl) rfl #[.int .i64 (rd l1 x11_1)] rfl lz ?_; (with_reducible refine (impl_one.calls (rd l1 x11_1) t283 _ A10.out).mono ?_); rintro e w' ⟨rfl, ⟨nd, rfl⟩⟩; refine ⟨_, rfl, ?_⟩; have p284 : 0 ≤ ((rd l1 x11_1) : Int) := of_decide_eq_true (by first | (with_reducible assumption) | assumption); have q284 : (rd l1 x11_1) < (l0.length : Int) := of_decide_eq_true (by first | (with_reducible assumption) | assumption); obtain ⟨ad284, e284, hx284_0⟩ := Kd.at_int HR0.out (rd l1 x11_1) p284 q284; cases e284; replace p284 := eq_true p284; replace q284 := eq_true q284))
         go_roundg k1
         case measure => have := HK1.out; omega
         case rel => exact ⟨(Go.bits .or .i64 x5_1 t283), (Go.bits .or .i64 x6_1 (rd l0 (rd l1 x11_1))), (wrap64 (x11_1 + 1)), sz, sz, sz, H', ⟨by have := HK1.out; omega⟩, by repeat (first | exact Drawn0.refl _ | apply Drawn0.step)⟩
        ·rw [if_neg c12] at H
         exact absurd H (by simp)
       ·rw [if_neg c11] at H
        exact absurd H (by simp)
     ·rw [if_neg c5] at H
      exact absurd H (by simp)
    ·rw [if_neg c4] at H
     exact absurd H (by simp)
   ·rw [if_neg c3] at H
    have c3b0 : decide (x11_1 < (l1.length : Int)) = false := decide_eq_false c3
    clear c3
    obtain rfl := Option.some.inj H
    go_wp2
    go_ret
    exact ⟨by first | rfl | (simp; done) | (simp [*]; done), by repeat (first | exact Drawn0.refl _ | apply Drawn0.step)⟩

/-! ### slices_Index_int64_int64: function 83 -/
def slices_Index_int64_int64.l0 : Nat → List Int → Int → Int → Int → Option (Int)
 | 0, _, _, _, _ => none
 | k + 1, x0, x1, x7, x8 => if x8 < x7 then (if 0 ≤ x8 then (if x8 < (x0.length : Int) then (if x1 = (rd x0 x8) then (some x8) else (slices_Index_int64_int64.l0 k x0 x1 x7 (wrap64 (x8 + 1)))) else (none)) else (none)) else (some (-1))
def slices_Index_int64_int64.f (k : Nat) (l0 : List Int) (a1 : Int) : Option (Int) := slices_Index_int64_int64.l0 k l0 a1 (l0.length : Int) 0
theorem slices_Index_int64_int64.mono_l : ∀ k, (∀ y0 y1 y2 y3, LeO (slices_Index_int64_int64.l0 k y0 y1 y2 y3) (slices_Index_int64_int64.l0 (k + 1) y0 y1 y2 y3))
 | 0 => fun _ _ _ _ r h => by simp [slices_Index_int64_int64.l0] at h
 | k + 1 => by
  have ih0 := slices_Index_int64_int64.mono_l k
  ·intro y0 y1 y2 y3
   unfold slices_Index_int64_int64.l0
   repeat' first
   | (with_reducible exact ih0 _ _ _ _)
   | (with_reducible exact LeO.refl _)
   | (with_reducible exact LeO.none _)
   | (with_reducible refine LeO.ite ?_ ?_)
   | (with_reducible refine LeO.bind ?_ (fun _ => ?_))
   | exact ih0 _ _ _ _
   | exact LeO.none _
   | refine LeO.ite ?_ ?_
   | refine LeO.bind ?_ (fun _ => ?_)
theorem slices_Index_int64_int64.mono : ∀ a0 a1 k, LeO (slices_Index_int64_int64.f k a0 a1) (slices_Index_int64_int64.f (k + 1) a0 a1) := by
 intro a0 a1 k
 have ih0 := slices_Index_int64_int64.mono_l k
 unfold slices_Index_int64_int64.f
 repeat' first
   | (with_reducible exact ih0 _ _ _ _)
   | (with_reducible exact LeO.refl _)
   | (with_reducible exact LeO.none _)
   | (with_reducible refine LeO.ite ?_ ?_)
   | (with_reducible refine LeO.bind ?_ (fun _ => ?_))
   | exact ih0 _ _ _ _
   | exact LeO.none _
   | refine LeO.ite ?_ ?_
   | refine LeO.bind ?_ (fun _ => ?_)
set_option maxHeartbeats 8000000 in
set_option maxRecDepth 100000 in
theorem slices_Index_int64_int64.calls (k : Nat) (A0 : Option Addr) (c0 : Nat) (l0 : List Int) (a1 : Int) (r : Int) (w : World) (hr0 : Kd.C (Kd.int .i64) w A0 l0.length l0) (hc0 : l0.length ≤ c0) (h : slices_Index_int64_int64.f k l0 a1 = some r) :
  Calls Tryd.prog 83 #[.slice A0 l0.length c0, .int .i64 a1] w fun e w' => e = .returned (.int .i64 r) ∧ Drawn0 w w' := by
 have HR0 := Aside0.mk hr0; have HC0 := Aside0.mk hc0; clear hr0 hc0
 have H : (slices_Index_int64_int64.l0 k l0 a1 (l0.length : Int) 0) = some r := h
 clear h
 have H' := Aside0.mk H
 clear H
 go_enter Tryd.func83, Tryd.ntmps83
 go_wp2
 go_loopg [8] k (fun kq v8 w' => ∃ (x8_1 : Int), v8 = .int .i64 x8_1 ∧ Aside0 (slices_Index_int64_int64.l0 kq l0 a1 (l0.length : Int) x8_1 = some r) ∧ Aside0 (kq ≤ k) ∧ Drawn0 w w')
 case atStart => exact ⟨(0), sz, H', ⟨Nat.le_refl _⟩, by repeat (first | exact Drawn0.refl _ | apply Drawn0.step)⟩
 case round =>
  clear H'
  try clear p2
  obtain ⟨x8_1, rfl, HA, HK1, ⟨m1, rfl⟩⟩ := hrel
  cases gk with
  | zero => exact absurd HA.out (by simp [slices_Index_int64_int64.l0])
  | succ k1 =>
   have H := HA.out; clear HA
   simp only [slices_Index_int64_int64.l0] at H
   by_cases c3 : x8_1 < (l0.length : Int)
   ·rw [if_pos c3] at H
    have c3b0 : decide (x8_1 < (l0.length : Int)) = true := decide_eq_true c3
    clear c3
    by_cases c4 : 0 ≤ x8_1
    ·rw [if_pos c4] at H
     have c4b0 : decide (0 ≤ x8_1) = true := decide_eq_true c4
     clear c4
     by_cases c5 : x8_1 < (l0.length : Int)
     ·rw [if_pos c5] at H
      have c5b0 : decide (x8_1 < (l0.length : Int)) = true := decide_eq_true c5
      clear c5
      by_cases c6 : a1 = (rd l0 x8_1)
      ·rw [if_pos c6] at H
       have c6b0 : (a1 == (rd l0 x8_1)) = true := beq_iff_eq.mpr c6
       have c6b1 : (a1 != (rd l0 x8_1)) = false := bne_eq_false_iff_eq.mpr c6
       clear c6
       obtain rfl := Option.some.inj H
       have p285 : 0 ≤ (x8_1 : Int) := of_decide_eq_true (by first | (with_reducible assumption) | assumption)
       have q285 : x8_1 < (l0.length : Int) := of_decide_eq_true (by first | (with_reducible assumption) | assumption)
       obtain ⟨ad285, e285, hx285_0⟩ := Kd.at_int HR0.out x8_1 p285 q285; cases e285; replace p285 := eq_true p285; replace q285 := eq_true q285
       go_wp2
       go_ret
       exact ⟨by first | rfl | (simp; done) | (simp [*]; done), by repeat (first | exact Drawn0.refl _ | apply Drawn0.step)⟩
      ·rw [if_neg c6] at H
       have c6b0 : (a1 == (rd l0 x8_1)) = false := beq_eq_false_iff_ne.mpr c6
       have c6b1 : (a1 != (rd l0 x8_1)) = true := bne_iff_ne.mpr c6
       have H' := Aside0.mk H
       clear H
       have p285 : 0 ≤ (x8_1 : Int) := of_decide_eq_true (by first | (with_reducible assumption) | assumption)
       have q285 : x8_1 < (l0.length : Int) := of_decide_eq_true (by first | (with_reducible assumption) | assumption)
       obtain ⟨ad285, e285, hx285_0⟩ := Kd.at_int HR0.out x8_1 p285 q285; cases e285; replace p285 := eq_true p285; replace q285 := eq_true q285
       go_wp2
       go_roundg k1
       case measure => have := HK1.out; omega
       case rel => exact ⟨(wrap64 (x8_1 + 1)), sz, H', ⟨by have := HK1.out; omega⟩, by repeat (first | exact Drawn0.refl _ | apply Drawn0.step)⟩
     ·rw [if_neg c5] at H
      exact absurd H (by simp)
    ·rw [if_neg c4] at H
     exact absurd H (by simp)
   ·rw [if_neg c3] at H
    have c3b0 : decide (x8_1 < (l0.length : Int)) = false := decide_eq_false c3
    clear c3
    obtain rfl := Option.some.inj H
    go_wp2
    go_ret
    exact ⟨by first | rfl | (simp; done) | (simp [*]; done), by repeat (first | exact Drawn0.refl _ | apply Drawn0.step)⟩

/-! ### impl_withoutFirst: function 67 -/
set_option maxHeartbeats 2000000 in
/-- slices.Grow of no list at all: an empty list of the call's own. -/
theorem Grow.nil (n : Int) (w : World) (h0 : 0 ≤ n) (h1 : n < 17592186044416) :
    Calls Tryd.prog 100 #[.slice none 0 0, .int .i64 n] w fun e w' => ∃ v, e = .returned v ∧ Kd.R (Kd.int .i64) 2 w' w.heap.size (fun _ => True) v ([] : List Int) ∧ Below w.heap.size w w' := by
  have HB := Aside0.mk (Below.refl w.heap.size w)
  have HR0 : Aside0 (∀ W : World, Kd.R (Kd.int .i64) 2 W w.heap.size (fun _ => True) (.slice none 0 0) ([] : List Int)) := ⟨fun W => Kd.R_nil _ _ _ _ _⟩
  by_cases hp : 0 < n
  · go_enter Tryd.func100, Tryd.ntmps100
    go_wp2_with ((with_reducible refine gate_builtin (b := .append) (xs := #[.tmp 20, .tmp 21]) rfl ?_); at_builtin; refine Kd.R_append_zeros (Kd.int .i64) (w0 := w) w.heap.size rfl (.tmp 20) (.tmp 21) 22 3 2 (.int .i64 0) 8 rfl Tryd.underlying22 Tryd.underlying3 info2 rfl (by decide) (by omega) (.slice none 0 0) ([] : List Int) 0 (n : Int) (fun _ => True) rfl rfl rfl ?aF ?aO (by omega) ?aB ?aS ?aL ?_; (case aF => exact (fun _ _ => trivial)); (case aO => exact HR0.out _); (case aB => first | exact HB.out | exact pw_below_drewN HB.out _); (case aS => exact below_size (by first | exact HB.out | exact pw_below_drewN HB.out _)); (case aL => simp; omega); intro v1 w1 ho hb hg hat; obtain ⟨A1, c1, e1⟩ := Kd.R_slice ho; subst e1; have HO := Aside0.mk (Kd.R_take ho (m := 0) (Nat.zero_le _)); have HB1 := Aside0.mk hb; clear ho hb hg hat)
    go_ret
    exact ⟨_, rfl, HO.out, HB1.out⟩
  · have hz : n = 0 := by omega
    subst hz
    go_enter Tryd.func100, Tryd.ntmps100
    go_wp2
    go_ret
    exact ⟨_, rfl, HR0.out _, by first | exact HB.out | exact pw_below_drewN HB.out _⟩
/-- How long the first k rows are together. -/
def lenTo (l : List (List Int)) (k : Nat) : Nat := ((l.take k).map List.length).sum
theorem lenTo_succ {l : List (List Int)} {k : Nat} (h : k < l.length) : lenTo l (k + 1) = lenTo l k + (l[k]).length := by
  unfold lenTo
  rw [List.take_succ_eq_append_getElem h, List.map_append, List.sum_append]
  simp
theorem lenTo_flat (l : List (List Int)) (k : Nat) : (l.take k).flatten.length = lenTo l k := by
  unfold lenTo
  rw [List.length_flatten]
theorem lenTo_le (l : List (List Int)) (k : Nat) : lenTo l k ≤ l.flatten.length := by
  rw [← lenTo_flat]
  have h : l.flatten = (l.take k).flatten ++ (l.drop k).flatten := by rw [← List.flatten_append, List.take_append_drop]
  rw [h, List.length_append]
  omega
set_option maxHeartbeats 4000000 in
theorem Concat.any (A0 : Option Addr) (c0 : Nat) (l0 : List (List Int)) (w : World) (hr0 : Kd.C (Kd.slice 2 (Kd.int .i64)) w A0 l0.length l0) (hl : l0.flatten.length < 17592186044416) :
    Calls Tryd.prog 84 #[.slice A0 l0.length c0] w fun e w' => ∃ v, e = .returned v ∧ Kd.R (Kd.int .i64) 2 w' w.heap.size (fun _ => True) v l0.flatten ∧ Below w.heap.size w w' := by
  have HR := Aside0.mk hr0
  have hbig : l0.length ≤ 9223372036854775807 := hr0.2.1
  have HL := Aside0.mk hl
  clear hr0 hl
  go_enter Tryd.func84, Tryd.ntmps84
  go_wp2
  go_loopg [3, 5, 11] l0.length (fun gg s3 _ s11 wr => ∃ kk S q : Nat, kk ≤ l0.length ∧ l0.length - kk ≤ gg ∧ s11 = .int .i64 kk ∧ s3 = .int .i64 (S : Int) ∧ S < 17592186044416 ∧ Aside0 (S = lenTo l0 kk) ∧ wr = w.drewN q)
  case atStart => exact ⟨0, 0, 0, Nat.zero_le _, by omega, rfl, rfl, by decide, ⟨rfl⟩, rfl⟩
  case round =>
    obtain ⟨kk, S, q, hkk, hg, rfl, rfl, hS, HS, rfl⟩ := hrel
    by_cases hlt : kk < l0.length
    · have hltz : (kk : Int) < (l0.length : Int) := by omega
      obtain ⟨ad, B1, c1, e0, hcell0, hc1, hx0⟩ := rows_at HR.out kk hlt
      cases e0
      have hcell : w.cell? (ad.add kk) = some (.slice B1 (l0[kk]).length c1) := hcell0
      clear hcell0 hx0 hc1
      have hS2 : S + (l0[kk]).length < 17592186044416 := by
        have h1 := lenTo_le l0 (kk + 1)
        rw [lenTo_succ hlt, ← HS.out] at h1
        have := HL.out
        omega
      have HS2 : Aside0 (S + (l0[kk]).length = lenTo l0 (kk + 1)) := ⟨by rw [lenTo_succ hlt, ← HS.out]⟩
      generalize (l0[kk]).length = L at hcell hS2 HS2
      go_wp2
      go_roundg (l0.length - (kk + 1))
      case measure => omega
      case rel => exact ⟨kk + 1, S + L, _, by omega, by omega, by go_num, by go_num, hS2, HS2, rfl⟩
    · have hltz : ¬ (kk : Int) < (l0.length : Int) := by omega
      have hk : kk = l0.length := by omega
      have HK := Aside0.mk hk
      clear hk
      go_wp2_with (go_at_call 100; refine (Grow.nil (S : Int) _ (by omega) (by omega)).mono ?_; rintro e w1 ⟨v1, rfl, ho, hb⟩; have HO1 : Aside0 (Kd.R (Kd.int .i64) 2 w1 w.heap.size (fun _ => True) v1 ([] : List Int)) := ⟨Kd.R_lower ho (Nat.le_refl _)⟩; have HB1 : Aside0 (Below w.heap.size w w1) := ⟨below_step (by first | exact Below.refl w.heap.size w | exact pw_below_drewN (Below.refl w.heap.size w) _ | exact pw_below_drewN (pw_below_drewN (Below.refl w.heap.size w) _) _) hb⟩; clear ho hb)
      go_loopg [6, 8, 27] l0.length (fun gg s6 _ s27 wr => ∃ (k2 : Nat) (ys : List Int), k2 ≤ l0.length ∧ l0.length - k2 ≤ gg ∧ s27 = .int .i64 k2 ∧ ys.length ≤ 17592186044416 ∧ Aside0 (ys = (l0.take k2).flatten) ∧ Aside0 (Kd.R (Kd.int .i64) 2 wr w.heap.size (fun _ => True) s6 ys) ∧ Aside0 (Below w.heap.size w wr))
      case atStart => exact ⟨0, [], Nat.zero_le _, by omega, rfl, by simp, ⟨by simp⟩, ⟨by first | exact HO1.out | exact Kd.R_drewN HO1.out _⟩, ⟨by first | exact HB1.out | exact pw_below_drewN HB1.out _⟩⟩
      case round =>
        obtain ⟨k2, ys, hk2, hg2, rfl, hys, HY, HO, HB⟩ := hrel
        by_cases hlt2 : k2 < l0.length
        · have hltz2 : (k2 : Int) < (l0.length : Int) := by omega
          obtain ⟨ad, B1, c1, e0, hcell0, hc1, hx0⟩ := rows_at HR.out k2 hlt2
          cases e0
          have hcell : wr.cell? (ad.add k2) = some (.slice B1 (l0[k2]).length c1) := pw_cell_below HB.out hcell0
          have HX := Aside0.mk (Kd.C_below hx0 HB.out)
          clear hcell0 hx0 hc1
          have hsum : ys.length + (l0[k2]).length < 17592186044416 := by
            have h1 := lenTo_le l0 (k2 + 1)
            rw [lenTo_succ hlt2, ← lenTo_flat, ← HY.out] at h1
            have := HL.out
            omega
          have HY2 : Aside0 (ys ++ l0[k2] = (l0.take (k2 + 1)).flatten) := ⟨by rw [HY.out, List.take_succ_eq_append_getElem hlt2, List.flatten_append]; simp⟩
          generalize l0[k2] = y at hcell HX hsum HY2
          have LM := Aside0.mk hsum
          clear hsum
          go_wp2_with ((with_reducible refine gate_builtin (b := .append) (xs := #[.tmp 31, .tmp 32]) rfl ?_); at_builtin; refine Kd.R_append_rows (Kd.int .i64) (w0 := w) w.heap.size rfl (.tmp 31) (.tmp 32) 22 2 (.int .i64 0) 8 rfl Tryd.underlying22 info2 rfl (by decide) (by omega) _ ys y _ _ _ (fun _ => True) (fun _ => False) rfl rfl ?aO ?aR (fun _ _ h => h) (fun _ h => h.elim) ?aF ?aB ?aS ?aL ?_; (case aO => first | exact HO.out | exact Kd.R_drewN HO.out _ | exact Kd.R_drewN (Kd.R_drewN HO.out _) _); (case aR => first | exact HX.out | exact Kd.C_drewN HX.out _ | exact Kd.C_drewN (Kd.C_drewN HX.out _) _); (case aF => exact (fun _ _ => trivial)); (case aB => first | exact HB.out | exact pw_below_drewN HB.out _ | exact pw_below_drewN (pw_below_drewN HB.out _) _); (case aS => exact below_size (by first | exact HB.out | exact pw_below_drewN HB.out _ | exact pw_below_drewN (pw_below_drewN HB.out _) _)); (case aL => have := LM.out; omega); intro v1 w2 ho hb hg hat; have HO2 := Aside0.mk ho; have HB2 := Aside0.mk hb; clear ho hb hg hat)
          go_roundg (l0.length - (k2 + 1))
          case measure => omega
          case rel => exact ⟨k2 + 1, ys ++ y, by omega, by omega, by go_num, by have := LM.out; simp; omega, HY2, ⟨by first | exact HO2.out | exact Kd.R_drewN HO2.out _⟩, ⟨by first | exact HB2.out | exact pw_below_drewN HB2.out _⟩⟩
        · have hltz2 : ¬ (k2 : Int) < (l0.length : Int) := by omega
          have hk : k2 = l0.length := by omega
          have HK2 := Aside0.mk hk
          clear hk
          go_wp2
          go_ret
          refine ⟨_, rfl, ?_, by first | exact HB.out | exact pw_below_drewN HB.out _⟩
          have e : ys = l0.flatten := by rw [HY.out, HK2.out, List.take_length]
          rw [← e]
          first | exact HO.out | exact Kd.R_drewN HO.out _
def impl_withoutFirst.f (k : Nat) (l0 : List Int) (a1 : Int) : Option (List Int) := (slices_Index_int64_int64.f k l0 a1).bind fun t => if 0 ≤ t ∧ t < (l0.length : Int) ∧ l0.length < 17592186044416 then some (l0.take t.toNat ++ l0.drop (t.toNat + 1)) else none
theorem impl_withoutFirst.mono : ∀ a0 a1 k, LeO (impl_withoutFirst.f k a0 a1) (impl_withoutFirst.f (k + 1) a0 a1) := by
  intro a0 a1 k
  unfold impl_withoutFirst.f
  exact LeO.bind (slices_Index_int64_int64.mono a0 a1 k) (fun _ => LeO.refl _)
theorem two_rows {w : World} {A1 A2 : Option Addr} {c1 c2 gb : Nat} {u v : List Int} (hb : w.heap[gb]? = some (.cells #[.slice A1 u.length c1, .slice A2 v.length c2] 22 (0, 0))) (hu : Kd.C (Kd.int .i64) w A1 u.length u) (huc : u.length ≤ c1) (hv : Kd.C (Kd.int .i64) w A2 v.length v) (hvc : v.length ≤ c2) :
    Kd.C (Kd.slice 2 (Kd.int .i64)) w (some ⟨gb, 0, none⟩) [u, v].length [u, v] := by
  refine ⟨rfl, by simp, fun _ => ⟨_, rfl, fun j p hp => ?_⟩⟩
  match j, hp with
  | 0, hp =>
    obtain rfl : u = p := by simpa using hp
    refine ⟨[.slice A1 u.length c1], rfl, ⟨A1, c1, rfl, huc, hu⟩, fun i x hx => ?_⟩
    match i, hx with
    | 0, hx =>
      obtain rfl : Value.slice A1 u.length c1 = x := by simpa using hx
      exact (blk_cell hb 0).trans rfl
  | 1, hp =>
    obtain rfl : v = p := by simpa using hp
    refine ⟨[.slice A2 v.length c2], rfl, ⟨A2, c2, rfl, hvc, hv⟩, fun i x hx => ?_⟩
    match i, hx with
    | 0, hx =>
      obtain rfl : Value.slice A2 v.length c2 = x := by simpa using hx
      exact (blk_cell hb 1).trans rfl
set_option maxHeartbeats 4000000 in
set_option maxRecDepth 1000000 in
theorem impl_withoutFirst.calls (k : Nat) (A0 : Option Addr) (c0 : Nat) (l0 : List Int) (a1 : Int) (r : List Int) (w : World) (hr0 : Kd.C (Kd.int .i64) w A0 l0.length l0) (hc0 : l0.length ≤ c0) (h : impl_withoutFirst.f k l0 a1 = some r) :
    Calls Tryd.prog 67 #[.slice A0 l0.length c0, .int .i64 a1] w fun e w' => ∃ v0_ : Value, e = .returned (v0_) ∧ Kd.R (Kd.int .i64) 2 w' w.heap.size (fun _ => True) v0_ r ∧ Below w.heap.size w w' := by
  have HR0 := Aside0.mk hr0
  have HC0 := Aside0.mk hc0
  clear hr0 hc0
  unfold impl_withoutFirst.f at h
  obtain ⟨t, ht, h2⟩ := Option.bind_eq_some_iff.mp h
  clear h
  have A1 := Aside0.mk ht
  clear ht
  by_cases c1 : 0 ≤ t ∧ t < (l0.length : Int) ∧ l0.length < 17592186044416
  · rw [if_pos c1] at h2
    obtain ⟨p1, p2, p3⟩ := c1
    have HRES := Aside0.mk (Option.some.inj h2)
    clear h2
    have hw : wrap64 (t + 1) = t + 1 := by unfold wrap64; omega
    have p4 : t ≤ (l0.length : Int) := by omega
    have p5 : 0 ≤ t + 1 := by omega
    have p6 : t + 1 ≤ (l0.length : Int) := by omega
    have LMM := Aside0.mk p3
    obtain ⟨i011, hi011, _, hsz11, _⟩ := info_parts info2
    obtain ⟨hcut11, hA11, hC11⟩ := print_take_of (P := Tryd.prog) (Value.int .i64) 0 22 2 .i64 Tryd.underlying22 hi011 hsz11 A0 c0 l0 t p1 p4 HC0.out
    obtain ⟨A12, hcut12, hA12, hC12⟩ := print_drop_of (P := Tryd.prog) (Value.int .i64) 0 22 2 .i64 Tryd.underlying22 hi011 hsz11 A0 c0 l0 (t + 1) p5 p6 HC0.out
    have HR1 := Aside0.mk (fun W (hW : Kd.C (Kd.int .i64) W A0 l0.length l0) => (Kd.C_of_reads (h1 := fun _ => rfl) (hA11 W (Kd.reads_of_C hW)) : Kd.C (Kd.int .i64) W A0 (l0.take t.toNat).length (l0.take t.toNat)))
    have HC1 := Aside0.mk hC11
    have HR2 := Aside0.mk (fun W (hW : Kd.C (Kd.int .i64) W A0 l0.length l0) => (Kd.C_of_reads (h1 := fun _ => rfl) (hA12 W (Kd.reads_of_C hW)) : Kd.C (Kd.int .i64) W A12 (l0.drop (t + 1).toNat).length (l0.drop (t + 1).toNat)))
    have HC2 := Aside0.mk hC12
    clear hA11 hC11 hA12 hC12 hi011 hsz11
    have HF : Aside0 ([l0.take t.toNat, l0.drop (t + 1).toNat].flatten = r ∧ [l0.take t.toNat, l0.drop (t + 1).toNat].flatten.length < 17592186044416) := by
      have e1 : [l0.take t.toNat, l0.drop (t + 1).toNat].flatten = r := by
        rw [← HRES.out, show (t + 1).toNat = t.toNat + 1 by omega]
        simp
      refine ⟨e1, ?_⟩
      simp
      omega
    clear HRES
    generalize l0.take t.toNat = u at hcut11 HR1 HC1 HF
    generalize l0.drop (t + 1).toNat = v at hcut12 HR2 HC2 HF
    go_enter Tryd.func67, Tryd.ntmps67
    go_wp2_with (go_at_call 83; refine (slices_Index_int64_int64.calls k A0 c0 l0 a1 t _ ?s1 HC0.out A1.out).mono ?_; (case s1 => first | exact HR0.out | exact Kd.C_drewN HR0.out _); rintro e w' ⟨rfl, ⟨q, rfl⟩⟩)
    have hwi : IntKind.i64.wrap (t + 1) = t + 1 := by rw [IntKind.wrap_i64]; omega
    go_still_tail 7, (by kernel_rfl)
    clear hwi
    have HRa : Aside0 (Kd.C (Kd.int .i64) ((w.drewN q).drew) A0 l0.length l0) := ⟨Kd.C_drew (Kd.C_drewN HR0.out _)⟩
    have HBa : Aside0 (Below w.heap.size w ((w.drewN q).drew)) := ⟨below_drew1 (pw_below_drewN (Below.refl w.heap.size w) _)⟩
    change wpList _ _ _ _ _ ((w.drewN q).drew)
    generalize (w.drewN q).drew = w2 at HRa HBa ⊢
    obtain ⟨W3, hW3⟩ : ∃ W3 : World, W3 = w2.alloc (.cells #[.slice A0 u.length c0, .slice A12 v.length (c0 - (t + 1).toNat)] 22 (0, 0)) := ⟨_, rfl⟩
    have HB3 : Aside0 (Below w.heap.size w W3) := ⟨by rw [hW3]; exact below_alloc HBa.out _⟩
    have HR3 : Aside0 (Kd.C (Kd.int .i64) W3 A0 l0.length l0) := ⟨by rw [hW3]; exact Kd.C_alloc HRa.out _⟩
    have HK3 : Aside0 (W3.heap[w2.heap.size]? = some (.cells #[.slice A0 u.length c0, .slice A12 v.length (c0 - (t + 1).toNat)] 22 (0, 0))) := ⟨by rw [hW3]; exact heap_alloc_new w2 _⟩
    have HROWS := Aside0.mk (two_rows HK3.out (HR1.out _ HR3.out) HC1.out (HR2.out _ HR3.out) HC2.out)
    have HW3 := Aside0.mk hW3
    clear hW3
    go_wp2_with (first | ((with_reducible refine gate_dst (N := 16) rfl ?_); refine Kd.event_run (v := .slice (some ⟨w2.heap.size, 0, none⟩) 2 2) (w1 := W3) ?hg ?hr ?_; (case hg => rfl); (case hr => rw [HW3.out]; first | (go_simp; done) | (go_simp; rfl))) | (go_at_call 84; refine (Concat.any (some ⟨w2.heap.size, 0, none⟩) 2 [u, v] _ HROWS.out HF.out.2).mono ?_; rintro e w4 ⟨v4, rfl, ho, hb⟩; have HO4 : Aside0 (Kd.R (Kd.int .i64) 2 w4 w.heap.size (fun _ => True) v4 [u, v].flatten) := ⟨Kd.R_lower ho (below_size HB3.out)⟩; have HB4 : Aside0 (Below w.heap.size w w4) := ⟨below_step HB3.out hb⟩; clear ho hb))
    go_ret
    exact ⟨_, rfl, by rw [← HF.out.1]; exact HO4.out, HB4.out⟩
  · rw [if_neg c1] at h2
    cases h2

end Go.Proofs.YtclabhnloohccaaDoor.G
