/- How the program's functions compute, function by function: each is told by a plain Lean function of the same answers, under the condition that this one answers. Written by a program of this project over the seat's translation; Lean checks it. -/
import Derived.Test.YtjckfnaohikmbaaDoorG0
import Derived.Test.YtjckfnaohikmbaaDoorGQ00a
namespace Go.Proofs.YtjckfnaohikmbaaDoor.G
open Go.RowKit Go.Proofs.YtjckfnaohikmbaaDoorW.PrintWords Go.Proofs.YtjckfnaohikmbaaDoorW.PrintLast Go.Proofs.YtjckfnaohikmbaaDoorW.PrintMore
attribute [local go_sem] max2_int min2_int max_two min_two max_three min_three max_four min_four   -- for this text's walks alone
set_option linter.unusedVariables false
set_option linter.unusedSimpArgs false

/-! ### spec_IsOrder: function 27 -/
mutual
def spec_IsOrder.l0 : Nat → List Int → Int → Option (Bool)
 | 0, _, _ => none
 | k + 1, x0, x3 => if x3 < (x0.length : Int) then (if 0 ≤ x3 then ((spec_l01Bit.f (rd x0 x3) x3).bind fun t551 => (if t551 = true then (spec_IsOrder.l1 k x0 x3 0) else (some false))) else (none)) else (some true)
def spec_IsOrder.l1 : Nat → List Int → Int → Int → Option (Bool)
 | 0, _, _, _ => none
 | k + 1, x0, x3, x4 => if x4 < (x0.length : Int) then (if 0 ≤ x3 then (if x3 < (x0.length : Int) then ((spec_l01Bit.f (rd x0 x3) x4).bind fun t553 => (if t553 = true then (if 0 ≤ x4 then (if (Go.bits .or .i64 (rd x0 x3) (rd x0 x4)) = (rd x0 x3) then (if x3 = x4 then (spec_IsOrder.l1 k x0 x3 (wrap64 (x4 + 1))) else ((spec_l01Bit.f (rd x0 x4) x3).bind fun t558 => (if t558 = true then (some false) else (spec_IsOrder.l1 k x0 x3 (wrap64 (x4 + 1)))))) else (some false)) else (none)) else (spec_IsOrder.l1 k x0 x3 (wrap64 (x4 + 1))))) else (none)) else (none)) else (spec_IsOrder.l0 k x0 (wrap64 (x3 + 1)))
end
def spec_IsOrder.f (k : Nat) (l0 : List Int) : Option (Bool) := (spec_IsRelation.f k l0).bind fun t549 => (if t549 = true then (spec_IsOrder.l0 k l0 0) else (some false))
theorem spec_IsOrder.mono_l : ∀ k, (∀ y0 y1, LeO (spec_IsOrder.l0 k y0 y1) (spec_IsOrder.l0 (k + 1) y0 y1)) ∧ (∀ y0 y1 y2, LeO (spec_IsOrder.l1 k y0 y1 y2) (spec_IsOrder.l1 (k + 1) y0 y1 y2))
 | 0 => ⟨fun _ _ r h => by simp [spec_IsOrder.l0] at h, fun _ _ _ r h => by simp [spec_IsOrder.l1] at h⟩
 | k + 1 => by
  obtain ⟨ih0, ih1⟩ := spec_IsOrder.mono_l k
  refine ⟨?_, ?_⟩
  ·intro y0 y1
   unfold spec_IsOrder.l0
   repeat' first
   | (with_reducible exact ih0 _ _)
   | (with_reducible exact ih1 _ _ _)
   | (with_reducible exact spec_IsRelation.mono _ _)
   | (with_reducible exact LeO.refl _)
   | (with_reducible exact LeO.none _)
   | (with_reducible refine LeO.ite ?_ ?_)
   | (with_reducible refine LeO.bind ?_ (fun _ => ?_))
   | exact ih0 _ _
   | exact ih1 _ _ _
   | exact spec_IsRelation.mono _ _
   | exact LeO.none _
   | refine LeO.ite ?_ ?_
   | refine LeO.bind ?_ (fun _ => ?_)
  ·intro y0 y1 y2
   unfold spec_IsOrder.l1
   repeat' first
   | (with_reducible exact ih0 _ _)
   | (with_reducible exact ih1 _ _ _)
   | (with_reducible exact spec_IsRelation.mono _ _)
   | (with_reducible exact LeO.refl _)
   | (with_reducible exact LeO.none _)
   | (with_reducible refine LeO.ite ?_ ?_)
   | (with_reducible refine LeO.bind ?_ (fun _ => ?_))
   | exact ih0 _ _
   | exact ih1 _ _ _
   | exact spec_IsRelation.mono _ _
   | exact LeO.none _
   | refine LeO.ite ?_ ?_
   | refine LeO.bind ?_ (fun _ => ?_)
theorem spec_IsOrder.mono : ∀ a0 k, LeO (spec_IsOrder.f k a0) (spec_IsOrder.f (k + 1) a0) := by
 intro a0 k
 obtain ⟨ih0, ih1⟩ := spec_IsOrder.mono_l k
 unfold spec_IsOrder.f
 repeat' first
   | (with_reducible exact ih0 _ _)
   | (with_reducible exact ih1 _ _ _)
   | (with_reducible exact spec_IsRelation.mono _ _)
   | (with_reducible exact LeO.refl _)
   | (with_reducible exact LeO.none _)
   | (with_reducible refine LeO.ite ?_ ?_)
   | (with_reducible refine LeO.bind ?_ (fun _ => ?_))
   | exact ih0 _ _
   | exact ih1 _ _ _
   | exact spec_IsRelation.mono _ _
   | exact LeO.none _
   | refine LeO.ite ?_ ?_
   | refine LeO.bind ?_ (fun _ => ?_)
set_option maxHeartbeats 8000000 in
set_option maxRecDepth 100000 in
theorem spec_IsOrder.calls (k : Nat) (A0 : Option Addr) (c0 : Nat) (l0 : List Int) (r : Bool) (w : World) (hr0 : Kd.C (Kd.int .i64) w A0 l0.length l0) (hc0 : l0.length ≤ c0) (h : spec_IsOrder.f k l0 = some r) :
  Calls Tryd.prog 27 #[.slice A0 l0.length c0] w fun e w' => e = .returned (.bool r) ∧ Drawn0 w w' := by
 have HR0 := Aside0.mk hr0; have HC0 := Aside0.mk hc0; clear hr0 hc0
 have H : ((spec_IsRelation.f k l0).bind fun t549 => (if t549 = true then (spec_IsOrder.l0 k l0 0) else (some false))) = some r := h
 clear h; replace H := Option.bind_eq_some_iff.mp H; obtain ⟨t549, A20, H⟩ := H
 replace H : (if t549 = true then (spec_IsOrder.l0 k l0 0) else (some false)) = some r := H
 have A2 := Aside0.mk A20; clear A20
 by_cases c3 : t549 = true
 ·subst c3
  have H1 : (spec_IsOrder.l0 k l0 0) = some r := by rw [if_pos rfl] at H; exact H
  clear H; have H := H1; clear H1
  have H' := Aside0.mk H
  clear H
  go_enter Tryd.func27, Tryd.ntmps27
  go_wp2_with (first | (go_at_call 32; (with_reducible refine (spec_IsRelation.calls k _ _ l0 true _ ?side1 ?side2 A2.out).mono ?_); (case side1 => have q_ := Aside0.mk HR0.out; exact cQ q_); (case side2 => exact HC0.out); rintro e w' ⟨rfl, ⟨nd, rfl⟩⟩; (try first | exact ⟨rfl, _, World.drewN_drewN _ _ _⟩ | exact ⟨rfl, _, Eq.trans (World.drewN_drewN _ _ _) (congrArg (World.drewN _) (Nat.add_assoc _ _ _))⟩)))
  repeat (go_quiet (first | (go_at_call 32; (with_reducible refine (spec_IsRelation.calls k _ _ l0 true _ ?side1 ?side2 A2.out).mono ?_); (case side1 => have q_ := Aside0.mk HR0.out; exact cQ q_); (case side2 => exact HC0.out); rintro e w' ⟨rfl, ⟨nd, rfl⟩⟩; (try first | exact ⟨rfl, _, World.drewN_drewN _ _ _⟩ | exact ⟨rfl, _, Eq.trans (World.drewN_drewN _ _ _) (congrArg (World.drewN _) (Nat.add_assoc _ _ _))⟩))); try go_wp2_with (first | (go_at_call 32; (with_reducible refine (spec_IsRelation.calls k _ _ l0 true _ ?side1 ?side2 A2.out).mono ?_); (case side1 => have q_ := Aside0.mk HR0.out; exact cQ q_); (case side2 => exact HC0.out); rintro e w' ⟨rfl, ⟨nd, rfl⟩⟩; (try first | exact ⟨rfl, _, World.drewN_drewN _ _ _⟩ | exact ⟨rfl, _, Eq.trans (World.drewN_drewN _ _ _) (congrArg (World.drewN _) (Nat.add_assoc _ _ _))⟩))))
  go_loopg [3] k (fun kq v3 w' => ∃ (x3_1 : Int), v3 = .int .i64 x3_1 ∧ Aside0 (spec_IsOrder.l0 kq l0 x3_1 = some r) ∧ Aside0 (kq ≤ k) ∧ Drawn0 w w')
  case atStart => exact ⟨(0), sz, H', ⟨Nat.le_refl _⟩, by repeat (first | exact Drawn0.refl _ | apply Drawn0.step)⟩
  case round =>
   clear H'
   try clear c2
   try clear p2
   try clear c3
   obtain ⟨x3_1, rfl, HA, HK1, ⟨m1, rfl⟩⟩ := hrel
   cases gk with
   | zero => exact absurd HA.out (by simp [spec_IsOrder.l0])
   | succ k1 =>
    have H := HA.out; clear HA
    simp only [spec_IsOrder.l0] at H
    by_cases c4 : x3_1 < (l0.length : Int)
    ·rw [if_pos c4] at H
     have c4b0 : decide (x3_1 < (l0.length : Int)) = true := decide_eq_true c4
     clear c4
     by_cases c5 : 0 ≤ x3_1
     ·rw [if_pos c5] at H
      have c5b0 : decide (0 ≤ x3_1) = true := decide_eq_true c5
      clear c5; replace H := Option.bind_eq_some_iff.mp H; obtain ⟨t551, A60, H⟩ := H
      replace H : (if t551 = true then (spec_IsOrder.l1 k1 l0 x3_1 0) else (some false)) = some r := H
      have A6 := Aside0.mk A60; clear A60
      by_cases c7 : t551 = true
      ·subst c7
       have H1 : (spec_IsOrder.l1 k1 l0 x3_1 0) = some r := by rw [if_pos rfl] at H; exact H
       clear H; have H := H1; clear H1
       have H' := Aside0.mk H
       clear H
       have p550 : 0 ≤ (x3_1 : Int) := of_decide_eq_true (by first | (with_reducible assumption) | assumption)
       have q550 : x3_1 < (l0.length : Int) := of_decide_eq_true (by first | (with_reducible assumption) | assumption)
       obtain ⟨ad550, e550, hx550_0⟩ := Kd.at_int HR0.out x3_1 p550 q550; cases e550; replace p550 := eq_true p550; replace q550 := eq_true q550
       go_wp2_with (first | (go_at_call 37; (with_reducible refine (spec_l01Bit.calls (rd l0 x3_1) x3_1 true _ A6.out).mono ?_); rintro e w' ⟨rfl, ⟨nd, rfl⟩⟩; (try first | exact ⟨rfl, _, World.drewN_drewN _ _ _⟩ | exact ⟨rfl, _, Eq.trans (World.drewN_drewN _ _ _) (congrArg (World.drewN _) (Nat.add_assoc _ _ _))⟩)))
       repeat (go_quiet (first | (go_at_call 37; (with_reducible refine (spec_l01Bit.calls (rd l0 x3_1) x3_1 true _ A6.out).mono ?_); rintro e w' ⟨rfl, ⟨nd, rfl⟩⟩; (try first | exact ⟨rfl, _, World.drewN_drewN _ _ _⟩ | exact ⟨rfl, _, Eq.trans (World.drewN_drewN _ _ _) (congrArg (World.drewN _) (Nat.add_assoc _ _ _))⟩))); try go_wp2_with (first | (go_at_call 37; (with_reducible refine (spec_l01Bit.calls (rd l0 x3_1) x3_1 true _ A6.out).mono ?_); rintro e w' ⟨rfl, ⟨nd, rfl⟩⟩; (try first | exact ⟨rfl, _, World.drewN_drewN _ _ _⟩ | exact ⟨rfl, _, Eq.trans (World.drewN_drewN _ _ _) (congrArg (World.drewN _) (Nat.add_assoc _ _ _))⟩))))
       go_loopg [4] k1 (fun kq v4 w' => ∃ (x4_2 : Int), v4 = .int .i64 x4_2 ∧ Aside0 (spec_IsOrder.l1 kq l0 x3_1 x4_2 = some r) ∧ Aside0 (kq ≤ k1) ∧ Drawn0 w w')
       case atStart => exact ⟨(0), sz, H', ⟨Nat.le_refl _⟩, by repeat (first | exact Drawn0.refl _ | apply Drawn0.step)⟩
       case round =>
        clear H'
        try clear c2
        try clear p2
        try clear c3
        try clear c4
        try clear c4b0
        try clear c5
        try clear c5b0
        try clear p5
        try clear q5
        try clear hx5
        try clear c7
        try clear hx550_0
        try clear p2
        try clear p550
        try clear q550
        obtain ⟨x4_2, rfl, HA, HK2, ⟨m2, rfl⟩⟩ := hrel
        cases gk with
        | zero => exact absurd HA.out (by simp [spec_IsOrder.l1])
        | succ k2 =>
         have H := HA.out; clear HA
         simp only [spec_IsOrder.l1] at H
         by_cases c8 : x4_2 < (l0.length : Int)
         ·rw [if_pos c8] at H
          have c8b0 : decide (x4_2 < (l0.length : Int)) = true := decide_eq_true c8
          clear c8
          by_cases c9 : 0 ≤ x3_1
          ·rw [if_pos c9] at H
           have c9b0 : decide (0 ≤ x3_1) = true := decide_eq_true c9
           clear c9
           by_cases c10 : x3_1 < (l0.length : Int)
           ·rw [if_pos c10] at H
            have c10b0 : decide (x3_1 < (l0.length : Int)) = true := decide_eq_true c10
            clear c10; replace H := Option.bind_eq_some_iff.mp H; obtain ⟨t553, A110, H⟩ := H
            replace H : (if t553 = true then (if 0 ≤ x4_2 then (if (Go.bits .or .i64 (rd l0 x3_1) (rd l0 x4_2)) = (rd l0 x3_1) then (if x3_1 = x4_2 then (spec_IsOrder.l1 k2 l0 x3_1 (wrap64 (x4_2 + 1))) else ((spec_l01Bit.f (rd l0 x4_2) x3_1).bind fun t558 => (if t558 = true then (some false) else (spec_IsOrder.l1 k2 l0 x3_1 (wrap64 (x4_2 + 1)))))) else (some false)) else (none)) else (spec_IsOrder.l1 k2 l0 x3_1 (wrap64 (x4_2 + 1)))) = some r := H
            have A11 := Aside0.mk A110; clear A110
            by_cases c12 : t553 = true
            ·subst c12
             have H1 : (if 0 ≤ x4_2 then (if (Go.bits .or .i64 (rd l0 x3_1) (rd l0 x4_2)) = (rd l0 x3_1) then (if x3_1 = x4_2 then (spec_IsOrder.l1 k2 l0 x3_1 (wrap64 (x4_2 + 1))) else ((spec_l01Bit.f (rd l0 x4_2) x3_1).bind fun t558 => (if t558 = true then (some false) else (spec_IsOrder.l1 k2 l0 x3_1 (wrap64 (x4_2 + 1)))))) else (some false)) else (none)) = some r := by rw [if_pos rfl] at H; exact H
             clear H; have H := H1; clear H1
             by_cases c13 : 0 ≤ x4_2
             ·rw [if_pos c13] at H
              have c13b0 : decide (0 ≤ x4_2) = true := decide_eq_true c13
              clear c13
              by_cases c14 : (Go.bits .or .i64 (rd l0 x3_1) (rd l0 x4_2)) = (rd l0 x3_1)
              ·rw [if_pos c14] at H
               have c14b0 : ((Go.bits .or .i64 (rd l0 x3_1) (rd l0 x4_2)) == (rd l0 x3_1)) = true := beq_iff_eq.mpr c14
               have c14b1 : ((Go.bits .or .i64 (rd l0 x3_1) (rd l0 x4_2)) != (rd l0 x3_1)) = false := bne_eq_false_iff_eq.mpr c14
               clear c14
               by_cases c15 : x3_1 = x4_2
               ·rw [if_pos c15] at H
                have c15b0 : (x3_1 == x4_2) = true := beq_iff_eq.mpr c15
                have c15b1 : (x3_1 != x4_2) = false := bne_eq_false_iff_eq.mpr c15
                clear c15
                have H' := Aside0.mk H
                clear H
                have p552 : 0 ≤ (x3_1 : Int) := of_decide_eq_true (by first | (with_reducible assumption) | assumption)
                have q552 : x3_1 < (l0.length : Int) := of_decide_eq_true (by first | (with_reducible assumption) | assumption)
                obtain ⟨ad552, e552, hx552_0⟩ := Kd.at_int HR0.out x3_1 p552 q552
                obtain rfl : ad550 = ad552 := (by injection e552)
                replace p552 := eq_true p552; replace q552 := eq_true q552
                go_wp2_with (first | (go_at_call 37; (with_reducible refine (spec_l01Bit.calls (rd l0 x3_1) x4_2 true _ A11.out).mono ?_); rintro e w' ⟨rfl, ⟨nd, rfl⟩⟩; (try first | exact ⟨rfl, _, World.drewN_drewN _ _ _⟩ | exact ⟨rfl, _, Eq.trans (World.drewN_drewN _ _ _) (congrArg (World.drewN _) (Nat.add_assoc _ _ _))⟩); have p554 : 0 ≤ (x3_1 : Int) := of_decide_eq_true (by first | (with_reducible assumption) | assumption); have q554 : x3_1 < (l0.length : Int) := of_decide_eq_true (by first | (with_reducible assumption) | assumption); obtain ⟨ad554, e554, hx554_0⟩ := Kd.at_int HR0.out x3_1 p554 q554; obtain rfl : ad550 = ad554 := (by injection e554); replace p554 := eq_true p554; replace q554 := eq_true q554; have p555 : 0 ≤ (x4_2 : Int) := of_decide_eq_true (by first | (with_reducible assumption) | assumption); have q555 : x4_2 < (l0.length : Int) := of_decide_eq_true (by first | (with_reducible assumption) | assumption); obtain ⟨ad555, e555, hx555_0⟩ := Kd.at_int HR0.out x4_2 p555 q555; obtain rfl : ad550 = ad555 := (by injection e555); replace p555 := eq_true p555; replace q555 := eq_true q555; have p556 : 0 ≤ (x3_1 : Int) := of_decide_eq_true (by first | (with_reducible assumption) | assumption); have q556 : x3_1 < (l0.length : Int) := of_decide_eq_true (by first | (with_reducible assumption) | assumption); obtain ⟨ad556, e556, hx556_0⟩ := Kd.at_int HR0.out x3_1 p556 q556; obtain rfl : ad550 = ad556 := (by injection e556); replace p556 := eq_true p556; replace q556 := eq_true q556))
                repeat (go_quiet (first | (go_at_call 37; (with_reducible refine (spec_l01Bit.calls (rd l0 x3_1) x4_2 true _ A11.out).mono ?_); rintro e w' ⟨rfl, ⟨nd, rfl⟩⟩; (try first | exact ⟨rfl, _, World.drewN_drewN _ _ _⟩ | exact ⟨rfl, _, Eq.trans (World.drewN_drewN _ _ _) (congrArg (World.drewN _) (Nat.add_assoc _ _ _))⟩); have p554 : 0 ≤ (x3_1 : Int) := of_decide_eq_true (by first | (with_reducible assumption) | assumption); have q554 : x3_1 < (l0.length : Int) := of_decide_eq_true (by first | (with_reducible assumption) | assumption); obtain ⟨ad554, e554, hx554_0⟩ := Kd.at_int HR0.out x3_1 p554 q554; obtain rfl : ad550 = ad554 := (by injection e554); replace p554 := eq_true p554; replace q554 := eq_true q554; have p555 : 0 ≤ (x4_2 : Int) := of_decide_eq_true (by first | (with_reducible assumption) | assumption); have q555 : x4_2 < (l0.length : Int) := of_decide_eq_true (by first | (with_reducible assumption) | assumption); obtain ⟨ad555, e555, hx555_0⟩ := Kd.at_int HR0.out x4_2 p555 q555; obtain rfl : ad550 = ad555 := (by injection e555); replace p555 := eq_true p555; replace q555 := eq_true q555; have p556 : 0 ≤ (x3_1 : Int) := of_decide_eq_true (by first | (with_reducible assumption) | assumption); have q556 : x3_1 < (l0.length : Int) := of_decide_eq_true (by first | (with_reducible assumption) | assumption); obtain ⟨ad556, e556, hx556_0⟩ := Kd.at_int HR0.out x3_1 p556 q556; obtain rfl : ad550 = ad556 := (by injection e556); replace p556 := eq_true p556; replace q556 := eq_true q556)); try go_wp2_with (first | (go_at_call 37; (with_reducible refine (spec_l01Bit.calls (rd l0 x3_1) x4_2 true _ A11.out).mono ?_); rintro e w' ⟨rfl, ⟨nd, rfl⟩⟩; (try first | exact ⟨rfl, _, World.drewN_drewN _ _ _⟩ | exact ⟨rfl, _, Eq.trans (World.drewN_drewN _ _ _) (congrArg (World.drewN _) (Nat.add_assoc _ _ _))⟩); have p554 : 0 ≤ (x3_1 : Int) := of_decide_eq_true (by first | (with_reducible assumption) | assumption); have q554 : x3_1 < (l0.length : Int) := of_decide_eq_true (by first | (with_reducible assumption) | assumption); obtain ⟨ad554, e554, hx554_0⟩ := Kd.at_int HR0.out x3_1 p554 q554; obtain rfl : ad550 = ad554 := (by injection e554); replace p554 := eq_true p554; replace q554 := eq_true q554; have p555 : 0 ≤ (x4_2 : Int) := of_decide_eq_true (by first | (with_reducible assumption) | assumption); have q555 : x4_2 < (l0.length : Int) := of_decide_eq_true (by first | (with_reducible assumption) | assumption); obtain ⟨ad555, e555, hx555_0⟩ := Kd.at_int HR0.out x4_2 p555 q555; obtain rfl : ad550 = ad555 := (by injection e555); replace p555 := eq_true p555; replace q555 := eq_true q555; have p556 : 0 ≤ (x3_1 : Int) := of_decide_eq_true (by first | (with_reducible assumption) | assumption); have q556 : x3_1 < (l0.length : Int) := of_decide_eq_true (by first | (with_reducible assumption) | assumption); obtain ⟨ad556, e556, hx556_0⟩ := Kd.at_int HR0.out x3_1 p556 q556; obtain rfl : ad550 = ad556 := (by injection e556); replace p556 := eq_true p556; replace q556 := eq_true q556)))
                go_roundg k2
                case measure => have := HK1.out; have := HK2.out; omega
                case rel => exact ⟨(wrap64 (x4_2 + 1)), sz, H', ⟨by have := HK1.out; have := HK2.out; omega⟩, by repeat (first | exact Drawn0.refl _ | apply Drawn0.step)⟩
               ·rw [if_neg c15] at H
                have c15b0 : (x3_1 == x4_2) = false := beq_eq_false_iff_ne.mpr c15
                have c15b1 : (x3_1 != x4_2) = true := bne_iff_ne.mpr c15
                replace H := Option.bind_eq_some_iff.mp H; obtain ⟨t558, A160, H⟩ := H
                replace H : (if t558 = true then (some false) else (spec_IsOrder.l1 k2 l0 x3_1 (wrap64 (x4_2 + 1)))) = some r := H
                have A16 := Aside0.mk A160; clear A160
                by_cases c17 : t558 = true
                ·subst c17
                 have H1 : (some false) = some r := by rw [if_pos rfl] at H; exact H
                 clear H; have H := H1; clear H1
                 obtain rfl := Option.some.inj H
                 have p552 : 0 ≤ (x3_1 : Int) := of_decide_eq_true (by first | (with_reducible assumption) | assumption)
                 have q552 : x3_1 < (l0.length : Int) := of_decide_eq_true (by first | (with_reducible assumption) | assumption)
                 obtain ⟨ad552, e552, hx552_0⟩ := Kd.at_int HR0.out x3_1 p552 q552
                 obtain rfl : ad550 = ad552 := (by injection e552)
                 replace p552 := eq_true p552; replace q552 := eq_true q552
                 go_wp2_with (first | (go_at_call 37; (with_reducible refine (spec_l01Bit.calls (rd l0 x3_1) x4_2 true _ A11.out).mono ?_); rintro e w' ⟨rfl, ⟨nd, rfl⟩⟩; (try first | exact ⟨rfl, _, World.drewN_drewN _ _ _⟩ | exact ⟨rfl, _, Eq.trans (World.drewN_drewN _ _ _) (congrArg (World.drewN _) (Nat.add_assoc _ _ _))⟩); have p554 : 0 ≤ (x3_1 : Int) := of_decide_eq_true (by first | (with_reducible assumption) | assumption); have q554 : x3_1 < (l0.length : Int) := of_decide_eq_true (by first | (with_reducible assumption) | assumption); obtain ⟨ad554, e554, hx554_0⟩ := Kd.at_int HR0.out x3_1 p554 q554; obtain rfl : ad550 = ad554 := (by injection e554); replace p554 := eq_true p554; replace q554 := eq_true q554; have p555 : 0 ≤ (x4_2 : Int) := of_decide_eq_true (by first | (with_reducible assumption) | assumption); have q555 : x4_2 < (l0.length : Int) := of_decide_eq_true (by first | (with_reducible assumption) | assumption); obtain ⟨ad555, e555, hx555_0⟩ := Kd.at_int HR0.out x4_2 p555 q555; obtain rfl : ad550 = ad555 := (by injection e555); replace p555 := eq_true p555; replace q555 := eq_true q555; have p556 : 0 ≤ (x3_1 : Int) := of_decide_eq_true (by first | (with_reducible assumption) | assumption); have q556 : x3_1 < (l0.length : Int) := of_decide_eq_true (by first | (with_reducible assumption) | assumption); obtain ⟨ad556, e556, hx556_0⟩ := Kd.at_int HR0.out x3_1 p556 q556; obtain rfl : ad550 = ad556 := (by injection e556); replace p556 := eq_true p556; replace q556 := eq_true q556; have p557 : 0 ≤ (x4_2 : Int) := of_decide_eq_true (by first | (with_reducible assumption) | assumption); have q557 : x4_2 < (l0.length : Int) := of_decide_eq_true (by first | (with_reducible assumption) | assumption); obtain ⟨ad557, e557, hx557_0⟩ := Kd.at_int HR0.out x4_2 p557 q557; obtain rfl : ad550 = ad557 := (by injection e557); replace p557 := eq_true p557; replace q557 := eq_true q557) | (go_at_call 37; (with_reducible refine (spec_l01Bit.calls (rd l0 x4_2) x3_1 true _ A16.out).mono ?_); rintro e w' ⟨rfl, ⟨nd, rfl⟩⟩; (try first | exact ⟨rfl, _, World.drewN_drewN _ _ _⟩ | exact ⟨rfl, _, Eq.trans (World.drewN_drewN _ _ _) (congrArg (World.drewN _) (Nat.add_assoc _ _ _))⟩)))
                 repeat (go_quiet (first | (go_at_call 37; (with_reducible refine (spec_l01Bit.calls (rd l0 x3_1) x4_2 true _ A11.out).mono ?_); rintro e w' ⟨rfl, ⟨nd, rfl⟩⟩; (try first | exact ⟨rfl, _, World.drewN_drewN _ _ _⟩ | exact ⟨rfl, _, Eq.trans (World.drewN_drewN _ _ _) (congrArg (World.drewN _) (Nat.add_assoc _ _ _))⟩); have p554 : 0 ≤ (x3_1 : Int) := of_decide_eq_true (by first | (with_reducible assumption) | assumption); have q554 : x3_1 < (l0.length : Int) := of_decide_eq_true (by first | (with_reducible assumption) | assumption); obtain ⟨ad554, e554, hx554_0⟩ := Kd.at_int HR0.out x3_1 p554 q554; obtain rfl : ad550 = ad554 := (by injection e554); replace p554 := eq_true p554; replace q554 := eq_true q554; have p555 : 0 ≤ (x4_2 : Int) := of_decide_eq_true (by first | (with_reducible assumption) | assumption); have q555 : x4_2 < (l0.length : Int) := of_decide_eq_true (by first | (with_reducible assumption) | assumption); obtain ⟨ad555, e555, hx555_0⟩ := Kd.at_int HR0.out x4_2 p555 q555; obtain rfl : ad550 = ad555 := (by injection e555); replace p555 := eq_true p555; replace q555 := eq_true q555; have p556 : 0 ≤ (x3_1 : Int) := of_decide_eq_true (by first | (with_reducible assumption) | assumption); have q556 : x3_1 < (l0.length : Int) := of_decide_eq_true (by first | (with_reducible assumption) | assumption); obtain ⟨ad556, e556, hx556_0⟩ := Kd.at_int HR0.out x3_1 p556 q556; obtain rfl : ad550 = ad556 := (by injection e556); replace p556 := eq_true p556; replace q556 := eq_true q556; have p557 : 0 ≤ (x4_2 : Int) := of_decide_eq_true (by first | (with_reducible assumption) | assumption); have q557 : x4_2 < (l0.length : Int) := of_decide_eq_true (by first | (with_reducible assumption) | assumption); obtain ⟨ad557, e557, hx557_0⟩ := Kd.at_int HR0.out x4_2 p557 q557; obtain rfl : ad550 = ad557 := (by injection e557); replace p557 := eq_true p557; replace q557 := eq_true q557) | (go_at_call 37; (with_reducible refine (spec_l01Bit.calls (rd l0 x4_2) x3_1 true _ A16.out).mono ?_); rintro e w' ⟨rfl, ⟨nd, rfl⟩⟩; (try first | exact ⟨rfl, _, World.drewN_drewN _ _ _⟩ | exact ⟨rfl, _, Eq.trans (World.drewN_drewN _ _ _) (congrArg (World.drewN _) (Nat.add_assoc _ _ _))⟩))); try go_wp2_with (first | (go_at_call 37; (with_reducible refine (spec_l01Bit.calls (rd l0 x3_1) x4_2 true _ A11.out).mono ?_); rintro e w' ⟨rfl, ⟨nd, rfl⟩⟩; (try first | exact ⟨rfl, _, World.drewN_drewN _ _ _⟩ | exact ⟨rfl, _, Eq.trans (World.drewN_drewN _ _ _) (congrArg (World.drewN _) (Nat.add_assoc _ _ _))⟩); have p554 : 0 ≤ (x3_1 : Int) := of_decide_eq_true (by first | (with_reducible assumption) | assumption); have q554 : x3_1 < (l0.length : Int) := of_decide_eq_true (by first | (with_reducible assumption) | assumption); obtain ⟨ad554, e554, hx554_0⟩ := Kd.at_int HR0.out x3_1 p554 q554; obtain rfl : ad550 = ad554 := (by injection e554); replace p554 := eq_true p554; replace q554 := eq_true q554; have p555 : 0 ≤ (x4_2 : Int) := of_decide_eq_true (by first | (with_reducible assumption) | assumption); have q555 : x4_2 < (l0.length : Int) := of_decide_eq_true (by first | (with_reducible assumption) | assumption); obtain ⟨ad555, e555, hx555_0⟩ := Kd.at_int HR0.out x4_2 p555 q555; obtain rfl : ad550 = ad555 := (by injection e555); replace p555 := eq_true p555; replace q555 := eq_true q555; have p556 : 0 ≤ (x3_1 : Int) := of_decide_eq_true (by first | (with_reducible assumption) | assumption); have q556 : x3_1 < (l0.length : Int) := of_decide_eq_true (by first | (with_reducible assumption) | assumption); obtain ⟨ad556, e556, hx556_0⟩ := Kd.at_int HR0.out x3_1 p556 q556; obtain rfl : ad550 = ad556 := (by injection e556); replace p556 := eq_true p556; replace q556 := eq_true q556; have p557 : 0 ≤ (x4_2 : Int) := of_decide_eq_true (by first | (with_reducible assumption) | assumption); have q557 : x4_2 < (l0.length : Int) := of_decide_eq_true (by first | (with_reducible assumption) | assumption); obtain ⟨ad557, e557, hx557_0⟩ := Kd.at_int HR0.out x4_2 p557 q557; obtain rfl : ad550 = ad557 := (by injection e557); replace p557 := eq_true p557; replace q557 := eq_true q557) | (go_at_call 37; (with_reducible refine (spec_l01Bit.calls (rd l0 x4_2) x3_1 true _ A16.out).mono ?_); rintro e w' ⟨rfl, ⟨nd, rfl⟩⟩; (try first | exact ⟨rfl, _, World.drewN_drewN _ _ _⟩ | exact ⟨rfl, _, Eq.trans (World.drewN_drewN _ _ _) (congrArg (World.drewN _) (Nat.add_assoc _ _ _))⟩))))
                 go_ret
                 exact ⟨by first | rfl | (simp; done) | (simp [*]; done), by repeat (first | exact Drawn0.refl _ | apply Drawn0.step)⟩
                ·replace c17 := Bool.eq_false_iff.mpr c17
                 subst c17
                 have H1 : (spec_IsOrder.l1 k2 l0 x3_1 (wrap64 (x4_2 + 1))) = some r := by rw [if_neg (show ¬ (false = true) by decide)] at H; exact H
                 clear H; have H := H1; clear H1
                 have H' := Aside0.mk H
                 clear H
                 have p552 : 0 ≤ (x3_1 : Int) := of_decide_eq_true (by first | (with_reducible assumption) | assumption)
                 have q552 : x3_1 < (l0.length : Int) := of_decide_eq_true (by first | (with_reducible assumption) | assumption)
                 obtain ⟨ad552, e552, hx552_0⟩ := Kd.at_int HR0.out x3_1 p552 q552
                 obtain rfl : ad550 = ad552 := (by injection e552)
                 replace p552 := eq_true p552; replace q552 := eq_true q552
                 go_wp2_with (first | (go_at_call 37; (with_reducible refine (spec_l01Bit.calls (rd l0 x3_1) x4_2 true _ A11.out).mono ?_); rintro e w' ⟨rfl, ⟨nd, rfl⟩⟩; (try first | exact ⟨rfl, _, World.drewN_drewN _ _ _⟩ | exact ⟨rfl, _, Eq.trans (World.drewN_drewN _ _ _) (congrArg (World.drewN _) (Nat.add_assoc _ _ _))⟩); have p554 : 0 ≤ (x3_1 : Int) := of_decide_eq_true (by first | (with_reducible assumption) | assumption); have q554 : x3_1 < (l0.length : Int) := of_decide_eq_true (by first | (with_reducible assumption) | assumption); obtain ⟨ad554, e554, hx554_0⟩ := Kd.at_int HR0.out x3_1 p554 q554; obtain rfl : ad550 = ad554 := (by injection e554); replace p554 := eq_true p554; replace q554 := eq_true q554; have p555 : 0 ≤ (x4_2 : Int) := of_decide_eq_true (by first | (with_reducible assumption) | assumption); have q555 : x4_2 < (l0.length : Int) := of_decide_eq_true (by first | (with_reducible assumption) | assumption); obtain ⟨ad555, e555, hx555_0⟩ := Kd.at_int HR0.out x4_2 p555 q555; obtain rfl : ad550 = ad555 := (by injection e555); replace p555 := eq_true p555; replace q555 := eq_true q555; have p556 : 0 ≤ (x3_1 : Int) := of_decide_eq_true (by first | (with_reducible assumption) | assumption); have q556 : x3_1 < (l0.length : Int) := of_decide_eq_true (by first | (with_reducible assumption) | assumption); obtain ⟨ad556, e556, hx556_0⟩ := Kd.at_int HR0.out x3_1 p556 q556; obtain rfl : ad550 = ad556 := (by injection e556); replace p556 := eq_true p556; replace q556 := eq_true q556; have p557 : 0 ≤ (x4_2 : Int) := of_decide_eq_true (by first | (with_reducible assumption) | assumption); have q557 : x4_2 < (l0.length : Int) := of_decide_eq_true (by first | (with_reducible assumption) | assumption); obtain ⟨ad557, e557, hx557_0⟩ := Kd.at_int HR0.out x4_2 p557 q557; obtain rfl : ad550 = ad557 := (by injection e557); replace p557 := eq_true p557; replace q557 := eq_true q557) | (go_at_call 37; (with_reducible refine (spec_l01Bit.calls (rd l0 x4_2) x3_1 false _ A16.out).mono ?_); rintro e w' ⟨rfl, ⟨nd, rfl⟩⟩; (try first | exact ⟨rfl, _, World.drewN_drewN _ _ _⟩ | exact ⟨rfl, _, Eq.trans (World.drewN_drewN _ _ _) (congrArg (World.drewN _) (Nat.add_assoc _ _ _))⟩)))
                 repeat (go_quiet (first | (go_at_call 37; (with_reducible refine (spec_l01Bit.calls (rd l0 x3_1) x4_2 true _ A11.out).mono ?_); rintro e w' ⟨rfl, ⟨nd, rfl⟩⟩; (try first | exact ⟨rfl, _, World.drewN_drewN _ _ _⟩ | exact ⟨rfl, _, Eq.trans (World.drewN_drewN _ _ _) (congrArg (World.drewN _) (Nat.add_assoc _ _ _))⟩); have p554 : 0 ≤ (x3_1 : Int) := of_decide_eq_true (by first | (with_reducible assumption) | assumption); have q554 : x3_1 < (l0.length : Int) := of_decide_eq_true (by first | (with_reducible assumption) | assumption); obtain ⟨ad554, e554, hx554_0⟩ := Kd.at_int HR0.out x3_1 p554 q554; obtain rfl : ad550 = ad554 := (by injection e554); replace p554 := eq_true p554; replace q554 := eq_true q554; have p555 : 0 ≤ (x4_2 : Int) := of_decide_eq_true (by first | (with_reducible assumption) | assumption); have q555 : x4_2 < (l0.length : Int) := of_decide_eq_true (by first | (with_reducible assumption) | assumption); obtain ⟨ad555, e555, hx555_0⟩ := Kd.at_int HR0.out x4_2 p555 q555; obtain rfl : ad550 = ad555 := (by injection e555); replace p555 := eq_true p555; replace q555 := eq_true q555; have p556 : 0 ≤ (x3_1 : Int) := of_decide_eq_true (by first | (with_reducible assumption) | assumption); have q556 : x3_1 < (l0.length : Int) := of_decide_eq_true (by first | (with_reducible assumption) | assumption); obtain ⟨ad556, e556, hx556_0⟩ := Kd.at_int HR0.out x3_1 p556 q556; obtain rfl : ad550 = ad556 := (by injection e556); replace p556 := eq_true p556; replace q556 := eq_true q556; have p557 : 0 ≤ (x4_2 : Int) := of_decide_eq_true (by first | (with_reducible assumption) | assumption); have q557 : x4_2 < (l0.length : Int) := of_decide_eq_true (by first | (with_reducible assumption) | assumption); obtain ⟨ad557, e557, hx557_0⟩ := Kd.at_int HR0.out x4_2 p557 q557; obtain rfl : ad550 = ad557 := (by injection e557); replace p557 := eq_true p557; replace q557 := eq_true q557) | (go_at_call 37; (with_reducible refine (spec_l01Bit.calls (rd l0 x4_2) x3_1 false _ A16.out).mono ?_); rintro e w' ⟨rfl, ⟨nd, rfl⟩⟩; (try first | exact ⟨rfl, _, World.drewN_drewN _ _ _⟩ | exact ⟨rfl, _, Eq.trans (World.drewN_drewN _ _ _) (congrArg (World.drewN _) (Nat.add_assoc _ _ _))⟩))); try go_wp2_with (first | (go_at_call 37; (with_reducible refine (spec_l01Bit.calls (rd l0 x3_1) x4_2 true _ A11.out).mono ?_); rintro e w' ⟨rfl, ⟨nd, rfl⟩⟩; (try first | exact ⟨rfl, _, World.drewN_drewN _ _ _⟩ | exact ⟨rfl, _, Eq.trans (World.drewN_drewN _ _ _) (congrArg (World.drewN _) (Nat.add_assoc _ _ _))⟩); have p554 : 0 ≤ (x3_1 : Int) := of_decide_eq_true (by first | (with_reducible assumption) | assumption); have q554 : x3_1 < (l0.length : Int) := of_decide_eq_true (by first | (with_reducible assumption) | assumption); obtain ⟨ad554, e554, hx554_0⟩ := Kd.at_int HR0.out x3_1 p554 q554; obtain rfl : ad550 = ad554 := (by injection e554); replace p554 := eq_true p554; replace q554 := eq_true q554; have p555 : 0 ≤ (x4_2 : Int) := of_decide_eq_true (by first | (with_reducible assumption) | assumption); have q555 : x4_2 < (l0.length : Int) := of_decide_eq_true (by first | (with_reducible assumption) | assumption); obtain ⟨ad555, e555, hx555_0⟩ := Kd.at_int HR0.out x4_2 p555 q555; obtain rfl : ad550 = ad555 := (by injection e555); replace p555 := eq_true p555; replace q555 := eq_true q555; have p556 : 0 ≤ (x3_1 : Int) := of_decide_eq_true (by first | (with_reducible assumption) | assumption); have q556 : x3_1 < (l0.length : Int) := of_decide_eq_true (by first | (with_reducible assumption) | assumption); obtain ⟨ad556, e556, hx556_0⟩ := Kd.at_int HR0.out x3_1 p556 q556; obtain rfl : ad550 = ad556 := (by injection e556); replace p556 := eq_true p556; replace q556 := eq_true q556; have p557 : 0 ≤ (x4_2 : Int) := of_decide_eq_true (by first | (with_reducible assumption) | assumption); have q557 : x4_2 < (l0.length : Int) := of_decide_eq_true (by first | (with_reducible assumption) | assumption); obtain ⟨ad557, e557, hx557_0⟩ := Kd.at_int HR0.out x4_2 p557 q557; obtain rfl : ad550 = ad557 := (by injection e557); replace p557 := eq_true p557; replace q557 := eq_true q557) | (go_at_call 37; (with_reducible refine (spec_l01Bit.calls (rd l0 x4_2) x3_1 false _ A16.out).mono ?_); rintro e w' ⟨rfl, ⟨nd, rfl⟩⟩; (try first | exact ⟨rfl, _, World.drewN_drewN _ _ _⟩ | exact ⟨rfl, _, Eq.trans (World.drewN_drewN _ _ _) (congrArg (World.drewN _) (Nat.add_assoc _ _ _))⟩))))
                 go_roundg k2
                 case measure => have := HK1.out; have := HK2.out; omega
                 case rel => exact ⟨(wrap64 (x4_2 + 1)), sz, H', ⟨by have := HK1.out; have := HK2.out; omega⟩, by repeat (first | exact Drawn0.refl _ | apply Drawn0.step)⟩
              ·rw [if_neg c14] at H
               have c14b0 : ((Go.bits .or .i64 (rd l0 x3_1) (rd l0 x4_2)) == (rd l0 x3_1)) = false := beq_eq_false_iff_ne.mpr c14
               have c14b1 : ((Go.bits .or .i64 (rd l0 x3_1) (rd l0 x4_2)) != (rd l0 x3_1)) = true := bne_iff_ne.mpr c14
               obtain rfl := Option.some.inj H
               have p552 : 0 ≤ (x3_1 : Int) := of_decide_eq_true (by first | (with_reducible assumption) | assumption)
               have q552 : x3_1 < (l0.length : Int) := of_decide_eq_true (by first | (with_reducible assumption) | assumption)
               obtain ⟨ad552, e552, hx552_0⟩ := Kd.at_int HR0.out x3_1 p552 q552
               obtain rfl : ad550 = ad552 := (by injection e552)
               replace p552 := eq_true p552; replace q552 := eq_true q552
               go_wp2_with (first | (go_at_call 37; (with_reducible refine (spec_l01Bit.calls (rd l0 x3_1) x4_2 true _ A11.out).mono ?_); rintro e w' ⟨rfl, ⟨nd, rfl⟩⟩; (try first | exact ⟨rfl, _, World.drewN_drewN _ _ _⟩ | exact ⟨rfl, _, Eq.trans (World.drewN_drewN _ _ _) (congrArg (World.drewN _) (Nat.add_assoc _ _ _))⟩); have p554 : 0 ≤ (x3_1 : Int) := of_decide_eq_true (by first | (with_reducible assumption) | assumption); have q554 : x3_1 < (l0.length : Int) := of_decide_eq_true (by first | (with_reducible assumption) | assumption); obtain ⟨ad554, e554, hx554_0⟩ := Kd.at_int HR0.out x3_1 p554 q554; obtain rfl : ad550 = ad554 := (by injection e554); replace p554 := eq_true p554; replace q554 := eq_true q554; have p555 : 0 ≤ (x4_2 : Int) := of_decide_eq_true (by first | (with_reducible assumption) | assumption); have q555 : x4_2 < (l0.length : Int) := of_decide_eq_true (by first | (with_reducible assumption) | assumption); obtain ⟨ad555, e555, hx555_0⟩ := Kd.at_int HR0.out x4_2 p555 q555; obtain rfl : ad550 = ad555 := (by injection e555); replace p555 := eq_true p555; replace q555 := eq_true q555; have p556 : 0 ≤ (x3_1 : Int) := of_decide_eq_true (by first | (with_reducible assumption) | assumption); have q556 : x3_1 < (l0.length : Int) := of_decide_eq_true (by first | (with_reducible assumption) | assumption); obtain ⟨ad556, e556, hx556_0⟩ := Kd.at_int HR0.out x3_1 p556 q556; obtain rfl : ad550 = ad556 := (by injection e556); replace p556 := eq_true p556; replace q556 := eq_true q556))
               repeat (go_quiet (first | (go_at_call 37; (with_reducible refine (spec_l01Bit.calls (rd l0 x3_1) x4_2 true _ A11.out).mono ?_); rintro e w' ⟨rfl, ⟨nd, rfl⟩⟩; (try first | exact ⟨rfl, _, World.drewN_drewN _ _ _⟩ | exact ⟨rfl, _, Eq.trans (World.drewN_drewN _ _ _) (congrArg (World.drewN _) (Nat.add_assoc _ _ _))⟩); have p554 : 0 ≤ (x3_1 : Int) := of_decide_eq_true (by first | (with_reducible assumption) | assumption); have q554 : x3_1 < (l0.length : Int) := of_decide_eq_true (by first | (with_reducible assumption) | assumption); obtain ⟨ad554, e554, hx554_0⟩ := Kd.at_int HR0.out x3_1 p554 q554; obtain rfl : ad550 = ad554 := (by injection e554); replace p554 := eq_true p554; replace q554 := eq_true q554; have p555 : 0 ≤ (x4_2 : Int) := of_decide_eq_true (by first | (with_reducible assumption) | assumption); have q555 : x4_2 < (l0.length : Int) := of_decide_eq_true (by first | (with_reducible assumption) | assumption); obtain ⟨ad555, e555, hx555_0⟩ := Kd.at_int HR0.out x4_2 p555 q555; obtain rfl : ad550 = ad555 := (by injection e555); replace p555 := eq_true p555; replace q555 := eq_true q555; have p556 : 0 ≤ (x3_1 : Int) := of_decide_eq_true (by first | (with_reducible assumption) | assumption); have q556 : x3_1 < (l0.length : Int) := of_decide_eq_true (by first | (with_reducible assumption) | assumption); obtain ⟨ad556, e556, hx556_0⟩ := Kd.at_int HR0.out x3_1 p556 q556; obtain rfl : ad550 = ad556 := (by injection e556); replace p556 := eq_true p556; replace q556 := eq_true q556)); try go_wp2_with (first | (go_at_call 37; (with_reducible refine (spec_l01Bit.calls (rd l0 x3_1) x4_2 true _ A11.out).mono ?_); rintro e w' ⟨rfl, ⟨nd, rfl⟩⟩; (try first | exact ⟨rfl, _, World.drewN_drewN _ _ _⟩ | exact ⟨rfl, _, Eq.trans (World.drewN_drewN _ _ _) (congrArg (World.drewN _) (Nat.add_assoc _ _ _))⟩); have p554 : 0 ≤ (x3_1 : Int) := of_decide_eq_true (by first | (with_reducible assumption) | assumption); have q554 : x3_1 < (l0.length : Int) := of_decide_eq_true (by first | (with_reducible assumption) | assumption); obtain ⟨ad554, e554, hx554_0⟩ := Kd.at_int HR0.out x3_1 p554 q554; obtain rfl : ad550 = ad554 := (by injection e554); replace p554 := eq_true p554; replace q554 := eq_true q554; have p555 : 0 ≤ (x4_2 : Int) := of_decide_eq_true (by first | (with_reducible assumption) | assumption); have q555 : x4_2 < (l0.length : Int) := of_decide_eq_true (by first | (with_reducible assumption) | assumption); obtain ⟨ad555, e555, hx555_0⟩ := Kd.at_int HR0.out x4_2 p555 q555; obtain rfl : ad550 = ad555 := (by injection e555); replace p555 := eq_true p555; replace q555 := eq_true q555; have p556 : 0 ≤ (x3_1 : Int) := of_decide_eq_true (by first | (with_reducible assumption) | assumption); have q556 : x3_1 < (l0.length : Int) := of_decide_eq_true (by first | (with_reducible assumption) | assumption); obtain ⟨ad556, e556, hx556_0⟩ := Kd.at_int HR0.out x3_1 p556 q556; obtain rfl : ad550 = ad556 := (by injection e556); replace p556 := eq_true p556; replace q556 := eq_true q556)))
               go_ret
               exact ⟨by first | rfl | (simp; done) | (simp [*]; done), by repeat (first | exact Drawn0.refl _ | apply Drawn0.step)⟩
             ·rw [if_neg c13] at H
              exact absurd H (by simp)
            ·replace c12 := Bool.eq_false_iff.mpr c12
             subst c12
             have H1 : (spec_IsOrder.l1 k2 l0 x3_1 (wrap64 (x4_2 + 1))) = some r := by rw [if_neg (show ¬ (false = true) by decide)] at H; exact H
             clear H; have H := H1; clear H1
             have H' := Aside0.mk H
             clear H
             have p552 : 0 ≤ (x3_1 : Int) := of_decide_eq_true (by first | (with_reducible assumption) | assumption)
             have q552 : x3_1 < (l0.length : Int) := of_decide_eq_true (by first | (with_reducible assumption) | assumption)
             obtain ⟨ad552, e552, hx552_0⟩ := Kd.at_int HR0.out x3_1 p552 q552
             obtain rfl : ad550 = ad552 := (by injection e552)
             replace p552 := eq_true p552; replace q552 := eq_true q552
             go_wp2_with (first | (go_at_call 37; (with_reducible refine (spec_l01Bit.calls (rd l0 x3_1) x4_2 false _ A11.out).mono ?_); rintro e w' ⟨rfl, ⟨nd, rfl⟩⟩; (try first | exact ⟨rfl, _, World.drewN_drewN _ _ _⟩ | exact ⟨rfl, _, Eq.trans (World.drewN_drewN _ _ _) (congrArg (World.drewN _) (Nat.add_assoc _ _ _))⟩)))
             repeat (go_quiet (first | (go_at_call 37; (with_reducible refine (spec_l01Bit.calls (rd l0 x3_1) x4_2 false _ A11.out).mono ?_); rintro e w' ⟨rfl, ⟨nd, rfl⟩⟩; (try first | exact ⟨rfl, _, World.drewN_drewN _ _ _⟩ | exact ⟨rfl, _, Eq.trans (World.drewN_drewN _ _ _) (congrArg (World.drewN _) (Nat.add_assoc _ _ _))⟩))); try go_wp2_with (first | (go_at_call 37; (with_reducible refine (spec_l01Bit.calls (rd l0 x3_1) x4_2 false _ A11.out).mono ?_); rintro e w' ⟨rfl, ⟨nd, rfl⟩⟩; (try first | exact ⟨rfl, _, World.drewN_drewN _ _ _⟩ | exact ⟨rfl, _, Eq.trans (World.drewN_drewN _ _ _) (congrArg (World.drewN _) (Nat.add_assoc _ _ _))⟩))))
             go_roundg k2
             case measure => have := HK1.out; have := HK2.out; omega
             case rel => exact ⟨(wrap64 (x4_2 + 1)), sz, H', ⟨by have := HK1.out; have := HK2.out; omega⟩, by repeat (first | exact Drawn0.refl _ | apply Drawn0.step)⟩
           ·rw [if_neg c10] at H
            exact absurd H (by simp)
          ·rw [if_neg c9] at H
           exact absurd H (by simp)
         ·rw [if_neg c8] at H
          have c8b0 : decide (x4_2 < (l0.length : Int)) = false := decide_eq_false c8
          clear c8
          have H' := Aside0.mk H
          clear H
          go_wp2
          repeat (go_quiet (fail); try go_wp2)
          go_roundg k2
          case measure => have := HK1.out; have := HK2.out; omega
          case rel => exact ⟨(wrap64 (x3_1 + 1)), sz, H', ⟨by have := HK1.out; have := HK2.out; omega⟩, by repeat (first | exact Drawn0.refl _ | apply Drawn0.step)⟩
      ·replace c7 := Bool.eq_false_iff.mpr c7
       subst c7
       have H1 : (some false) = some r := by rw [if_neg (show ¬ (false = true) by decide)] at H; exact H
       clear H; have H := H1; clear H1
       obtain rfl := Option.some.inj H
       have p550 : 0 ≤ (x3_1 : Int) := of_decide_eq_true (by first | (with_reducible assumption) | assumption)
       have q550 : x3_1 < (l0.length : Int) := of_decide_eq_true (by first | (with_reducible assumption) | assumption)
       obtain ⟨ad550, e550, hx550_0⟩ := Kd.at_int HR0.out x3_1 p550 q550; cases e550; replace p550 := eq_true p550; replace q550 := eq_true q550
       go_wp2_with (first | (go_at_call 37; (with_reducible refine (spec_l01Bit.calls (rd l0 x3_1) x3_1 false _ A6.out).mono ?_); rintro e w' ⟨rfl, ⟨nd, rfl⟩⟩; (try first | exact ⟨rfl, _, World.drewN_drewN _ _ _⟩ | exact ⟨rfl, _, Eq.trans (World.drewN_drewN _ _ _) (congrArg (World.drewN _) (Nat.add_assoc _ _ _))⟩)))
       repeat (go_quiet (first | (go_at_call 37; (with_reducible refine (spec_l01Bit.calls (rd l0 x3_1) x3_1 false _ A6.out).mono ?_); rintro e w' ⟨rfl, ⟨nd, rfl⟩⟩; (try first | exact ⟨rfl, _, World.drewN_drewN _ _ _⟩ | exact ⟨rfl, _, Eq.trans (World.drewN_drewN _ _ _) (congrArg (World.drewN _) (Nat.add_assoc _ _ _))⟩))); try go_wp2_with (first | (go_at_call 37; (with_reducible refine (spec_l01Bit.calls (rd l0 x3_1) x3_1 false _ A6.out).mono ?_); rintro e w' ⟨rfl, ⟨nd, rfl⟩⟩; (try first | exact ⟨rfl, _, World.drewN_drewN _ _ _⟩ | exact ⟨rfl, _, Eq.trans (World.drewN_drewN _ _ _) (congrArg (World.drewN _) (Nat.add_assoc _ _ _))⟩))))
       go_ret
       exact ⟨by first | rfl | (simp; done) | (simp [*]; done), by repeat (first | exact Drawn0.refl _ | apply Drawn0.step)⟩
     ·rw [if_neg c5] at H
      exact absurd H (by simp)
    ·rw [if_neg c4] at H
     have c4b0 : decide (x3_1 < (l0.length : Int)) = false := decide_eq_false c4
     clear c4
     obtain rfl := Option.some.inj H
     go_wp2
     repeat (go_quiet (fail); try go_wp2)
     go_ret
     exact ⟨by first | rfl | (simp; done) | (simp [*]; done), by repeat (first | exact Drawn0.refl _ | apply Drawn0.step)⟩
 ·replace c3 := Bool.eq_false_iff.mpr c3
  subst c3
  have H1 : (some false) = some r := by rw [if_neg (show ¬ (false = true) by decide)] at H; exact H
  clear H; have H := H1; clear H1
  obtain rfl := Option.some.inj H
  go_enter Tryd.func27, Tryd.ntmps27
  go_wp2_with (first | (go_at_call 32; (with_reducible refine (spec_IsRelation.calls k _ _ l0 false _ ?side1 ?side2 A2.out).mono ?_); (case side1 => have q_ := Aside0.mk HR0.out; exact cQ q_); (case side2 => exact HC0.out); rintro e w' ⟨rfl, ⟨nd, rfl⟩⟩; (try first | exact ⟨rfl, _, World.drewN_drewN _ _ _⟩ | exact ⟨rfl, _, Eq.trans (World.drewN_drewN _ _ _) (congrArg (World.drewN _) (Nat.add_assoc _ _ _))⟩)))
  repeat (go_quiet (first | (go_at_call 32; (with_reducible refine (spec_IsRelation.calls k _ _ l0 false _ ?side1 ?side2 A2.out).mono ?_); (case side1 => have q_ := Aside0.mk HR0.out; exact cQ q_); (case side2 => exact HC0.out); rintro e w' ⟨rfl, ⟨nd, rfl⟩⟩; (try first | exact ⟨rfl, _, World.drewN_drewN _ _ _⟩ | exact ⟨rfl, _, Eq.trans (World.drewN_drewN _ _ _) (congrArg (World.drewN _) (Nat.add_assoc _ _ _))⟩))); try go_wp2_with (first | (go_at_call 32; (with_reducible refine (spec_IsRelation.calls k _ _ l0 false _ ?side1 ?side2 A2.out).mono ?_); (case side1 => have q_ := Aside0.mk HR0.out; exact cQ q_); (case side2 => exact HC0.out); rintro e w' ⟨rfl, ⟨nd, rfl⟩⟩; (try first | exact ⟨rfl, _, World.drewN_drewN _ _ _⟩ | exact ⟨rfl, _, Eq.trans (World.drewN_drewN _ _ _) (congrArg (World.drewN _) (Nat.add_assoc _ _ _))⟩))))
  go_ret
  exact ⟨by first | rfl | (simp; done) | (simp [*]; done), by repeat (first | exact Drawn0.refl _ | apply Drawn0.step)⟩

/-! ### spec_l01Below: function 62 -/
def spec_l01Below.l0 : Nat → List Int → Int → Int → Int → Option (Int)
 | 0, _, _, _, _ => none
 | k + 1, x0, x1, x5, x6 => if x6 < (x0.length : Int) then (if 0 ≤ x6 then ((spec_l01Bit.f (rd x0 x6) x1).bind fun t560 => (if t560 = true then ((spec_l01One.f x6).bind fun t561 => (spec_l01Below.l0 k x0 x1 (Go.bits .or .i64 x5 t561) (wrap64 (x6 + 1)))) else (spec_l01Below.l0 k x0 x1 x5 (wrap64 (x6 + 1))))) else (none)) else (some x5)
def spec_l01Below.f (k : Nat) (l0 : List Int) (a1 : Int) : Option (Int) := spec_l01Below.l0 k l0 a1 0 0
theorem spec_l01Below.mono_l : ∀ k, (∀ y0 y1 y2 y3, LeO (spec_l01Below.l0 k y0 y1 y2 y3) (spec_l01Below.l0 (k + 1) y0 y1 y2 y3))
 | 0 => fun _ _ _ _ r h => by simp [spec_l01Below.l0] at h
 | k + 1 => by
  have ih0 := spec_l01Below.mono_l k
  ·intro y0 y1 y2 y3
   unfold spec_l01Below.l0
   repeat' first
   | (with_reducible exact ih0 _ _ _ _)
   | (with_reducible exact LeO.refl _)
   | (with_reducible exact LeO.none _)
   | (with_reducible refine LeO.ite ?_ ?_)
   | (with_reducible refine LeO.bind ?_ (fun _ => ?_))
   | exact ih0 _ _ _ _
   | exact LeO.none _
   | refine LeO.ite ?_ ?_
   | refine LeO.bind ?_ (fun _ => ?_)
theorem spec_l01Below.mono : ∀ a0 a1 k, LeO (spec_l01Below.f k a0 a1) (spec_l01Below.f (k + 1) a0 a1) := by
 intro a0 a1 k
 have ih0 := spec_l01Below.mono_l k
 unfold spec_l01Below.f
 repeat' first
   | (with_reducible exact ih0 _ _ _ _)
   | (with_reducible exact LeO.refl _)
   | (with_reducible exact LeO.none _)
   | (with_reducible refine LeO.ite ?_ ?_)
   | (with_reducible refine LeO.bind ?_ (fun _ => ?_))
   | exact ih0 _ _ _ _
   | exact LeO.none _
   | refine LeO.ite ?_ ?_
   | refine LeO.bind ?_ (fun _ => ?_)
set_option maxHeartbeats 8000000 in
set_option maxRecDepth 100000 in
theorem spec_l01Below.calls (k : Nat) (A0 : Option Addr) (c0 : Nat) (l0 : List Int) (a1 : Int) (r : Int) (w : World) (hr0 : Kd.C (Kd.int .i64) w A0 l0.length l0) (hc0 : l0.length ≤ c0) (h : spec_l01Below.f k l0 a1 = some r) :
  Calls Tryd.prog 62 #[.slice A0 l0.length c0, .int .i64 a1] w fun e w' => e = .returned (.int .i64 r) ∧ Drawn0 w w' := by
 have HR0 := Aside0.mk hr0; have HC0 := Aside0.mk hc0; clear hr0 hc0
 have H : (spec_l01Below.l0 k l0 a1 0 0) = some r := h
 clear h
 have H' := Aside0.mk H
 clear H
 go_enter Tryd.func62, Tryd.ntmps62
 go_wp2
 go_loopg [5, 6] k (fun kq v5 v6 w' => ∃ (x5_1 : Int) (x6_1 : Int), v5 = .int .i64 x5_1 ∧ v6 = .int .i64 x6_1 ∧ Aside0 (spec_l01Below.l0 kq l0 a1 x5_1 x6_1 = some r) ∧ Aside0 (kq ≤ k) ∧ Drawn0 w w')
 case atStart => exact ⟨(0), (0), sz, sz, H', ⟨Nat.le_refl _⟩, by repeat (first | exact Drawn0.refl _ | apply Drawn0.step)⟩
 case round =>
  clear H'
  try clear p2
  obtain ⟨x5_1, x6_1, rfl, rfl, HA, HK1, ⟨m1, rfl⟩⟩ := hrel
  cases gk with
  | zero => exact absurd HA.out (by simp [spec_l01Below.l0])
  | succ k1 =>
   have H := HA.out; clear HA
   simp only [spec_l01Below.l0] at H
   by_cases c3 : x6_1 < (l0.length : Int)
   ·rw [if_pos c3] at H
    have c3b0 : decide (x6_1 < (l0.length : Int)) = true := decide_eq_true c3
    clear c3
    by_cases c4 : 0 ≤ x6_1
    ·rw [if_pos c4] at H
     have c4b0 : decide (0 ≤ x6_1) = true := decide_eq_true c4
     clear c4; replace H := Option.bind_eq_some_iff.mp H; obtain ⟨t560, A50, H⟩ := H
     replace H : (if t560 = true then ((spec_l01One.f x6_1).bind fun t561 => (spec_l01Below.l0 k1 l0 a1 (Go.bits .or .i64 x5_1 t561) (wrap64 (x6_1 + 1)))) else (spec_l01Below.l0 k1 l0 a1 x5_1 (wrap64 (x6_1 + 1)))) = some r := H
     have A5 := Aside0.mk A50; clear A50
     by_cases c6 : t560 = true
     ·subst c6
      have H1 : ((spec_l01One.f x6_1).bind fun t561 => (spec_l01Below.l0 k1 l0 a1 (Go.bits .or .i64 x5_1 t561) (wrap64 (x6_1 + 1)))) = some r := by rw [if_pos rfl] at H; exact H
      clear H; have H := H1; clear H1; replace H := Option.bind_eq_some_iff.mp H; obtain ⟨t561, A70, H⟩ := H
      replace H : (spec_l01Below.l0 k1 l0 a1 (Go.bits .or .i64 x5_1 t561) (wrap64 (x6_1 + 1))) = some r := H
      have A7 := Aside0.mk A70; clear A70
      have H' := Aside0.mk H
      clear H
      have p559 : 0 ≤ (x6_1 : Int) := of_decide_eq_true (by first | (with_reducible assumption) | assumption)
      have q559 : x6_1 < (l0.length : Int) := of_decide_eq_true (by first | (with_reducible assumption) | assumption)
      obtain ⟨ad559, e559, hx559_0⟩ := Kd.at_int HR0.out x6_1 p559 q559; cases e559; replace p559 := eq_true p559; replace q559 := eq_true q559
      go_wp2_with (first | ((with_reducible refine gate_callee (f := 37) rfl ?_); refine goesL_ (some 18) rfl rfl Tryd.func37 (by kernel_rfl) rfl #[.int .i64 (rd l0 x6_1), .int .i64 a1] rfl lz ?_; (with_reducible refine (spec_l01Bit.calls (rd l0 x6_1) a1 true _ A5.out).mono ?_); rintro e w' ⟨rfl, ⟨nd, rfl⟩⟩; refine ⟨_, rfl, ?_⟩) | ((with_reducible refine gate_callee (f := 47) rfl ?_); refine goesL_ (some 21) rfl rfl Tryd.func47 (by kernel_rfl) rfl #[.int .i64 x6_1] rfl lz ?_; (with_reducible refine (spec_l01One.calls x6_1 t561 _ A7.out).mono ?_); rintro e w' ⟨rfl, ⟨nd, rfl⟩⟩; refine ⟨_, rfl, ?_⟩))
      go_roundg k1
      case measure => have := HK1.out; omega
      case rel => exact ⟨(Go.bits .or .i64 x5_1 t561), (wrap64 (x6_1 + 1)), sz, sz, H', ⟨by have := HK1.out; omega⟩, by repeat (first | exact Drawn0.refl _ | apply Drawn0.step)⟩
     ·replace c6 := Bool.eq_false_iff.mpr c6
      subst c6
      have H1 : (spec_l01Below.l0 k1 l0 a1 x5_1 (wrap64 (x6_1 + 1))) = some r := by rw [if_neg (show ¬ (false = true) by decide)] at H; exact H
      clear H; have H := H1; clear H1
      have H' := Aside0.mk H
      clear H
      have p559 : 0 ≤ (x6_1 : Int) := of_decide_eq_true (by first | (with_reducible assumption) | assumption)
      have q559 : x6_1 < (l0.length : Int) := of_decide_eq_true (by first | (with_reducible assumption) | assumption)
      obtain ⟨ad559, e559, hx559_0⟩ := Kd.at_int HR0.out x6_1 p559 q559; cases e559; replace p559 := eq_true p559; replace q559 := eq_true q559
      go_wp2_with (first | ((with_reducible refine gate_callee (f := 37) rfl ?_); refine goesL_ (some 18) rfl rfl Tryd.func37 (by kernel_rfl) rfl #[.int .i64 (rd l0 x6_1), .int .i64 a1] rfl lz ?_; (with_reducible refine (spec_l01Bit.calls (rd l0 x6_1) a1 false _ A5.out).mono ?_); rintro e w' ⟨rfl, ⟨nd, rfl⟩⟩; refine ⟨_, rfl, ?_⟩))
      go_roundg k1
      case measure => have := HK1.out; omega
      case rel => exact ⟨(x5_1), (wrap64 (x6_1 + 1)), sz, sz, H', ⟨by have := HK1.out; omega⟩, by repeat (first | exact Drawn0.refl _ | apply Drawn0.step)⟩
    ·rw [if_neg c4] at H
     exact absurd H (by simp)
   ·rw [if_neg c3] at H
    have c3b0 : decide (x6_1 < (l0.length : Int)) = false := decide_eq_false c3
    clear c3
    obtain rfl := Option.some.inj H
    go_wp2
    go_ret
    exact ⟨by first | rfl | (simp; done) | (simp [*]; done), by repeat (first | exact Drawn0.refl _ | apply Drawn0.step)⟩

/-! ### spec_l01Downsets: function 44 -/
mutual
def spec_l01Downsets.j0 : Nat → List Int → Int → Int → Int → List Int → Option (List Int)
 | 0, _, _, _, _, _ => none
 | k + 1, x0, x1, x2, x3, x4 => (spec_l01Below.f k x0 x1).bind fun t570 => (if (Go.bits .and .i64 t570 x3) = 0 then ((spec_l01One.f x1).bind fun t571 => ((spec_l01Downsets.f k x0 x1 (Go.bits .or .i64 x2 t571) x3 x4).bind fun t572 => (some t572))) else (some x4))
def spec_l01Downsets.f : Nat → List Int → Int → Int → Int → List Int → Option (List Int)
 | 0, _, _, _, _, _ => none
 | k + 1, l0, a1, a2, a3, l4 => if (l4.length : Int) > 4096 then (some l4) else (if a1 = 0 then (if l4.length < 17592186044416 then (some (l4 ++ [a2])) else (none)) else (if 0 ≤ (wrap64 (a1 - 1)) then (if (wrap64 (a1 - 1)) < (l0.length : Int) then (if (Go.bits .and .i64 (rd l0 (wrap64 (a1 - 1))) a2) = 0 then ((spec_l01One.f (wrap64 (a1 - 1))).bind fun t566 => ((spec_l01Downsets.f k l0 (wrap64 (a1 - 1)) a2 (Go.bits .or .i64 a3 t566) l4).bind fun t567 => (spec_l01Downsets.j0 k l0 (wrap64 (a1 - 1)) a2 a3 t567))) else (spec_l01Downsets.j0 k l0 (wrap64 (a1 - 1)) a2 a3 l4)) else (none)) else (none)))
end
theorem spec_l01Downsets.mono_l : ∀ k, (∀ y0 y1 y2 y3 y4, LeO (spec_l01Downsets.f k y0 y1 y2 y3 y4) (spec_l01Downsets.f (k + 1) y0 y1 y2 y3 y4)) ∧ (∀ y0 y1 y2 y3 y4, LeO (spec_l01Downsets.j0 k y0 y1 y2 y3 y4) (spec_l01Downsets.j0 (k + 1) y0 y1 y2 y3 y4))
 | 0 => ⟨fun _ _ _ _ _ r h => by simp [spec_l01Downsets.f] at h, fun _ _ _ _ _ r h => by simp [spec_l01Downsets.j0] at h⟩
 | k + 1 => by
  obtain ⟨ih0, ih1⟩ := spec_l01Downsets.mono_l k
  refine ⟨?_, ?_⟩
  ·intro y0 y1 y2 y3 y4
   unfold spec_l01Downsets.f
   repeat' first
   | (with_reducible exact ih0 _ _ _ _ _)
   | (with_reducible exact ih1 _ _ _ _ _)
   | (with_reducible exact spec_l01Below.mono _ _ _)
   | (with_reducible exact LeO.refl _)
   | (with_reducible exact LeO.none _)
   | (with_reducible refine LeO.ite ?_ ?_)
   | (with_reducible refine LeO.bind ?_ (fun _ => ?_))
   | exact ih0 _ _ _ _ _
   | exact ih1 _ _ _ _ _
   | exact spec_l01Below.mono _ _ _
   | exact LeO.none _
   | refine LeO.ite ?_ ?_
   | refine LeO.bind ?_ (fun _ => ?_)
  ·intro y0 y1 y2 y3 y4
   unfold spec_l01Downsets.j0
   repeat' first
   | (with_reducible exact ih0 _ _ _ _ _)
   | (with_reducible exact ih1 _ _ _ _ _)
   | (with_reducible exact spec_l01Below.mono _ _ _)
   | (with_reducible exact LeO.refl _)
   | (with_reducible exact LeO.none _)
   | (with_reducible refine LeO.ite ?_ ?_)
   | (with_reducible refine LeO.bind ?_ (fun _ => ?_))
   | exact ih0 _ _ _ _ _
   | exact ih1 _ _ _ _ _
   | exact spec_l01Below.mono _ _ _
   | exact LeO.none _
   | refine LeO.ite ?_ ?_
   | refine LeO.bind ?_ (fun _ => ?_)
theorem spec_l01Downsets.mono : ∀ a0 a1 a2 a3 a4 k, LeO (spec_l01Downsets.f k a0 a1 a2 a3 a4) (spec_l01Downsets.f (k + 1) a0 a1 a2 a3 a4) := by
 intro a0 a1 a2 a3 a4 k
 obtain ⟨ih0, ih1⟩ := spec_l01Downsets.mono_l k
 exact ih0 a0 a1 a2 a3 a4
set_option maxHeartbeats 8000000 in
set_option maxRecDepth 100000 in
theorem spec_l01Downsets.calls (k : Nat) : ∀ (A0 : Option Addr) (c0 : Nat) (l0 : List Int) (a1 : Int) (a2 : Int) (a3 : Int) (P4_ : Nat → Prop) (u9000_ : Value) (l4 : List Int) (r : List Int) (w0 w : World) (hB : Below w0.heap.size w0 w) (hr0 : ∀ W_, Kept w W_ (fun k_ => P4_ k_) → Kd.C (Kd.int .i64) W_ A0 l0.length l0) (hc0 : l0.length ≤ c0) (ho4 : Kd.R (Kd.int .i64) 2 w w0.heap.size P4_ u9000_ l4) (h : spec_l01Downsets.f k l0 a1 a2 a3 l4 = some r),
  Calls Tryd.prog 44 #[.slice A0 l0.length c0, .int .i64 a1, .int .i64 a2, .int .i64 a3, u9000_] w fun e w' => ∃ v0_ : Value, e = .returned (v0_) ∧ Kd.R (Kd.int .i64) 2 w' w0.heap.size (fun k_ => (P4_ k_ ∨ w.heap.size ≤ k_)) v0_ r ∧ Below w0.heap.size w0 w' ∧ Kept w w' (fun k_ => P4_ k_) := by
 induction k using Nat.strongRecOn with
 | _ k ih =>
 intro A0 c0 l0 a1 a2 a3 P4_ u9000_ l4 r w0 w hB hr0 hc0 ho4 h
 cases k with
 | zero => exact absurd h (by simp [spec_l01Downsets.f])
 | succ k =>
 simp only [spec_l01Downsets.f] at h
 have HR0 := Aside0.mk hr0; have HC0 := Aside0.mk hc0; clear hr0 hc0; have HO4 := Aside0.mk (show Kd.R (Kd.int .i64) 2 w w0.heap.size (fun k_ => (P4_ k_ ∨ w.heap.size ≤ k_)) u9000_ l4 from Kd.R_mono ho4 (fun k_ hk => (.inl hk))); have HK := Aside0.mk (Kept.refl w (fun k_ => P4_ k_)); have HW0 := Aside0.mk hB.size; have HB := Aside0.mk hB; clear hB
 have H : (if (l4.length : Int) > 4096 then (some l4) else (if a1 = 0 then (if l4.length < 17592186044416 then (some (l4 ++ [a2])) else (none)) else (if 0 ≤ (wrap64 (a1 - 1)) then (if (wrap64 (a1 - 1)) < (l0.length : Int) then (if (Go.bits .and .i64 (rd l0 (wrap64 (a1 - 1))) a2) = 0 then ((spec_l01One.f (wrap64 (a1 - 1))).bind fun t566 => ((spec_l01Downsets.f k l0 (wrap64 (a1 - 1)) a2 (Go.bits .or .i64 a3 t566) l4).bind fun t567 => (spec_l01Downsets.j0 k l0 (wrap64 (a1 - 1)) a2 a3 t567))) else (spec_l01Downsets.j0 k l0 (wrap64 (a1 - 1)) a2 a3 l4)) else (none)) else (none)))) = some r := h
 clear h
 by_cases c6 : (l4.length : Int) > 4096
 ·rw [if_pos c6] at H
  have c6b0 : decide (4096 < (l4.length : Int)) = true := decide_eq_true c6
  have c6b1 : decide (4096 < l4.length) = true := decide_eq_true (by omega)
  clear c6
  obtain rfl := Option.some.inj H
  obtain ⟨Ao7, co7, eo7⟩ := Kd.R_slice HO4.out; subst eo7
  go_enter Tryd.func44, Tryd.ntmps44
  go_wp2
  go_ret
  exact ⟨_, rz, kdQ HO4, beQ HB, by repeat (first | (with_reducible first | exact HK.out | apply Kept.alloc | apply Kept.drewN | apply Kept.drew) | exact HK.out)⟩
 ·rw [if_neg c6] at H
  have c6b0 : decide (4096 < (l4.length : Int)) = false := decide_eq_false c6
  have c6b1 : decide (4096 < l4.length) = false := decide_eq_false (by omega)
  clear c6
  by_cases c8 : a1 = 0
  ·rw [if_pos c8] at H
   have c8b0 : (a1 == 0) = true := beq_iff_eq.mpr c8
   have c8b1 : (a1 != 0) = false := bne_eq_false_iff_eq.mpr c8
   clear c8
   by_cases c9 : l4.length < 17592186044416
   ·rw [if_pos c9] at H
    have LMc9 := Aside0.mk c9; clear c9
    obtain ⟨y562, hy562⟩ : ∃ y_ : List Int, y_ = (l4 ++ [a2]) := ⟨_, rfl⟩
    replace H : (some y562) = some r := by first | (rw [hy562]; with_reducible exact H) | (have H2_ := (Option.bind_some _ _).symm.trans H; rw [hy562]; with_reducible exact H2_) | (have H2_ := (Option.bind_some _ _).symm.trans H; with_reducible exact H2_) | with_reducible exact H | (rw [hy562]; exact H) | exact H
    have Ny562 := Aside0.mk hy562; clear hy562
    obtain rfl := Option.some.inj H
    obtain ⟨Ao10, co10, eo10⟩ := Kd.R_slice HO4.out; subst eo10
    go_enter Tryd.func44, Tryd.ntmps44
    go_wp2_with (first | ((with_reducible refine gate_builtin (b := .append) (xs := #[.tmp 17, .tmp 19]) rfl ?_); at_builtin; refine Kd.R_append (Kd.int .i64) (w0 := w0) w0.heap.size rfl (.tmp 17) (.tmp 19) 22 2 (.int .i64 0) 8 rfl Tryd.underlying22 info2 rfl (by decide) (by omega) (.slice Ao10 l4.length co10) l4 a2 [.int .i64 a2] (fun k_ => (P4_ k_ ∨ w.heap.size ≤ k_)) (fun _ => False) rfl rfl ?aP (fun _ hk => hk.elim) ?aF ?aO ?aB ?aS ?aL ?_; (case aP => exact rfl); (case aB => exact (beQ HB)); (case aF => exact (fun k_ hk => (.inr (Nat.le_trans (by first | exact HK.out.1 | exact (show Kept w _ (fun k_ => P4_ k_) from by repeat (first | (with_reducible first | exact HK.out | apply Kept.alloc | apply Kept.drewN | apply Kept.drew) | exact HK.out)).1) hk)))); (case aO => exact (kdQ HO4)); (case aS => exact (below_size (beQ HB))); (case aL => have := LMc9.out; omega); intro v563 w11 ho hb hg hat; rw [← Ny562.out] at ho; have n0_ := Aside0.mk (hb); have n1_ := Aside0.mk (Kept.of_grown (S := (fun k_ => P4_ k_)) hg (by repeat (first | (with_reducible first | exact HK.out | apply Kept.alloc | apply Kept.drewN | apply Kept.drew) | exact HK.out)) (fun k_ e_ => (HO4.out.1 k_ e_))); have n2_ := Aside0.mk (ho); clear HB; clear HK; clear HO4; have HB := n0_; have HK := n1_; have HO564 := n2_; clear n0_ n1_ n2_; clear ho hb hg hat))
    go_ret
    exact ⟨_, rz, kdQ HO564, beQ HB, by repeat (first | (with_reducible first | exact HK.out | apply Kept.alloc | apply Kept.drewN | apply Kept.drew) | exact HK.out)⟩
   ·rw [if_neg c9] at H
    exact absurd H (by simp)
  ·rw [if_neg c8] at H
   have c8b0 : (a1 == 0) = false := beq_eq_false_iff_ne.mpr c8
   have c8b1 : (a1 != 0) = true := bne_iff_ne.mpr c8
   obtain ⟨ji12, hji12⟩ : ∃ j_ : Int, (wrap64 (a1 - 1)) = j_ := ⟨_, rfl⟩
   replace H : (if 0 ≤ (ji12) then (if (ji12) < (l0.length : Int) then (if (Go.bits .and .i64 (rd l0 (ji12)) a2) = 0 then ((spec_l01One.f (ji12)).bind fun t566 => ((spec_l01Downsets.f k l0 (ji12) a2 (Go.bits .or .i64 a3 t566) l4).bind fun t567 => (spec_l01Downsets.j0 k l0 ji12 a2 a3 t567))) else (spec_l01Downsets.j0 k l0 ji12 a2 a3 l4)) else (none)) else (none)) = some r := by first | (rw [hji12] at H; exact H) | (simp only [hji12] at H ⊢; exact H)
   have hji12w : (IntKind.i64.wrap (a1 - 1)) = ji12 := (i64_w _).trans hji12
   by_cases c13 : 0 ≤ (ji12)
   ·rw [if_pos c13] at H
    have c13b0 : decide (0 ≤ (ji12)) = true := decide_eq_true c13
    clear c13
    by_cases c14 : (ji12) < (l0.length : Int)
    ·rw [if_pos c14] at H
     have c14b0 : decide ((ji12) < (l0.length : Int)) = true := decide_eq_true c14
     clear c14; have HC15 := Aside0.mk H; clear H; obtain ⟨Ao16, co16, eo16⟩ := Kd.R_slice HO4.out; subst eo16
     have p565 : 0 ≤ ((ji12) : Int) := of_decide_eq_true (by first | (with_reducible assumption) | assumption)
     have q565 : (ji12) < (l0.length : Int) := of_decide_eq_true (by first | (with_reducible assumption) | assumption)
     obtain ⟨ad565, e565, hx565_0⟩ := Kd.at_int (Kd.C_kept_now HR0.out HK.out) (ji12) p565 q565; cases e565; replace p565 := eq_true p565; replace q565 := eq_true q565
     go_enter Tryd.func44, Tryd.ntmps44
     go_upto_if 29 with (fail)
     go_cut [4] (fun v4 wc => ∃ (kq : Nat) (x4_14 : List Int), Aside0 (spec_l01Downsets.j0 kq l0 ji12 a2 a3 x4_14 = some r) ∧ Aside0 (kq ≤ k) ∧ Aside0 (Kd.R (Kd.int .i64) 2 wc w0.heap.size (fun k_ => (P4_ k_ ∨ w.heap.size ≤ k_)) v4 x4_14) ∧ Aside0 (Kept w wc (fun k_ => P4_ k_)) ∧ Aside0 (Below w0.heap.size w0 wc))
     case first =>
      have H := HC15.out; clear HC15
      by_cases c17 : (Go.bits .and .i64 (rd l0 (ji12)) a2) = 0
      ·rw [if_pos c17] at H
       have c17b0 : ((Go.bits .and .i64 (rd l0 (ji12)) a2) == 0) = true := beq_iff_eq.mpr c17
       have c17b1 : ((Go.bits .and .i64 (rd l0 (ji12)) a2) != 0) = false := bne_eq_false_iff_eq.mpr c17
       clear c17
       (first | rw [c17b0] | (simp only [i64_w, i32_w]; rw [c17b0]) | skip)
       replace H := Option.bind_eq_some_iff.mp H; obtain ⟨t566, A180, H⟩ := H
       replace H : ((spec_l01Downsets.f k l0 (ji12) a2 (Go.bits .or .i64 a3 t566) l4).bind fun t567 => (spec_l01Downsets.j0 k l0 ji12 a2 a3 t567)) = some r := H
       have A18 := Aside0.mk A180; clear A180; replace H := Option.bind_eq_some_iff.mp H; obtain ⟨t567, A190, H⟩ := H
       replace H : (spec_l01Downsets.j0 k l0 ji12 a2 a3 t567) = some r := H
       have A19 := Aside0.mk A190; clear A190
       have H' := Aside0.mk H
       clear H
       go_wp2_with (first | ((with_reducible refine gate_callee (f := 47) rfl ?_); refine goesL_ (some 35) rfl rfl Tryd.func47 (by kernel_rfl) rfl #[.int .i64 ji12] rfl (by (try simp only [List.map_toArray, List.map_cons, List.map_nil]); first | done | (simp only [hji12]; rfl) | rfl | (simp only [List.length_drop, List.length_take]; rfl)) ?_; (with_reducible refine (spec_l01One.calls ji12 t566 _ A18.out).mono ?_); rintro e w' ⟨rfl, ⟨nd, rfl⟩⟩; refine ⟨_, rfl, ?_⟩) | ((with_reducible refine gate_callee (f := 44) rfl ?_); refine goesL_ (some 38) rfl rfl Tryd.func44 (by kernel_rfl) rfl #[.slice (some ad565) l0.length c0, .int .i64 ji12, .int .i64 a2, .int .i64 (Go.bits .or .i64 a3 t566), .slice Ao16 l4.length co16] rfl (by (try simp only [List.map_toArray, List.map_cons, List.map_nil]); first | done | (simp only [hji12]; rfl) | rfl | (simp only [List.length_drop, List.length_take]; rfl)) ?_; (with_reducible refine (ih k (by omega) _ _ l0 ji12 a2 (Go.bits .or .i64 a3 t566) (fun k_ => some k_ = (.slice Ao16 l4.length co16 : Value).ownBlock) (.slice Ao16 l4.length co16) l4 t567 w0 _ ?side1 ?side2 ?side3 ?side4 A19.out).mono ?_); (case side1 => repeat (first | (with_reducible first | exact HB.out | apply below_alloc | apply pw_below_drewN | apply below_drew1) | exact HB.out)); (case side2 => exact Kd.C_kept_call HR0.out (by repeat (first | (with_reducible first | exact HK.out | apply Kept.alloc | apply Kept.drewN | apply Kept.drew) | exact HK.out)) (fun k_ hs_ => (fun e_ => (HO4.out.1 k_ e_.symm)) hs_)); (case side3 => exact HC0.out); (case side4 => exact Kd.R_tight rfl HO4.out); rintro e w20 ⟨v568, rfl, ho0, hb, hkp⟩; refine ⟨_, rfl, ?_⟩; have n0_ := Aside0.mk (Kd.R_mono (ok' := fun k_ => (P4_ k_ ∨ w.heap.size ≤ k_)) ho0 (fun k_ hk_ => Or.elim hk_ (fun hs_ => (HO4.out.1 k_ (hs_).symm)) (fun hn_ => (.inr (Nat.le_trans (by first | exact HK.out.1 | exact (show Kept w _ (fun k_ => P4_ k_) from by repeat (first | (with_reducible first | exact HK.out | apply Kept.alloc | apply Kept.drewN | apply Kept.drew) | exact HK.out)).1) hn_))))); have n1_ := Aside0.mk (Kept.then_ (S := (fun k_ => P4_ k_)) (by repeat (first | (with_reducible first | exact HK.out | apply Kept.alloc | apply Kept.drewN | apply Kept.drew) | exact HK.out)) hkp (fun k_ hs_ => (fun e_ => (HO4.out.1 k_ e_.symm)) hs_)); have n2_ := Aside0.mk (hb); clear HK; clear HB; clear HO4; have HO569 := n0_; have HK := n1_; have HB := n2_; clear n0_ n1_ n2_; (try clear hb); (try clear hkp); (try clear ho0)))
       go_meet
       case rel => exact ⟨_, (t567), H', ⟨by first | omega | exact Nat.le_refl _⟩, ⟨kdQ HO569⟩, ⟨by repeat (first | (with_reducible first | exact HK.out | apply Kept.alloc | apply Kept.drewN | apply Kept.drew) | exact HK.out)⟩, ⟨beQ HB⟩⟩
      ·rw [if_neg c17] at H
       have c17b0 : ((Go.bits .and .i64 (rd l0 (ji12)) a2) == 0) = false := beq_eq_false_iff_ne.mpr c17
       have c17b1 : ((Go.bits .and .i64 (rd l0 (ji12)) a2) != 0) = true := bne_iff_ne.mpr c17
       (first | rw [c17b0] | (simp only [i64_w, i32_w]; rw [c17b0]) | skip)
       have H' := Aside0.mk H
       clear H
       go_wp2
       go_meet
       case rel => exact ⟨_, (l4), H', ⟨by first | omega | exact Nat.le_refl _⟩, ⟨kdQ HO4⟩, ⟨by repeat (first | (with_reducible first | exact HK.out | apply Kept.alloc | apply Kept.drewN | apply Kept.drew) | exact HK.out)⟩, ⟨beQ HB⟩⟩
     case rest =>
      clear HC15
      try clear c1
      try clear p2
      try clear c4
      try clear p5
      try clear q5
      try clear hx5
      try clear c6
      try clear c6b0
      try clear c6b1
      try clear p6
      try clear c8
      try clear c8b0
      try clear c8b1
      try clear c9
      try clear c13
      try clear c13b0
      try clear c14
      try clear c14b0
      try clear c17
      try clear c17b0
      try clear c17b1
      try clear hx565_0
      try clear p565
      try clear q565
      obtain ⟨kq, x4_14, HA, HJ14, HO_4, HK, HB⟩ := hcut
      cases kq with
      | zero => exact absurd HA.out (by simp [spec_l01Downsets.j0])
      | succ kj14 =>
       have H := HA.out; clear HA
       simp only [spec_l01Downsets.j0] at H
       replace H := Option.bind_eq_some_iff.mp H; obtain ⟨t570, A210, H⟩ := H
       replace H : (if (Go.bits .and .i64 t570 a3) = 0 then ((spec_l01One.f ji12).bind fun t571 => ((spec_l01Downsets.f kj14 l0 ji12 (Go.bits .or .i64 a2 t571) a3 x4_14).bind fun t572 => (some t572))) else (some x4_14)) = some r := H
       have A21 := Aside0.mk A210; clear A210
       by_cases c22 : (Go.bits .and .i64 t570 a3) = 0
       ·rw [if_pos c22] at H
        have c22b0 : ((Go.bits .and .i64 t570 a3) == 0) = true := beq_iff_eq.mpr c22
        have c22b1 : ((Go.bits .and .i64 t570 a3) != 0) = false := bne_eq_false_iff_eq.mpr c22
        clear c22; replace H := Option.bind_eq_some_iff.mp H; obtain ⟨t571, A230, H⟩ := H
        replace H : ((spec_l01Downsets.f kj14 l0 ji12 (Go.bits .or .i64 a2 t571) a3 x4_14).bind fun t572 => (some t572)) = some r := H
        have A23 := Aside0.mk A230; clear A230; replace H := Option.bind_eq_some_iff.mp H; obtain ⟨t572, A240, H⟩ := H
        replace H : (some t572) = some r := H
        have A24 := Aside0.mk A240; clear A240
        obtain rfl := Option.some.inj H
        go_wp2_with (first | ((with_reducible refine gate_callee (f := 62) rfl ?_); refine goesL_ (some 41) rfl rfl Tryd.func62 (by kernel_rfl) rfl #[.slice (some ad565) l0.length c0, .int .i64 ji12] rfl (by (try simp only [List.map_toArray, List.map_cons, List.map_nil]); first | done | (simp only [hji12]; rfl) | rfl | (simp only [List.length_drop, List.length_take]; rfl)) ?_; (with_reducible refine (spec_l01Below.calls kj14 _ _ l0 ji12 t570 _ ?side1 ?side2 A21.out).mono ?_); (case side1 => exact Kd.C_kept_now HR0.out (by repeat (first | (with_reducible first | exact HK.out | apply Kept.alloc | apply Kept.drewN | apply Kept.drew) | exact HK.out))); (case side2 => exact HC0.out); rintro e w' ⟨rfl, ⟨nd, rfl⟩⟩; refine ⟨_, rfl, ?_⟩) | ((with_reducible refine gate_callee (f := 47) rfl ?_); refine goesL_ (some 49) rfl rfl Tryd.func47 (by kernel_rfl) rfl #[.int .i64 ji12] rfl (by (try simp only [List.map_toArray, List.map_cons, List.map_nil]); first | done | (simp only [hji12]; rfl) | rfl | (simp only [List.length_drop, List.length_take]; rfl)) ?_; (with_reducible refine (spec_l01One.calls ji12 t571 _ A23.out).mono ?_); rintro e w' ⟨rfl, ⟨nd, rfl⟩⟩; refine ⟨_, rfl, ?_⟩; obtain ⟨Ao25, co25, eo25⟩ := Kd.R_slice HO_4.out; subst eo25) | ((with_reducible refine gate_callee (f := 44) rfl ?_); refine goesL_ (some 53) rfl rfl Tryd.func44 (by kernel_rfl) rfl #[.slice (some ad565) l0.length c0, .int .i64 ji12, .int .i64 (Go.bits .or .i64 a2 t571), .int .i64 a3, .slice Ao25 x4_14.length co25] rfl (by (try simp only [List.map_toArray, List.map_cons, List.map_nil]); first | done | (simp only [hji12]; rfl) | rfl | (simp only [List.length_drop, List.length_take]; rfl)) ?_; (with_reducible refine (ih kj14 (by have := HJ14.out; omega) _ _ l0 ji12 (Go.bits .or .i64 a2 t571) a3 (fun k_ => some k_ = (.slice Ao25 x4_14.length co25 : Value).ownBlock) (.slice Ao25 x4_14.length co25) x4_14 t572 w0 _ ?side1 ?side2 ?side3 ?side4 A24.out).mono ?_); (case side1 => repeat (first | (with_reducible first | exact HB.out | apply below_alloc | apply pw_below_drewN | apply below_drew1) | exact HB.out)); (case side2 => exact Kd.C_kept_call HR0.out (by repeat (first | (with_reducible first | exact HK.out | apply Kept.alloc | apply Kept.drewN | apply Kept.drew) | exact HK.out)) (fun k_ hs_ => (fun e_ => (HO_4.out.1 k_ e_.symm)) hs_)); (case side3 => exact HC0.out); (case side4 => exact Kd.R_tight rfl HO_4.out); rintro e w26 ⟨v573, rfl, ho0, hb, hkp⟩; refine ⟨_, rfl, ?_⟩; have n0_ := Aside0.mk (Kd.R_mono (ok' := fun k_ => (P4_ k_ ∨ w.heap.size ≤ k_)) ho0 (fun k_ hk_ => Or.elim hk_ (fun hs_ => (HO_4.out.1 k_ (hs_).symm)) (fun hn_ => (.inr (Nat.le_trans (by first | exact HK.out.1 | exact (show Kept w _ (fun k_ => P4_ k_) from by repeat (first | (with_reducible first | exact HK.out | apply Kept.alloc | apply Kept.drewN | apply Kept.drew) | exact HK.out)).1) hn_))))); have n1_ := Aside0.mk (Kept.then_ (S := (fun k_ => P4_ k_)) (by repeat (first | (with_reducible first | exact HK.out | apply Kept.alloc | apply Kept.drewN | apply Kept.drew) | exact HK.out)) hkp (fun k_ hs_ => (fun e_ => (HO_4.out.1 k_ e_.symm)) hs_)); have n2_ := Aside0.mk (hb); clear HK; clear HB; clear HO_4; have HO574 := n0_; have HK := n1_; have HB := n2_; clear n0_ n1_ n2_; (try clear hb); (try clear hkp); (try clear ho0)))
        go_ret
        exact ⟨_, by first | rfl | (simp [errW_none, errW_some] <;> rfl) | (simp only [← hji12]; first | rfl | (simp [errW_none, errW_some] <;> rfl)) | (simp [*, errW_none, errW_some] <;> rfl), kdQ HO574, beQ HB, by repeat (first | (with_reducible first | exact HK.out | apply Kept.alloc | apply Kept.drewN | apply Kept.drew) | exact HK.out)⟩
       ·rw [if_neg c22] at H
        have c22b0 : ((Go.bits .and .i64 t570 a3) == 0) = false := beq_eq_false_iff_ne.mpr c22
        have c22b1 : ((Go.bits .and .i64 t570 a3) != 0) = true := bne_iff_ne.mpr c22
        obtain rfl := Option.some.inj H
        go_wp2_with (first | ((with_reducible refine gate_callee (f := 62) rfl ?_); refine goesL_ (some 41) rfl rfl Tryd.func62 (by kernel_rfl) rfl #[.slice (some ad565) l0.length c0, .int .i64 ji12] rfl (by (try simp only [List.map_toArray, List.map_cons, List.map_nil]); first | done | (simp only [hji12]; rfl) | rfl | (simp only [List.length_drop, List.length_take]; rfl)) ?_; (with_reducible refine (spec_l01Below.calls kj14 _ _ l0 ji12 t570 _ ?side1 ?side2 A21.out).mono ?_); (case side1 => exact Kd.C_kept_now HR0.out (by repeat (first | (with_reducible first | exact HK.out | apply Kept.alloc | apply Kept.drewN | apply Kept.drew) | exact HK.out))); (case side2 => exact HC0.out); rintro e w' ⟨rfl, ⟨nd, rfl⟩⟩; refine ⟨_, rfl, ?_⟩))
        go_ret
        exact ⟨_, by first | rfl | (simp [errW_none, errW_some] <;> rfl) | (simp only [← hji12]; first | rfl | (simp [errW_none, errW_some] <;> rfl)) | (simp [*, errW_none, errW_some] <;> rfl), kdQ HO_4, beQ HB, by repeat (first | (with_reducible first | exact HK.out | apply Kept.alloc | apply Kept.drewN | apply Kept.drew) | exact HK.out)⟩
    ·rw [if_neg c14] at H
     exact absurd H (by simp)
   ·rw [if_neg c13] at H
    exact absurd H (by simp)

/-! ### spec_DownsetsOf: function 21 -/
def spec_DownsetsOf.f (k : Nat) (l0 : List Int) : Option (List Int × Int) := (spec_IsOrder.f k l0).bind fun t575 => (if t575 = true then ((spec_l01Downsets.f k l0 (l0.length : Int) 0 0 (([] : List Int))).bind fun t579 => (if (t579.length : Int) > 4096 then (some (([] : List Int), 3)) else (some (t579, 0)))) else (some (([] : List Int), 1)))
theorem spec_DownsetsOf.mono : ∀ a0 k, LeO (spec_DownsetsOf.f k a0) (spec_DownsetsOf.f (k + 1) a0) := by
 intro a0 k
 unfold spec_DownsetsOf.f
 repeat' first
   | (with_reducible exact spec_IsOrder.mono _ _)
   | (with_reducible exact spec_l01Downsets.mono _ _ _ _ _ _)
   | (with_reducible exact LeO.refl _)
   | (with_reducible exact LeO.none _)
   | (with_reducible refine LeO.ite ?_ ?_)
   | (with_reducible refine LeO.bind ?_ (fun _ => ?_))
   | exact spec_IsOrder.mono _ _
   | exact spec_l01Downsets.mono _ _ _ _ _ _
   | exact LeO.none _
   | refine LeO.ite ?_ ?_
   | refine LeO.bind ?_ (fun _ => ?_)
set_option maxHeartbeats 8000000 in
set_option maxRecDepth 100000 in
theorem spec_DownsetsOf.calls (k : Nat) (A0 : Option Addr) (c0 : Nat) (l0 : List Int) (r1 : List Int) (r2 : Int) (w : World) (hr0 : Kd.C (Kd.int .i64) w A0 l0.length l0) (hc0 : l0.length ≤ c0) (h : spec_DownsetsOf.f k l0 = some (r1, r2)) :
  Calls Tryd.prog 21 #[.slice A0 l0.length c0] w fun e w' => ∃ v0_ : Value, e = .returned (.tuple #[v0_, .int .i64 r2]) ∧ Kd.R (Kd.int .i64) 2 w' w.heap.size (fun _ => True) v0_ r1 ∧ Below w.heap.size w w' := by
 have HR0 := Aside0.mk hr0; have HC0 := Aside0.mk hc0; clear hr0 hc0; have HB := Aside0.mk (Below.refl w.heap.size w)
 have H : ((spec_IsOrder.f k l0).bind fun t575 => (if t575 = true then ((spec_l01Downsets.f k l0 (l0.length : Int) 0 0 (([] : List Int))).bind fun t579 => (if (t579.length : Int) > 4096 then (some (([] : List Int), 3)) else (some (t579, 0)))) else (some (([] : List Int), 1)))) = some (r1, r2) := h
 clear h; replace H := Option.bind_eq_some_iff.mp H; obtain ⟨t575, A20, H⟩ := H
 replace H : (if t575 = true then ((spec_l01Downsets.f k l0 (l0.length : Int) 0 0 (([] : List Int))).bind fun t579 => (if (t579.length : Int) > 4096 then (some (([] : List Int), 3)) else (some (t579, 0)))) else (some (([] : List Int), 1))) = some (r1, r2) := H
 have A2 := Aside0.mk A20; clear A20
 by_cases c3 : t575 = true
 ·subst c3
  have H1 : ((spec_l01Downsets.f k l0 (l0.length : Int) 0 0 (([] : List Int))).bind fun t579 => (if (t579.length : Int) > 4096 then (some (([] : List Int), 3)) else (some (t579, 0)))) = some (r1, r2) := by rw [if_pos rfl] at H; exact H
  clear H; have H := H1; clear H1
  obtain ⟨y576, hy576⟩ : ∃ y_ : List Int, y_ = (([] : List Int)) := ⟨_, rfl⟩
  replace H : ((spec_l01Downsets.f k l0 (l0.length : Int) 0 0 y576).bind fun t579 => (if (t579.length : Int) > 4096 then (some (([] : List Int), 3)) else (some (t579, 0)))) = some (r1, r2) := by first | (rw [hy576]; with_reducible exact H) | (have H2_ := (Option.bind_some _ _).symm.trans H; rw [hy576]; with_reducible exact H2_) | (have H2_ := (Option.bind_some _ _).symm.trans H; with_reducible exact H2_) | with_reducible exact H | (rw [hy576]; exact H) | exact H
  have Ny576 := Aside0.mk hy576; clear hy576; replace H := Option.bind_eq_some_iff.mp H; obtain ⟨t579, A40, H⟩ := H
  replace H : (if (t579.length : Int) > 4096 then (some (([] : List Int), 3)) else (some (t579, 0))) = some (r1, r2) := H
  have A4 := Aside0.mk A40; clear A40
  by_cases c5 : (t579.length : Int) > 4096
  ·rw [if_pos c5] at H
   have c5b0 : decide (4096 < (t579.length : Int)) = true := decide_eq_true c5
   have c5b1 : decide (4096 < t579.length) = true := decide_eq_true (by omega)
   clear c5
   simp only [Option.some.injEq, Prod.mk.injEq] at H
   obtain ⟨rfl, rfl⟩ := H
   go_enter Tryd.func21, Tryd.ntmps21
   go_wp2_with (first | ((with_reducible refine gate_callee (f := 27) rfl ?_); refine goesL_ (some 6) rfl rfl Tryd.func27 (by kernel_rfl) rfl #[.slice A0 l0.length c0] rfl lz ?_; (with_reducible refine (spec_IsOrder.calls k _ _ l0 true _ ?side1 ?side2 A2.out).mono ?_); (case side1 => have q_ := Aside0.mk HR0.out; exact cQ q_); (case side2 => exact HC0.out); rintro e w' ⟨rfl, ⟨nd, rfl⟩⟩; refine ⟨_, rfl, ?_⟩) | ((with_reducible refine gate_dst (N := 11) rfl ?_); refine Kd.R_lit (Kd.int .i64) _ 2 ?hg (N := 11) ?hd (xs := ([] : List Int)) (inner := []) (ok := fun _ => True) (okp := fun _ => True) ?hr ?hp (fun _ hk => hk) trivial (Below.refl _ _) (Nat.le_refl _) (by simp) ?_; (case hd => rfl); (case hg => rfl); (case hr => first | (go_simp; done) | (go_simp; rfl)); (case hp => exact (Reps.none _ _)); intro v577 w6 ho7 hb hg_ hnew_; clear hg_ hnew_; (first | rw [← Ny576.out] at ho7 | (simp only [Int.reduceToNat] at ho7; rw [← Ny576.out] at ho7)); have HO578 := Aside0.mk (Kd.R_lower ho7 (below_size (beQ HB))); replace HB := Aside0.mk (below_step (beQ HB) hb); clear hb ho7; obtain ⟨Ao8, co8, eo8⟩ := Kd.R_slice HO578.out; subst eo8) | ((with_reducible refine gate_callee (f := 44) rfl ?_); refine goesL_ (some 12) rfl rfl Tryd.func44 (by kernel_rfl) rfl #[.slice A0 l0.length c0, .int .i64 (l0.length : Int), .int .i64 0, .int .i64 0, .slice Ao8 y576.length co8] rfl lz ?_; (with_reducible refine (spec_l01Downsets.calls k _ _ l0 (l0.length : Int) 0 0 (fun k_ => some k_ = (.slice Ao8 y576.length co8 : Value).ownBlock) (.slice Ao8 y576.length co8) y576 t579 w _ ?side1 ?side2 ?side3 ?side4 A4.out).mono ?_); (case side1 => repeat (first | (with_reducible first | exact HB.out | apply below_alloc | apply pw_below_drewN | apply below_drew1) | exact HB.out)); (case side2 => exact Kd.C_kept_came (Kd.heap_int .i64) HR0.out (beQ HB) (fun k_ hs_ => (fun e_ => Kd.R_base HO578.out k_ e_.symm) hs_)); (case side3 => exact HC0.out); (case side4 => exact Kd.R_tight rfl HO578.out); rintro e w9 ⟨v580, rfl, ho0, hb, hkp⟩; refine ⟨_, rfl, ?_⟩; have n0_ := Aside0.mk (Kd.R_mono (ok' := fun k_ => True) ho0 (fun k_ hk_ => trivial)); have n1_ := Aside0.mk (hb); clear HB; clear HO578; have HO581 := n0_; have HB := n1_; clear n0_ n1_; (try clear hb); (try clear hkp); (try clear ho0); obtain ⟨Ao10, co10, eo10⟩ := Kd.R_slice HO581.out; subst eo10))
   go_ret2
   exact ⟨_, rz, by first | exact Kd.R_nil _ _ _ _ _ | exact Kd.N_nil _ _ _ _ _ | exact Kd.V_nil _ _ _ _ _ | exact Kd.Q_nil _ _ _ _ _ | exact Kd.S_nil _ _ _ _ _, beQ HB⟩
  ·rw [if_neg c5] at H
   have c5b0 : decide (4096 < (t579.length : Int)) = false := decide_eq_false c5
   have c5b1 : decide (4096 < t579.length) = false := decide_eq_false (by omega)
   clear c5
   simp only [Option.some.injEq, Prod.mk.injEq] at H
   obtain ⟨rfl, rfl⟩ := H
   go_enter Tryd.func21, Tryd.ntmps21
   go_wp2_with (first | ((with_reducible refine gate_callee (f := 27) rfl ?_); refine goesL_ (some 6) rfl rfl Tryd.func27 (by kernel_rfl) rfl #[.slice A0 l0.length c0] rfl lz ?_; (with_reducible refine (spec_IsOrder.calls k _ _ l0 true _ ?side1 ?side2 A2.out).mono ?_); (case side1 => have q_ := Aside0.mk HR0.out; exact cQ q_); (case side2 => exact HC0.out); rintro e w' ⟨rfl, ⟨nd, rfl⟩⟩; refine ⟨_, rfl, ?_⟩) | ((with_reducible refine gate_dst (N := 11) rfl ?_); refine Kd.R_lit (Kd.int .i64) _ 2 ?hg (N := 11) ?hd (xs := ([] : List Int)) (inner := []) (ok := fun _ => True) (okp := fun _ => True) ?hr ?hp (fun _ hk => hk) trivial (Below.refl _ _) (Nat.le_refl _) (by simp) ?_; (case hd => rfl); (case hg => rfl); (case hr => first | (go_simp; done) | (go_simp; rfl)); (case hp => exact (Reps.none _ _)); intro v577 w11 ho12 hb hg_ hnew_; clear hg_ hnew_; (first | rw [← Ny576.out] at ho12 | (simp only [Int.reduceToNat] at ho12; rw [← Ny576.out] at ho12)); have HO578 := Aside0.mk (Kd.R_lower ho12 (below_size (beQ HB))); replace HB := Aside0.mk (below_step (beQ HB) hb); clear hb ho12; obtain ⟨Ao13, co13, eo13⟩ := Kd.R_slice HO578.out; subst eo13) | ((with_reducible refine gate_callee (f := 44) rfl ?_); refine goesL_ (some 12) rfl rfl Tryd.func44 (by kernel_rfl) rfl #[.slice A0 l0.length c0, .int .i64 (l0.length : Int), .int .i64 0, .int .i64 0, .slice Ao13 y576.length co13] rfl lz ?_; (with_reducible refine (spec_l01Downsets.calls k _ _ l0 (l0.length : Int) 0 0 (fun k_ => some k_ = (.slice Ao13 y576.length co13 : Value).ownBlock) (.slice Ao13 y576.length co13) y576 t579 w _ ?side1 ?side2 ?side3 ?side4 A4.out).mono ?_); (case side1 => repeat (first | (with_reducible first | exact HB.out | apply below_alloc | apply pw_below_drewN | apply below_drew1) | exact HB.out)); (case side2 => exact Kd.C_kept_came (Kd.heap_int .i64) HR0.out (beQ HB) (fun k_ hs_ => (fun e_ => Kd.R_base HO578.out k_ e_.symm) hs_)); (case side3 => exact HC0.out); (case side4 => exact Kd.R_tight rfl HO578.out); rintro e w14 ⟨v580, rfl, ho0, hb, hkp⟩; refine ⟨_, rfl, ?_⟩; have n0_ := Aside0.mk (Kd.R_mono (ok' := fun k_ => True) ho0 (fun k_ hk_ => trivial)); have n1_ := Aside0.mk (hb); clear HB; clear HO578; have HO581 := n0_; have HB := n1_; clear n0_ n1_; (try clear hb); (try clear hkp); (try clear ho0); obtain ⟨Ao15, co15, eo15⟩ := Kd.R_slice HO581.out; subst eo15))
   go_ret2
   exact ⟨_, rz, kdQ HO581, beQ HB⟩
 ·replace c3 := Bool.eq_false_iff.mpr c3
  subst c3
  have H1 : (some (([] : List Int), 1)) = some (r1, r2) := by rw [if_neg (show ¬ (false = true) by decide)] at H; exact H
  clear H; have H := H1; clear H1
  simp only [Option.some.injEq, Prod.mk.injEq] at H
  obtain ⟨rfl, rfl⟩ := H
  go_enter Tryd.func21, Tryd.ntmps21
  go_wp2_with (first | ((with_reducible refine gate_callee (f := 27) rfl ?_); refine goesL_ (some 6) rfl rfl Tryd.func27 (by kernel_rfl) rfl #[.slice A0 l0.length c0] rfl lz ?_; (with_reducible refine (spec_IsOrder.calls k _ _ l0 false _ ?side1 ?side2 A2.out).mono ?_); (case side1 => have q_ := Aside0.mk HR0.out; exact cQ q_); (case side2 => exact HC0.out); rintro e w' ⟨rfl, ⟨nd, rfl⟩⟩; refine ⟨_, rfl, ?_⟩))
  go_ret2
  exact ⟨_, rz, by first | exact Kd.R_nil _ _ _ _ _ | exact Kd.N_nil _ _ _ _ _ | exact Kd.V_nil _ _ _ _ _ | exact Kd.Q_nil _ _ _ _ _ | exact Kd.S_nil _ _ _ _ _, beQ HB⟩

end Go.Proofs.YtjckfnaohikmbaaDoor.G
