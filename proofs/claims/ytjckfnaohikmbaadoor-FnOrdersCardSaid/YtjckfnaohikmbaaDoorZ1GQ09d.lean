-- A copy, with what one law needs, of a text that print.sh or a program of ours wrote
import Derived.Test.YtjckfnaohikmbaaDoorZ1G0
import Derived.Test.YtjckfnaohikmbaaDoorZ1GQ00a
import Derived.Test.YtjckfnaohikmbaaDoorZ1GQ00b
import Derived.Test.YtjckfnaohikmbaaDoorZ1GQ07
import Derived.Test.YtjckfnaohikmbaaDoorZ1GQ08a
namespace Go.Proofs.YtjckfnaohikmbaaDoor.G
open Go.RowKit Go.Proofs.YtjckfnaohikmbaaDoorW.PrintWords Go.Proofs.YtjckfnaohikmbaaDoorW.PrintLast Go.Proofs.YtjckfnaohikmbaaDoorW.PrintMore
attribute [local go_sem] max2_int min2_int max_two min_two max_three min_three max_four min_four   -- for this text's walks alone
set_option linter.unusedVariables false
set_option linter.unusedSimpArgs false
mutual
def spec_CoversOf.l0 : Nat → List Int → List Int → Int → Option (List Int × Int)
 | 0, _, _, _ => none
 | k + 1, x0, x4, x5 => if x5 < (x0.length : Int) then (spec_CoversOf.l1 k x0 x4 x5 0 0) else (some (x4, 0))
def spec_CoversOf.l1 : Nat → List Int → List Int → Int → Int → Int → Option (List Int × Int)
 | 0, _, _, _, _, _ => none
 | k + 1, x0, x4, x5, x6, x7 => if x7 < (x0.length : Int) then (spec_CoversOf.l2 k x0 x4 x5 x6 x7 0 0) else (if x4.length < 17592186044416 then (spec_CoversOf.l0 k x0 (x4 ++ [x6]) (wrap64 (x5 + 1))) else (none))
def spec_CoversOf.l2 : Nat → List Int → List Int → Int → Int → Int → Int → Int → Option (List Int × Int)
 | 0, _, _, _, _, _, _, _ => none
 | k + 1, x0, x4, x5, x6, x7, x8, x9 => if x9 < (x0.length : Int) then (if 0 ≤ x5 then (if x5 < (x0.length : Int) then ((spec_l01Bit.f (rd x0 x5) x9).bind fun t770 => (if t770 = true then (if 0 ≤ x9 then ((spec_l01Bit.f (rd x0 x9) x7).bind fun t772 => (if t772 = true then (spec_CoversOf.l2 k x0 x4 x5 x6 x7 (wrap64 (x8 + 1)) (wrap64 (x9 + 1))) else (spec_CoversOf.l2 k x0 x4 x5 x6 x7 x8 (wrap64 (x9 + 1))))) else (none)) else (spec_CoversOf.l2 k x0 x4 x5 x6 x7 x8 (wrap64 (x9 + 1))))) else (none)) else (none)) else (if x5 = x7 then (spec_CoversOf.l1 k x0 x4 x5 x6 (wrap64 (x7 + 1))) else (if x8 = 2 then ((spec_l01One.f x7).bind fun t768 => (spec_CoversOf.l1 k x0 x4 x5 (Go.bits .or .i64 x6 t768) (wrap64 (x7 + 1)))) else (spec_CoversOf.l1 k x0 x4 x5 x6 (wrap64 (x7 + 1)))))
end
def spec_CoversOf.f (k : Nat) (l0 : List Int) : Option (List Int × Int) := (spec_IsOrder.f k l0).bind fun t761 => (if t761 = true then (spec_CoversOf.l0 k l0 (([] : List Int)) 0) else (some (([] : List Int), 1)))
set_option maxHeartbeats 8000000 in
set_option maxRecDepth 100000 in
theorem spec_CoversOf.calls (k : Nat) (A0 : Option Addr) (c0 : Nat) (l0 : List Int) (r1 : List Int) (r2 : Int) (w : World) (hr0 : Kd.C (Kd.int .i64) w A0 l0.length l0) (hc0 : l0.length ≤ c0) (h : spec_CoversOf.f k l0 = some (r1, r2)) :
  Calls Tryd.prog 25 #[.slice A0 l0.length c0] w fun e w' => ∃ v0_ : Value, e = .returned (.tuple #[v0_, .int .i64 r2]) ∧ Kd.R (Kd.int .i64) 2 w' w.heap.size (fun _ => True) v0_ r1 ∧ Below w.heap.size w w' := by
 have HR0 := Aside0.mk hr0; have HC0 := Aside0.mk hc0; clear hr0 hc0; have HB := Aside0.mk (Below.refl w.heap.size w)
 have H : ((spec_IsOrder.f k l0).bind fun t761 => (if t761 = true then (spec_CoversOf.l0 k l0 (([] : List Int)) 0) else (some (([] : List Int), 1)))) = some (r1, r2) := h
 clear h; replace H := Option.bind_eq_some_iff.mp H; obtain ⟨t761, A20, H⟩ := H
 replace H : (if t761 = true then (spec_CoversOf.l0 k l0 (([] : List Int)) 0) else (some (([] : List Int), 1))) = some (r1, r2) := H
 have A2 := Aside0.mk A20; clear A20
 by_cases c3 : t761 = true
 ·subst c3
  have H1 : (spec_CoversOf.l0 k l0 (([] : List Int)) 0) = some (r1, r2) := by rw [if_pos rfl] at H; exact H
  clear H; have H := H1; clear H1
  obtain ⟨y762, hy762⟩ : ∃ y_ : List Int, y_ = (([] : List Int)) := ⟨_, rfl⟩
  replace H : (spec_CoversOf.l0 k l0 y762 0) = some (r1, r2) := by first | (rw [hy762]; with_reducible exact H) | (have H2_ := (Option.bind_some _ _).symm.trans H; rw [hy762]; with_reducible exact H2_) | (have H2_ := (Option.bind_some _ _).symm.trans H; with_reducible exact H2_) | with_reducible exact H | (rw [hy762]; exact H) | exact H
  have Ny762 := Aside0.mk hy762; clear hy762
  have H' := Aside0.mk H
  clear H
  go_enter Tryd.func25, Tryd.ntmps25
  go_wp2_with (first | ((with_reducible refine gate_callee (f := 27) rfl ?_); refine goesL_ (some 11) rfl rfl Tryd.func27 (by kernel_rfl) rfl #[.slice A0 l0.length c0] rfl lz ?_; (with_reducible refine (spec_IsOrder.calls k _ _ l0 true _ ?side1 ?side2 A2.out).mono ?_); (case side1 => have q_ := Aside0.mk HR0.out; exact cQ q_); (case side2 => exact HC0.out); rintro e w' ⟨rfl, ⟨nd, rfl⟩⟩; refine ⟨_, rfl, ?_⟩) | ((with_reducible refine gate_dst (N := 13) rfl ?_); refine Kd.R_lit (Kd.int .i64) _ 2 ?hg (N := 13) ?hd (xs := ([] : List Int)) (inner := []) (ok := fun _ => True) (okp := fun _ => True) ?hr ?hp (fun _ hk => hk) trivial (Below.refl _ _) (Nat.le_refl _) (by simp) ?_; (case hd => rfl); (case hg => rfl); (case hr => first | (go_simp; done) | (go_simp; rfl)); (case hp => exact (Reps.none _ _)); intro v763 w4 ho5 hb hg_ hnew_; clear hg_ hnew_; (first | rw [← Ny762.out] at ho5 | (simp only [Int.reduceToNat] at ho5; rw [← Ny762.out] at ho5)); have HO764 := Aside0.mk (Kd.R_lower ho5 (below_size (beQ HB))); replace HB := Aside0.mk (below_step (beQ HB) hb); clear hb ho5))
  go_loopg [4, 5] k (fun kq v4 v5 w' => ∃ (x4_1 : List Int) (x5_1 : Int), v5 = .int .i64 x5_1 ∧ Aside0 (spec_CoversOf.l0 kq l0 x4_1 x5_1 = some (r1, r2)) ∧ Aside0 (kq ≤ k) ∧ Aside0 (Kd.R (Kd.int .i64) 2 w' w.heap.size (fun _ => True) v4 x4_1) ∧ Aside0 (Below w.heap.size w w'))
  case atStart => exact ⟨(y762), (0), sz, H', ⟨Nat.le_refl _⟩, ⟨kdQ HO764⟩, ⟨beQ HB⟩⟩
  case round =>
   clear H'
   try clear c2
   try clear p2
   try clear c3
   obtain ⟨x4_1, x5_1, rfl, HA, HK1, HO_4, HB⟩ := hrel
   cases gk with
   | zero => exact absurd HA.out (by simp [spec_CoversOf.l0])
   | succ k1 =>
    have H := HA.out; clear HA
    simp only [spec_CoversOf.l0] at H
    by_cases c6 : x5_1 < (l0.length : Int)
    ·rw [if_pos c6] at H
     have c6b0 : decide (x5_1 < (l0.length : Int)) = true := decide_eq_true c6
     clear c6
     have H' := Aside0.mk H
     clear H
     go_wp2
     go_loopg [6, 7] k1 (fun kq v6 v7 w' => ∃ (x6_2 : Int) (x7_2 : Int), v6 = .int .i64 x6_2 ∧ v7 = .int .i64 x7_2 ∧ Aside0 (spec_CoversOf.l1 kq l0 x4_1 x5_1 x6_2 x7_2 = some (r1, r2)) ∧ Aside0 (kq ≤ k1) ∧ Aside0 (Kd.R (Kd.int .i64) 2 w' w.heap.size (fun _ => True) u4 x4_1) ∧ Aside0 (Below w.heap.size w w'))
     case atStart => exact ⟨(0), (0), sz, sz, H', ⟨Nat.le_refl _⟩, ⟨kdQ HO_4⟩, ⟨beQ HB⟩⟩
     case round =>
      clear H'
      try clear c2
      try clear p2
      try clear c3
      try clear c6
      try clear c6b0
      try clear p2
      obtain ⟨x6_2, x7_2, rfl, rfl, HA, HK2, HO_4, HB⟩ := hrel
      cases gk with
      | zero => exact absurd HA.out (by simp [spec_CoversOf.l1])
      | succ k2 =>
       have H := HA.out; clear HA
       simp only [spec_CoversOf.l1] at H
       by_cases c7 : x7_2 < (l0.length : Int)
       ·rw [if_pos c7] at H
        have c7b0 : decide (x7_2 < (l0.length : Int)) = true := decide_eq_true c7
        clear c7
        have H' := Aside0.mk H
        clear H
        go_wp2
        go_loopg [8, 9] k2 (fun kq v8 v9 w' => ∃ (x8_3 : Int) (x9_3 : Int), v8 = .int .i64 x8_3 ∧ v9 = .int .i64 x9_3 ∧ Aside0 (spec_CoversOf.l2 kq l0 x4_1 x5_1 x6_2 x7_2 x8_3 x9_3 = some (r1, r2)) ∧ Aside0 (kq ≤ k2) ∧ Aside0 (Kd.R (Kd.int .i64) 2 w' w.heap.size (fun _ => True) u4 x4_1) ∧ Aside0 (Below w.heap.size w w'))
        case atStart => exact ⟨(0), (0), sz, sz, H', ⟨Nat.le_refl _⟩, ⟨kdQ HO_4⟩, ⟨beQ HB⟩⟩
        case round =>
         clear H'
         try clear c2
         try clear p2
         try clear c3
         try clear c6
         try clear c6b0
         try clear c7
         try clear c7b0
         try clear p2
         obtain ⟨x8_3, x9_3, rfl, rfl, HA, HK3, HO_4, HB⟩ := hrel
         cases gk with
         | zero => exact absurd HA.out (by simp [spec_CoversOf.l2])
         | succ k3 =>
          have H := HA.out; clear HA
          simp only [spec_CoversOf.l2] at H
          by_cases c8 : x9_3 < (l0.length : Int)
          ·rw [if_pos c8] at H
           have c8b0 : decide (x9_3 < (l0.length : Int)) = true := decide_eq_true c8
           clear c8
           by_cases c9 : 0 ≤ x5_1
           ·rw [if_pos c9] at H
            have c9b0 : decide (0 ≤ x5_1) = true := decide_eq_true c9
            clear c9
            by_cases c10 : x5_1 < (l0.length : Int)
            ·rw [if_pos c10] at H
             have c10b0 : decide (x5_1 < (l0.length : Int)) = true := decide_eq_true c10
             clear c10; replace H := Option.bind_eq_some_iff.mp H; obtain ⟨t770, A110, H⟩ := H
             replace H : (if t770 = true then (if 0 ≤ x9_3 then ((spec_l01Bit.f (rd l0 x9_3) x7_2).bind fun t772 => (if t772 = true then (spec_CoversOf.l2 k3 l0 x4_1 x5_1 x6_2 x7_2 (wrap64 (x8_3 + 1)) (wrap64 (x9_3 + 1))) else (spec_CoversOf.l2 k3 l0 x4_1 x5_1 x6_2 x7_2 x8_3 (wrap64 (x9_3 + 1))))) else (none)) else (spec_CoversOf.l2 k3 l0 x4_1 x5_1 x6_2 x7_2 x8_3 (wrap64 (x9_3 + 1)))) = some (r1, r2) := H
             have A11 := Aside0.mk A110; clear A110
             by_cases c12 : t770 = true
             ·subst c12
              have H1 : (if 0 ≤ x9_3 then ((spec_l01Bit.f (rd l0 x9_3) x7_2).bind fun t772 => (if t772 = true then (spec_CoversOf.l2 k3 l0 x4_1 x5_1 x6_2 x7_2 (wrap64 (x8_3 + 1)) (wrap64 (x9_3 + 1))) else (spec_CoversOf.l2 k3 l0 x4_1 x5_1 x6_2 x7_2 x8_3 (wrap64 (x9_3 + 1))))) else (none)) = some (r1, r2) := by rw [if_pos rfl] at H; exact H
              clear H; have H := H1; clear H1
              by_cases c13 : 0 ≤ x9_3
              ·rw [if_pos c13] at H
               have c13b0 : decide (0 ≤ x9_3) = true := decide_eq_true c13
               clear c13; replace H := Option.bind_eq_some_iff.mp H; obtain ⟨t772, A140, H⟩ := H
               replace H : (if t772 = true then (spec_CoversOf.l2 k3 l0 x4_1 x5_1 x6_2 x7_2 (wrap64 (x8_3 + 1)) (wrap64 (x9_3 + 1))) else (spec_CoversOf.l2 k3 l0 x4_1 x5_1 x6_2 x7_2 x8_3 (wrap64 (x9_3 + 1)))) = some (r1, r2) := H
               have A14 := Aside0.mk A140; clear A140
               by_cases c15 : t772 = true
               ·subst c15
                have H1 : (spec_CoversOf.l2 k3 l0 x4_1 x5_1 x6_2 x7_2 (wrap64 (x8_3 + 1)) (wrap64 (x9_3 + 1))) = some (r1, r2) := by rw [if_pos rfl] at H; exact H
                clear H; have H := H1; clear H1
                have H' := Aside0.mk H
                clear H
                have p769 : 0 ≤ (x5_1 : Int) := of_decide_eq_true (by first | (with_reducible assumption) | assumption)
                have q769 : x5_1 < (l0.length : Int) := of_decide_eq_true (by first | (with_reducible assumption) | assumption)
                obtain ⟨ad769, e769, hx769_0⟩ := Kd.at_int HR0.out x5_1 p769 q769; cases e769; replace hx769_0 := (HB.out.cell (World.block_lt_of_cell? w _ hx769_0)).trans hx769_0; replace p769 := eq_true p769; replace q769 := eq_true q769
                go_wp2_with (first | ((with_reducible refine gate_callee (f := 37) rfl ?_); refine goesL_ (some 37) rfl rfl Tryd.func37 (by kernel_rfl) rfl #[.int .i64 (rd l0 x5_1), .int .i64 x9_3] rfl lz ?_; (with_reducible refine (spec_l01Bit.calls (rd l0 x5_1) x9_3 true _ A11.out).mono ?_); rintro e w' ⟨rfl, ⟨nd, rfl⟩⟩; refine ⟨_, rfl, ?_⟩; have p771 : 0 ≤ (x9_3 : Int) := of_decide_eq_true (by first | (with_reducible assumption) | assumption); have q771 : x9_3 < (l0.length : Int) := of_decide_eq_true (by first | (with_reducible assumption) | assumption); obtain ⟨ad771, e771, hx771_0⟩ := Kd.at_int HR0.out x9_3 p771 q771; obtain rfl : ad769 = ad771 := (by injection e771); replace hx771_0 := (HB.out.cell (World.block_lt_of_cell? w _ hx771_0)).trans hx771_0; replace p771 := eq_true p771; replace q771 := eq_true q771) | (go_at_call 37; (with_reducible refine (spec_l01Bit.calls (rd l0 x9_3) x7_2 true _ A14.out).mono ?_); rintro e w' ⟨rfl, ⟨nd, rfl⟩⟩))
                go_roundg k3
                case measure => have := HK1.out; have := HK2.out; have := HK3.out; omega
                case rel => exact ⟨(wrap64 (x8_3 + 1)), (wrap64 (x9_3 + 1)), sz, sz, H', ⟨by have := HK1.out; have := HK2.out; have := HK3.out; omega⟩, ⟨kdQ HO_4⟩, ⟨beQ HB⟩⟩
               ·replace c15 := Bool.eq_false_iff.mpr c15
                subst c15
                have H1 : (spec_CoversOf.l2 k3 l0 x4_1 x5_1 x6_2 x7_2 x8_3 (wrap64 (x9_3 + 1))) = some (r1, r2) := by rw [if_neg (show ¬ (false = true) by decide)] at H; exact H
                clear H; have H := H1; clear H1
                have H' := Aside0.mk H
                clear H
                have p769 : 0 ≤ (x5_1 : Int) := of_decide_eq_true (by first | (with_reducible assumption) | assumption)
                have q769 : x5_1 < (l0.length : Int) := of_decide_eq_true (by first | (with_reducible assumption) | assumption)
                obtain ⟨ad769, e769, hx769_0⟩ := Kd.at_int HR0.out x5_1 p769 q769; cases e769; replace hx769_0 := (HB.out.cell (World.block_lt_of_cell? w _ hx769_0)).trans hx769_0; replace p769 := eq_true p769; replace q769 := eq_true q769
                go_wp2_with (first | ((with_reducible refine gate_callee (f := 37) rfl ?_); refine goesL_ (some 37) rfl rfl Tryd.func37 (by kernel_rfl) rfl #[.int .i64 (rd l0 x5_1), .int .i64 x9_3] rfl lz ?_; (with_reducible refine (spec_l01Bit.calls (rd l0 x5_1) x9_3 true _ A11.out).mono ?_); rintro e w' ⟨rfl, ⟨nd, rfl⟩⟩; refine ⟨_, rfl, ?_⟩; have p771 : 0 ≤ (x9_3 : Int) := of_decide_eq_true (by first | (with_reducible assumption) | assumption); have q771 : x9_3 < (l0.length : Int) := of_decide_eq_true (by first | (with_reducible assumption) | assumption); obtain ⟨ad771, e771, hx771_0⟩ := Kd.at_int HR0.out x9_3 p771 q771; obtain rfl : ad769 = ad771 := (by injection e771); replace hx771_0 := (HB.out.cell (World.block_lt_of_cell? w _ hx771_0)).trans hx771_0; replace p771 := eq_true p771; replace q771 := eq_true q771) | (go_at_call 37; (with_reducible refine (spec_l01Bit.calls (rd l0 x9_3) x7_2 false _ A14.out).mono ?_); rintro e w' ⟨rfl, ⟨nd, rfl⟩⟩))
                go_roundg k3
                case measure => have := HK1.out; have := HK2.out; have := HK3.out; omega
                case rel => exact ⟨(x8_3), (wrap64 (x9_3 + 1)), sz, sz, H', ⟨by have := HK1.out; have := HK2.out; have := HK3.out; omega⟩, ⟨kdQ HO_4⟩, ⟨beQ HB⟩⟩
              ·rw [if_neg c13] at H
               exact absurd H (by simp)
             ·replace c12 := Bool.eq_false_iff.mpr c12
              subst c12
              have H1 : (spec_CoversOf.l2 k3 l0 x4_1 x5_1 x6_2 x7_2 x8_3 (wrap64 (x9_3 + 1))) = some (r1, r2) := by rw [if_neg (show ¬ (false = true) by decide)] at H; exact H
              clear H; have H := H1; clear H1
              have H' := Aside0.mk H
              clear H
              have p769 : 0 ≤ (x5_1 : Int) := of_decide_eq_true (by first | (with_reducible assumption) | assumption)
              have q769 : x5_1 < (l0.length : Int) := of_decide_eq_true (by first | (with_reducible assumption) | assumption)
              obtain ⟨ad769, e769, hx769_0⟩ := Kd.at_int HR0.out x5_1 p769 q769; cases e769; replace hx769_0 := (HB.out.cell (World.block_lt_of_cell? w _ hx769_0)).trans hx769_0; replace p769 := eq_true p769; replace q769 := eq_true q769
              go_wp2_with (first | ((with_reducible refine gate_callee (f := 37) rfl ?_); refine goesL_ (some 37) rfl rfl Tryd.func37 (by kernel_rfl) rfl #[.int .i64 (rd l0 x5_1), .int .i64 x9_3] rfl lz ?_; (with_reducible refine (spec_l01Bit.calls (rd l0 x5_1) x9_3 false _ A11.out).mono ?_); rintro e w' ⟨rfl, ⟨nd, rfl⟩⟩; refine ⟨_, rfl, ?_⟩))
              go_roundg k3
              case measure => have := HK1.out; have := HK2.out; have := HK3.out; omega
              case rel => exact ⟨(x8_3), (wrap64 (x9_3 + 1)), sz, sz, H', ⟨by have := HK1.out; have := HK2.out; have := HK3.out; omega⟩, ⟨kdQ HO_4⟩, ⟨beQ HB⟩⟩
            ·rw [if_neg c10] at H
             exact absurd H (by simp)
           ·rw [if_neg c9] at H
            exact absurd H (by simp)
          ·rw [if_neg c8] at H
           have c8b0 : decide (x9_3 < (l0.length : Int)) = false := decide_eq_false c8
           clear c8
           by_cases c16 : x5_1 = x7_2
           ·rw [if_pos c16] at H
            have c16b0 : (x5_1 == x7_2) = true := beq_iff_eq.mpr c16
            have c16b1 : (x5_1 != x7_2) = false := bne_eq_false_iff_eq.mpr c16
            clear c16
            have H' := Aside0.mk H
            clear H
            go_wp2
            go_roundg k3
            case measure => have := HK1.out; have := HK2.out; have := HK3.out; omega
            case rel => exact ⟨(x6_2), (wrap64 (x7_2 + 1)), sz, sz, H', ⟨by have := HK1.out; have := HK2.out; have := HK3.out; omega⟩, ⟨kdQ HO_4⟩, ⟨beQ HB⟩⟩
           ·rw [if_neg c16] at H
            have c16b0 : (x5_1 == x7_2) = false := beq_eq_false_iff_ne.mpr c16
            have c16b1 : (x5_1 != x7_2) = true := bne_iff_ne.mpr c16
            by_cases c17 : x8_3 = 2
            ·rw [if_pos c17] at H
             have c17b0 : (x8_3 == 2) = true := beq_iff_eq.mpr c17
             have c17b1 : (x8_3 != 2) = false := bne_eq_false_iff_eq.mpr c17
             clear c17; replace H := Option.bind_eq_some_iff.mp H; obtain ⟨t768, A180, H⟩ := H
             replace H : (spec_CoversOf.l1 k3 l0 x4_1 x5_1 (Go.bits .or .i64 x6_2 t768) (wrap64 (x7_2 + 1))) = some (r1, r2) := H
             have A18 := Aside0.mk A180; clear A180
             have H' := Aside0.mk H
             clear H
             go_wp2_with (first | ((with_reducible refine gate_callee (f := 47) rfl ?_); refine goesL_ (some 57) rfl rfl Tryd.func47 (by kernel_rfl) rfl #[.int .i64 x7_2] rfl lz ?_; (with_reducible refine (spec_l01One.calls x7_2 t768 _ A18.out).mono ?_); rintro e w' ⟨rfl, ⟨nd, rfl⟩⟩; refine ⟨_, rfl, ?_⟩))
             go_roundg k3
             case measure => have := HK1.out; have := HK2.out; have := HK3.out; omega
             case rel => exact ⟨(Go.bits .or .i64 x6_2 t768), (wrap64 (x7_2 + 1)), sz, sz, H', ⟨by have := HK1.out; have := HK2.out; have := HK3.out; omega⟩, ⟨kdQ HO_4⟩, ⟨beQ HB⟩⟩
            ·rw [if_neg c17] at H
             have c17b0 : (x8_3 == 2) = false := beq_eq_false_iff_ne.mpr c17
             have c17b1 : (x8_3 != 2) = true := bne_iff_ne.mpr c17
             have H' := Aside0.mk H
             clear H
             go_wp2
             go_roundg k3
             case measure => have := HK1.out; have := HK2.out; have := HK3.out; omega
             case rel => exact ⟨(x6_2), (wrap64 (x7_2 + 1)), sz, sz, H', ⟨by have := HK1.out; have := HK2.out; have := HK3.out; omega⟩, ⟨kdQ HO_4⟩, ⟨beQ HB⟩⟩
       ·rw [if_neg c7] at H
        have c7b0 : decide (x7_2 < (l0.length : Int)) = false := decide_eq_false c7
        clear c7
        by_cases c19 : x4_1.length < 17592186044416
        ·rw [if_pos c19] at H
         have LMc19 := Aside0.mk c19; clear c19
         obtain ⟨y765, hy765⟩ : ∃ y_ : List Int, y_ = (x4_1 ++ [x6_2]) := ⟨_, rfl⟩
         replace H : (spec_CoversOf.l0 k2 l0 y765 (wrap64 (x5_1 + 1))) = some (r1, r2) := by first | (rw [hy765]; with_reducible exact H) | (have H2_ := (Option.bind_some _ _).symm.trans H; rw [hy765]; with_reducible exact H2_) | (have H2_ := (Option.bind_some _ _).symm.trans H; with_reducible exact H2_) | with_reducible exact H | (rw [hy765]; exact H) | exact H
         have Ny765 := Aside0.mk hy765; clear hy765
         have H' := Aside0.mk H
         clear H
         go_wp2_with (first | ((with_reducible refine gate_builtin (b := .append) (xs := #[.tmp 59, .tmp 61]) rfl ?_); at_builtin; refine Kd.R_append (Kd.int .i64) (w0 := w) w.heap.size rfl (.tmp 59) (.tmp 61) 22 2 (.int .i64 0) 8 rfl Tryd.underlying22 info2 rfl (by decide) (by omega) u4 x4_1 x6_2 [.int .i64 x6_2] (fun _ => True) (fun _ => False) rfl rfl ?aP (fun _ hk => hk.elim) ?aF ?aO ?aB ?aS ?aL ?_; (case aP => exact rfl); (case aB => exact (beQ HB)); (case aF => exact (fun _ _ => trivial)); (case aO => exact (kdQ HO_4)); (case aS => exact (below_size (beQ HB))); (case aL => have := LMc19.out; omega); intro v766 w20 ho hb hg hat; rw [← Ny765.out] at ho; have n0_ := Aside0.mk (hb); have n1_ := Aside0.mk (ho); clear HB; clear HO_4; have HB := n0_; have HO767 := n1_; clear n0_ n1_; clear ho hb hg hat))
         go_roundg k2
         case measure => have := HK1.out; have := HK2.out; omega
         case rel => exact ⟨(y765), (wrap64 (x5_1 + 1)), sz, H', ⟨by have := HK1.out; have := HK2.out; omega⟩, ⟨kdQ HO767⟩, ⟨beQ HB⟩⟩
        ·rw [if_neg c19] at H
         exact absurd H (by simp)
    ·rw [if_neg c6] at H
     have c6b0 : decide (x5_1 < (l0.length : Int)) = false := decide_eq_false c6
     clear c6
     simp only [Option.some.injEq, Prod.mk.injEq] at H
     obtain ⟨rfl, rfl⟩ := H
     go_wp2
     go_ret2
     exact ⟨_, rz, kdQ HO_4, beQ HB⟩
 ·replace c3 := Bool.eq_false_iff.mpr c3
  subst c3
  have H1 : (some (([] : List Int), 1)) = some (r1, r2) := by rw [if_neg (show ¬ (false = true) by decide)] at H; exact H
  clear H; have H := H1; clear H1
  simp only [Option.some.injEq, Prod.mk.injEq] at H
  obtain ⟨rfl, rfl⟩ := H
  go_enter Tryd.func25, Tryd.ntmps25
  go_wp2_with (first | ((with_reducible refine gate_callee (f := 27) rfl ?_); refine goesL_ (some 11) rfl rfl Tryd.func27 (by kernel_rfl) rfl #[.slice A0 l0.length c0] rfl lz ?_; (with_reducible refine (spec_IsOrder.calls k _ _ l0 false _ ?side1 ?side2 A2.out).mono ?_); (case side1 => have q_ := Aside0.mk HR0.out; exact cQ q_); (case side2 => exact HC0.out); rintro e w' ⟨rfl, ⟨nd, rfl⟩⟩; refine ⟨_, rfl, ?_⟩))
  go_ret2
  exact ⟨_, rz, by first | exact Kd.R_nil _ _ _ _ _ | exact Kd.N_nil _ _ _ _ _ | exact Kd.V_nil _ _ _ _ _ | exact Kd.Q_nil _ _ _ _ _ | exact Kd.S_nil _ _ _ _ _, beQ HB⟩
def impl_ClosureOfRelation.f (k : Nat) (l0 : List Int) : Option (List Int × Int) := (impl_IsRelation.f l0).bind fun t773 => (if t773 = true then ((impl_closure.f k l0).bind fun t774 => (some (t774, 0))) else (some (([] : List Int), 1)))
set_option maxHeartbeats 8000000 in
set_option maxRecDepth 100000 in
theorem impl_ClosureOfRelation.calls (k : Nat) (A0 : Option Addr) (c0 : Nat) (l0 : List Int) (r1 : List Int) (r2 : Int) (w : World) (hr0 : Kd.C (Kd.int .i64) w A0 l0.length l0) (hc0 : l0.length ≤ c0) (h : impl_ClosureOfRelation.f k l0 = some (r1, r2)) :
  Calls Tryd.prog 28 #[.slice A0 l0.length c0] w fun e w' => ∃ v0_ : Value, e = .returned (.tuple #[v0_, .int .i64 r2]) ∧ Kd.R (Kd.int .i64) 2 w' w.heap.size (fun _ => True) v0_ r1 ∧ Below w.heap.size w w' := by
 have HR0 := Aside0.mk hr0; have HC0 := Aside0.mk hc0; clear hr0 hc0; have HB := Aside0.mk (Below.refl w.heap.size w)
 have H : ((impl_IsRelation.f l0).bind fun t773 => (if t773 = true then ((impl_closure.f k l0).bind fun t774 => (some (t774, 0))) else (some (([] : List Int), 1)))) = some (r1, r2) := h
 clear h; replace H := Option.bind_eq_some_iff.mp H; obtain ⟨t773, A20, H⟩ := H
 replace H : (if t773 = true then ((impl_closure.f k l0).bind fun t774 => (some (t774, 0))) else (some (([] : List Int), 1))) = some (r1, r2) := H
 have A2 := Aside0.mk A20; clear A20
 by_cases c3 : t773 = true
 ·subst c3
  have H1 : ((impl_closure.f k l0).bind fun t774 => (some (t774, 0))) = some (r1, r2) := by rw [if_pos rfl] at H; exact H
  clear H; have H := H1; clear H1; replace H := Option.bind_eq_some_iff.mp H; obtain ⟨t774, A40, H⟩ := H
  replace H : (some (t774, 0)) = some (r1, r2) := H
  have A4 := Aside0.mk A40; clear A40
  simp only [Option.some.injEq, Prod.mk.injEq] at H
  obtain ⟨rfl, rfl⟩ := H
  go_enter Tryd.func28, Tryd.ntmps28
  go_wp2_with (first | ((with_reducible refine gate_callee (f := 34) rfl ?_); refine goesL_ (some 5) rfl rfl Tryd.func34 (by kernel_rfl) rfl #[.slice A0 l0.length c0] rfl lz ?_; (with_reducible refine (impl_IsRelation.calls _ _ l0 true _ ?side1 ?side2 A2.out).mono ?_); (case side1 => have q_ := Aside0.mk HR0.out; exact cQ q_); (case side2 => exact HC0.out); rintro e w5 ⟨rfl, hb⟩; refine ⟨_, rfl, ?_⟩; replace HB := Aside0.mk (below_step (beQ HB) hb); (try clear hb); (try clear hb2); (try clear hk); (try clear hi); (try clear hgw_)) | ((with_reducible refine gate_callee (f := 51) rfl ?_); refine goesL_ (some 8) rfl rfl Tryd.func51 (by kernel_rfl) rfl #[.slice A0 l0.length c0] rfl lz ?_; (with_reducible refine (impl_closure.calls k _ _ l0 t774 _ ?side1 ?side2 A4.out).mono ?_); (case side1 => have q_ := Aside0.mk (Kd.C_below HR0.out HB.out); exact cQ q_); (case side2 => exact HC0.out); rintro e w6 ⟨v775, rfl, ho0, hb⟩; refine ⟨_, rfl, ?_⟩; have HO776 := Aside0.mk (Kd.R_lower ho0 (below_size (beQ HB))); replace HB := Aside0.mk (below_step (beQ HB) hb); (try clear hb); (try clear hb2); (try clear hk); (try clear hi); (try clear hgw_); (try clear ho0)))
  go_ret2
  exact ⟨_, rz, kdQ HO776, beQ HB⟩
 ·replace c3 := Bool.eq_false_iff.mpr c3
  subst c3
  have H1 : (some (([] : List Int), 1)) = some (r1, r2) := by rw [if_neg (show ¬ (false = true) by decide)] at H; exact H
  clear H; have H := H1; clear H1
  simp only [Option.some.injEq, Prod.mk.injEq] at H
  obtain ⟨rfl, rfl⟩ := H
  go_enter Tryd.func28, Tryd.ntmps28
  go_wp2_with (first | ((with_reducible refine gate_callee (f := 34) rfl ?_); refine goesL_ (some 5) rfl rfl Tryd.func34 (by kernel_rfl) rfl #[.slice A0 l0.length c0] rfl lz ?_; (with_reducible refine (impl_IsRelation.calls _ _ l0 false _ ?side1 ?side2 A2.out).mono ?_); (case side1 => have q_ := Aside0.mk HR0.out; exact cQ q_); (case side2 => exact HC0.out); rintro e w7 ⟨rfl, hb⟩; refine ⟨_, rfl, ?_⟩; replace HB := Aside0.mk (below_step (beQ HB) hb); (try clear hb); (try clear hb2); (try clear hk); (try clear hi); (try clear hgw_)))
  go_ret2
  exact ⟨_, rz, by first | exact Kd.R_nil _ _ _ _ _ | exact Kd.N_nil _ _ _ _ _ | exact Kd.V_nil _ _ _ _ _ | exact Kd.Q_nil _ _ _ _ _ | exact Kd.S_nil _ _ _ _ _, beQ HB⟩
def impl_ConverseOf.f (k : Nat) (l0 : List Int) : Option (List Int × Int) := (impl_IsRelation.f l0).bind fun t777 => (if t777 = true then ((impl_converse.f k l0).bind fun t778 => (some (t778, 0))) else (some (([] : List Int), 1)))
set_option maxHeartbeats 8000000 in
set_option maxRecDepth 100000 in
theorem impl_ConverseOf.calls (k : Nat) (A0 : Option Addr) (c0 : Nat) (l0 : List Int) (r1 : List Int) (r2 : Int) (w : World) (hr0 : Kd.C (Kd.int .i64) w A0 l0.length l0) (hc0 : l0.length ≤ c0) (hT : TabW w) (h : impl_ConverseOf.f k l0 = some (r1, r2)) :
  Calls Tryd.prog 29 #[.slice A0 l0.length c0] w fun e w' => ∃ v0_ : Value, e = .returned (.tuple #[v0_, .int .i64 r2]) ∧ Kd.R (Kd.int .i64) 2 w' w.heap.size (fun _ => True) v0_ r1 ∧ Below w.heap.size w w' := by
 have HT := Aside0.mk hT; clear hT; have HR0 := Aside0.mk hr0; have HC0 := Aside0.mk hc0; clear hr0 hc0; have HB := Aside0.mk (Below.refl w.heap.size w)
 have H : ((impl_IsRelation.f l0).bind fun t777 => (if t777 = true then ((impl_converse.f k l0).bind fun t778 => (some (t778, 0))) else (some (([] : List Int), 1)))) = some (r1, r2) := h
 clear h; replace H := Option.bind_eq_some_iff.mp H; obtain ⟨t777, A20, H⟩ := H
 replace H : (if t777 = true then ((impl_converse.f k l0).bind fun t778 => (some (t778, 0))) else (some (([] : List Int), 1))) = some (r1, r2) := H
 have A2 := Aside0.mk A20; clear A20
 by_cases c3 : t777 = true
 ·subst c3
  have H1 : ((impl_converse.f k l0).bind fun t778 => (some (t778, 0))) = some (r1, r2) := by rw [if_pos rfl] at H; exact H
  clear H; have H := H1; clear H1; replace H := Option.bind_eq_some_iff.mp H; obtain ⟨t778, A40, H⟩ := H
  replace H : (some (t778, 0)) = some (r1, r2) := H
  have A4 := Aside0.mk A40; clear A40
  simp only [Option.some.injEq, Prod.mk.injEq] at H
  obtain ⟨rfl, rfl⟩ := H
  go_enter Tryd.func29, Tryd.ntmps29
  go_wp2_with (first | ((with_reducible refine gate_callee (f := 34) rfl ?_); refine goesL_ (some 5) rfl rfl Tryd.func34 (by kernel_rfl) rfl #[.slice A0 l0.length c0] rfl lz ?_; (with_reducible refine (impl_IsRelation.calls _ _ l0 true _ ?side1 ?side2 A2.out).mono ?_); (case side1 => have q_ := Aside0.mk HR0.out; exact cQ q_); (case side2 => exact HC0.out); rintro e w5 ⟨rfl, hb⟩; refine ⟨_, rfl, ?_⟩; replace HB := Aside0.mk (below_step (beQ HB) hb); (try clear hb); (try clear hb2); (try clear hk); (try clear hi); (try clear hgw_)) | ((with_reducible refine gate_callee (f := 52) rfl ?_); refine goesL_ (some 8) rfl rfl Tryd.func52 (by kernel_rfl) rfl #[.slice A0 l0.length c0] rfl lz ?_; (with_reducible refine (impl_converse.calls k _ _ l0 t778 _ ?side1 ?side2 ?side3 A4.out).mono ?_); (case side1 => have q_ := Aside0.mk (Kd.C_below HR0.out HB.out); exact cQ q_); (case side2 => exact HC0.out); (case side3 => exact TabW.below HT.out (beQ HB)); rintro e w6 ⟨v779, rfl, ho0, hb⟩; refine ⟨_, rfl, ?_⟩; have HO780 := Aside0.mk (Kd.R_lower ho0 (below_size (beQ HB))); replace HB := Aside0.mk (below_step (beQ HB) hb); (try clear hb); (try clear hb2); (try clear hk); (try clear hi); (try clear hgw_); (try clear ho0)))
  go_ret2
  exact ⟨_, rz, kdQ HO780, beQ HB⟩
 ·replace c3 := Bool.eq_false_iff.mpr c3
  subst c3
  have H1 : (some (([] : List Int), 1)) = some (r1, r2) := by rw [if_neg (show ¬ (false = true) by decide)] at H; exact H
  clear H; have H := H1; clear H1
  simp only [Option.some.injEq, Prod.mk.injEq] at H
  obtain ⟨rfl, rfl⟩ := H
  go_enter Tryd.func29, Tryd.ntmps29
  go_wp2_with (first | ((with_reducible refine gate_callee (f := 34) rfl ?_); refine goesL_ (some 5) rfl rfl Tryd.func34 (by kernel_rfl) rfl #[.slice A0 l0.length c0] rfl lz ?_; (with_reducible refine (impl_IsRelation.calls _ _ l0 false _ ?side1 ?side2 A2.out).mono ?_); (case side1 => have q_ := Aside0.mk HR0.out; exact cQ q_); (case side2 => exact HC0.out); rintro e w7 ⟨rfl, hb⟩; refine ⟨_, rfl, ?_⟩; replace HB := Aside0.mk (below_step (beQ HB) hb); (try clear hb); (try clear hb2); (try clear hk); (try clear hi); (try clear hgw_)))
  go_ret2
  exact ⟨_, rz, by first | exact Kd.R_nil _ _ _ _ _ | exact Kd.N_nil _ _ _ _ _ | exact Kd.V_nil _ _ _ _ _ | exact Kd.Q_nil _ _ _ _ _ | exact Kd.S_nil _ _ _ _ _, beQ HB⟩
def IsS49 (w0 W : World) (g : Nat) (f0 : List Int) (f1 : Int) (f2 : Int) : Prop := ∃ A0 c0, W.heap[g]? = some (.cells #[.slice A0 f0.length c0, .int .i64 f1, .int .u64 f2] 49 (0, 0)) ∧ w0.heap.size ≤ g ∧ Kd.C (Kd.int .u8) w0 A0 f0.length f0
theorem IsS49.grown {w0 W : World} {g : Nat} {f0 : List Int} {f1 : Int} {f2 : Int} {W1 : World} {row : Option Nat} (h : IsS49 w0 W g f0 f1 f2) (hw : W.grownBy W1 row) (hne : some g ≠ row) : IsS49 w0 W1 g f0 f1 f2 := by
 obtain ⟨A0, c0, hb, hg, hr0⟩ := h
 exact ⟨A0, c0, blk_grown hb hw hne, hg, hr0⟩
theorem IsS49.kept {w0 W : World} {g : Nat} {f0 : List Int} {f1 : Int} {f2 : Int} {W1 : World} {S : Nat → Prop} (h : IsS49 w0 W g f0 f1 f2) (hk : Kept W W1 S) (hne : ¬ S g) : IsS49 w0 W1 g f0 f1 f2 := by
 obtain ⟨A0, c0, hb, hg, hr0⟩ := h
 exact ⟨A0, c0, blk_kept hb hk hne, hg, hr0⟩
theorem IsS49.below {w0 W : World} {g : Nat} {f0 : List Int} {f1 : Int} {f2 : Int} {W1 : World} (h : IsS49 w0 W g f0 f1 f2) (hw : Below W.heap.size W W1) : IsS49 w0 W1 g f0 f1 f2 := h.grown (grown_of_below hw none) (by simp)
theorem IsS49.alloc {w0 W : World} {g : Nat} {f0 : List Int} {f1 : Int} {f2 : Int} (h : IsS49 w0 W g f0 f1 f2) (o : Obj) : IsS49 w0 (W.alloc o) g f0 f1 f2 := h.below (below_alloc (Below.refl _ _) o)
theorem IsS49.drewN {w0 W : World} {g : Nat} {f0 : List Int} {f1 : Int} {f2 : Int} (h : IsS49 w0 W g f0 f1 f2) (m : Nat) : IsS49 w0 (W.drewN m) g f0 f1 f2 := h
theorem IsS49.drew {w0 W : World} {g : Nat} {f0 : List Int} {f1 : Int} {f2 : Int} (h : IsS49 w0 W g f0 f1 f2) : IsS49 w0 W.drew g f0 f1 f2 := h
theorem IsS49.at_ {w0 W : World} {g : Nat} {f0 : List Int} {f1 : Int} {f2 : Int} {w' : World} {m : Nat} (hq : W.drewN m = w') (h : IsS49 w0 W g f0 f1 f2) : IsS49 w0 w' g f0 f1 f2 := by subst hq; exact IsS49.drewN h m
theorem IsS49.apart {w0 W : World} {g : Nat} {f0 : List Int} {f1 : Int} {f2 : Int} {α : Type} {d : Kd α} {e : Nat} {base : Nat} {ok : Nat → Prop} {v : Value} {xs : List α} (h : IsS49 w0 W g f0 f1 f2) (ho : d.R e W base ok v xs) (ht : ∀ q, q ∈ e :: d.E → q ≠ 49) : d.R e W base (fun k => ok k ∧ k ≠ g) v xs := by
 obtain ⟨A0, c0, hb, hg, hr0⟩ := h
 exact Kd.R_types ho hb ht
theorem IsS49.own_ne {w0 W : World} {g : Nat} {f0 : List Int} {f1 : Int} {f2 : Int} {α : Type} {d : Kd α} {e : Nat} {base : Nat} {ok : Nat → Prop} {v : Value} {xs : List α} (h : IsS49 w0 W g f0 f1 f2) (ho : d.R e W base ok v xs) (ht : e ≠ 49) : some g ≠ v.ownBlock := by
 obtain ⟨A0, c0, hb, hg, hr0⟩ := h
 exact Kd.R_ne ho hb ht
theorem IsS49.lt {w0 W : World} {g : Nat} {f0 : List Int} {f1 : Int} {f2 : Int} (h : IsS49 w0 W g f0 f1 f2) : g < W.heap.size := by
 obtain ⟨A0, c0, hb, hg, hr0⟩ := h
 exact blk_lt hb
theorem IsS49.ge {w0 W : World} {g : Nat} {f0 : List Int} {f1 : Int} {f2 : Int} (h : IsS49 w0 W g f0 f1 f2) : w0.heap.size ≤ g := by
 obtain ⟨A0, c0, hb, hg, hr0⟩ := h
 exact hg
theorem IsS49.far {w0 W : World} {g : Nat} {f0 : List Int} {f1 : Int} {f2 : Int} {p : Addr} (h : IsS49 w0 W g f0 f1 f2) (hne : g ≠ p.block) (u : Value) : IsS49 w0 (W.setCell p u) g f0 f1 f2 := by
 obtain ⟨A0, c0, hb, hg, hr0⟩ := h
 exact ⟨A0, c0, blk_far hb hne u, hg, hr0⟩
theorem cellS49_0 {W : World} {g : Nat} {A0 : Option Addr} {c0 : Nat} {f0 : List Int} {f1 : Int} {f2 : Int} (h : W.heap[g]? = some (.cells #[.slice A0 f0.length c0, .int .i64 f1, .int .u64 f2] 49 (0, 0))) : W.cell? ⟨g, 0, none⟩ = some (.slice A0 f0.length c0) := (blk_cell h 0).trans rfl
theorem cellS49_1 {W : World} {g : Nat} {A0 : Option Addr} {c0 : Nat} {f0 : List Int} {f1 : Int} {f2 : Int} (h : W.heap[g]? = some (.cells #[.slice A0 f0.length c0, .int .i64 f1, .int .u64 f2] 49 (0, 0))) : W.cell? ⟨g, 1, none⟩ = some (.int .i64 f1) := (blk_cell h 1).trans rfl
theorem IsS49.set_1 {w0 W : World} {g : Nat} {f0 : List Int} {f1 : Int} {f2 : Int} (h : IsS49 w0 W g f0 f1 f2) (x : Int) : IsS49 w0 (W.setCell ⟨g, 1, none⟩ (.int .i64 x)) g f0 x f2 := by
 obtain ⟨A0, c0, hb, hg, hr0⟩ := h
 exact ⟨A0, c0, by simpa using blk_set hb 1 (.int .i64 x), hg, hr0⟩
theorem cellS49_2 {W : World} {g : Nat} {A0 : Option Addr} {c0 : Nat} {f0 : List Int} {f1 : Int} {f2 : Int} (h : W.heap[g]? = some (.cells #[.slice A0 f0.length c0, .int .i64 f1, .int .u64 f2] 49 (0, 0))) : W.cell? ⟨g, 2, none⟩ = some (.int .u64 f2) := (blk_cell h 2).trans rfl
theorem IsS49.set_2 {w0 W : World} {g : Nat} {f0 : List Int} {f1 : Int} {f2 : Int} (h : IsS49 w0 W g f0 f1 f2) (x : Int) : IsS49 w0 (W.setCell ⟨g, 2, none⟩ (.int .u64 x)) g f0 f1 x := by
 obtain ⟨A0, c0, hb, hg, hr0⟩ := h
 exact ⟨A0, c0, by simpa using blk_set hb 2 (.int .u64 x), hg, hr0⟩
def laws_roll.l0 : Nat → List Int → Int → List Int → Int → Int → Option (List Int × Int × Int)
 | 0, _, _, _, _, _ => none
 | k + 1, x0, x6, x782000, x782001, x782002 => if x6 < (x0.length : Int) then (if 0 ≤ x6 then (laws_roll.l0 k x0 (wrap64 (x6 + 1)) x782000 x782001 (IntKind.u64.wrap ((IntKind.u64.wrap ((IntKind.u64.wrap (x782002 * 1099511628211)) + (IntKind.u64.wrap (rd x0 x6)))) + 5))) else (none)) else (some (x782000, x782001, x782002))
def laws_roll.f (k : Nat) (l0 : List Int) (a1 : Int) : Option (List Int × Int × Int) := laws_roll.l0 k l0 0 l0 0 (IntKind.u64.wrap ((IntKind.u64.wrap (a1 * 7681)) + (IntKind.u64.wrap ((l0.length : Int)))))
def laws_roll.T5 : Bool × List (List Nat × List Nat) := (true, [([], []), ([], []), ([1], [1]), ([2], [2]), ([3], [3]), ([4], [4]), ([], []), ([], []), ([6, 7], [6, 7]), ([8], [8]), ([9], [9]), ([5, 10], [5, 10]), ([11], [11]), ([0, 0, 1, 2, 3, 4, 5, 6, 7, 8, 9, 10, 11, 12], [0]), ([13, 0, 1, 2, 3, 4, 5, 6, 7, 8, 9, 10, 11, 12], [13]), ([14, 12, 0, 1, 2, 3, 4, 5, 6, 7, 8, 9, 10, 11, 12], [12, 14])])
def laws_roll.B5 : List Nat := [0, 0, 2, 6, 14, 30, 0, 0, 192, 448, 960, 2046, 4094, 8191, 16383, 32767]
theorem laws_roll.tab5 : rtab .any (opsOf Tryd.f30 5) = laws_roll.T5 := by kernel_rfl
theorem laws_roll.bits5 : waitsOk laws_roll.T5.2 laws_roll.B5 = true := by kernel_rfl
set_option maxHeartbeats 8000000 in
set_option maxRecDepth 100000 in
theorem laws_roll.calls (k : Nat) (A0 : Option Addr) (c0 : Nat) (l0 : List Int) (a1 : Int) (r1 : List Int) (r2 : Int) (r3 : Int) (w0 w : World) (hB : Below w0.heap.size w0 w) (hr0 : Kd.C (Kd.int .u8) w0 A0 l0.length l0) (hc0 : l0.length ≤ c0) (h : laws_roll.f k l0 a1 = some (r1, r2, r3)) :
  Calls Tryd.prog 30 #[.slice A0 l0.length c0, .int .u64 a1] w fun e w' => ∃ g_ : Nat, e = .returned (.pointer (some ⟨g_, 0, none⟩)) ∧ IsS49 w0 w' g_ r1 r2 r3 ∧ Below w0.heap.size w0 w' ∧ Below w.heap.size w w' ∧ w.heap.size ≤ g_ := by
 have hu49 := Tryd.underlying49; have HR0 := Aside0.mk hr0; have HC0 := Aside0.mk hc0; clear hr0 hc0; have HBW := Aside0.mk (Below.refl w.heap.size w); have HW0 := Aside0.mk hB.size; have HB := Aside0.mk hB; clear hB
 have H : (laws_roll.l0 k l0 0 l0 0 (IntKind.u64.wrap ((IntKind.u64.wrap (a1 * 7681)) + (IntKind.u64.wrap ((l0.length : Int)))))) = some (r1, r2, r3) := h
 clear h
 have H' := Aside0.mk H
 clear H
 go_enter Tryd.func30, Tryd.ntmps30
 go_wp2_with (first | ((with_reducible refine gate_dst (N := 15) rfl ?_); refine box_event ?hg (N := 15) ?hd (cs := #[.slice A0 l0.length c0, .int .i64 0, .int .u64 (IntKind.u64.wrap ((IntKind.u64.wrap (a1 * 7681)) + (IntKind.u64.wrap ((l0.length : Int)))))]) (t := 49) ?hr ?_; (case hd => rfl); (case hg => rfl); (case hr => first | (go_simp; done) | (go_simp; rfl)); intro gb781 hg w3 hbox hb; replace HB := Aside0.mk (below_step (beQ HB) hb); have BK781 := Aside0.mk (hbox); have GW781 := Aside0.mk ((by rw [hg]; exact (below_size (beQ HBW)) : w.heap.size ≤ gb781)); have GE781 := Aside0.mk ((Nat.le_trans HW0.out (by rw [hg]; exact (below_size (beQ HBW)) : w.heap.size ≤ gb781) : w0.heap.size ≤ gb781)); replace HBW := Aside0.mk (below_step HBW.out hb); clear hb hbox hg))
 go_loopg [6] k (fun kq v6 w' => ∃ (x6_1 : Int) (x782002_1 : Int), v6 = .int .i64 x6_1 ∧ Aside0 (laws_roll.l0 kq l0 x6_1 l0 0 x782002_1 = some (r1, r2, r3)) ∧ Aside0 (kq ≤ k) ∧ Aside0 (w'.heap[gb781]? = some (.cells #[(.slice A0 l0.length c0), .int .i64 0, .int .u64 x782002_1] 49 (0, 0))) ∧ Aside0 (Below w0.heap.size w0 w') ∧ Aside0 (Below w.heap.size w w'))
 case atStart => exact ⟨(0), (IntKind.u64.wrap ((IntKind.u64.wrap (a1 * 7681)) + (IntKind.u64.wrap ((l0.length : Int))))), sz, H', ⟨Nat.le_refl _⟩, ⟨blkQ BK781⟩, ⟨beQ HB⟩, ⟨beQ HBW⟩⟩
 case round =>
  clear H'
  try clear p2
  try clear c3
  obtain ⟨x6_1, x782002_1, rfl, HA, HK1, BK781, HB, HBW⟩ := hrel
  cases gk with
  | zero => exact absurd HA.out (by simp [laws_roll.l0])
  | succ k1 =>
   have H := HA.out; clear HA
   simp only [laws_roll.l0] at H
   by_cases c4 : x6_1 < (l0.length : Int)
   ·rw [if_pos c4] at H
    have c4b0 : decide (x6_1 < (l0.length : Int)) = true := decide_eq_true c4
    clear c4
    by_cases c5 : 0 ≤ x6_1
    ·rw [if_pos c5] at H
     have c5b0 : decide (0 ≤ x6_1) = true := decide_eq_true c5
     clear c5
     have H' := Aside0.mk H
     clear H
     try go_wp2
     replace BK781 := Aside0.mk (blk_drew BK781.out); replace HB := Aside0.mk (below_drew1 HB.out)
     have p782 : 0 ≤ (x6_1 : Int) := of_decide_eq_true (by first | (with_reducible assumption) | assumption)
     have q782 : x6_1 < (l0.length : Int) := of_decide_eq_true (by first | (with_reducible assumption) | assumption)
     obtain ⟨ad782, e782, hx782_0⟩ := Kd.at_int HR0.out x6_1 p782 q782; have hw782_0 := hx782_0; cases e782; replace hx782_0 := pw_cell_below HB.out hx782_0; replace p782 := eq_true p782; replace q782 := eq_true q782
     refine start_ (n := 16) (S := fun w' => w'.cell? ⟨gb781, 0, none⟩ = some (.slice (some ad782) l0.length c0) ∧ w'.cell? ⟨gb781, 1, none⟩ = some (.int .i64 0) ∧ w'.cell? ⟨gb781, 2, none⟩ = some (.int .u64 x782002_1) ∧ w'.cell? (ad782.add (x6_1).toNat) = some (.int .u8 (rd l0 x6_1))) (ds := [15]) #[false, false, false, false, false, false, false, false, false, false, false, false, false, false, false, false] (by kernel_rfl) rfl rfl ⟨bc BK781 0, bc BK781 1, bc BK781 2, ((HB.out.cell (World.block_lt_of_cell? _ _ hw782_0)).trans hw782_0)⟩ (fun hHeld => ?_); refine with_tabW laws_roll.tab5 laws_roll.bits5 (fun HT_ HW_ => ?_)
     replace HBW := Aside0.mk (below_drew1 HBW.out)
     generalize wr.drew = w6 at BK781 HB hx782_0 HBW hHeld ⊢
     refine pure_ (i := 0) (N := some 22) (v := ?_) (a' := ?_) #[true, false, false, false, false, false, false, false, false, false, false, false, false, false, false, false] rfl rfl (any_of HT_.out (by kernel_rfl)) (fun _ _ _ h => h) (Or.inl ⟨by rfl, ?_⟩) ?_ ?_
     rotate_left
     ·intro w'
      go_simp
      with_reducible rfl
     rotate_left
     ·simp only [Act.put, s1, s2, s3, i64_w, i32_w]
      rfl
     refine pure_ (i := 1) (N := some 23) (v := ?_) (a' := ?_) #[true, true, false, false, false, false, false, false, false, false, false, false, false, false, false, false] rfl rfl (any_of HT_.out (by kernel_rfl)) (fun _ _ _ h => h) (Or.inl ⟨by rfl, ?_⟩) ?_ ?_
     rotate_left
     ·intro w'
      go_simp
      with_reducible rfl
     rotate_left
     ·simp only [Act.put, s1, s2, s3, i64_w, i32_w]
      rfl
     refine pure_ (i := 2) (N := some 24) (v := ?_) (a' := ?_) #[true, true, true, false, false, false, false, false, false, false, false, false, false, false, false, false] rfl rfl (any_of HT_.out (by kernel_rfl)) (fun _ _ _ h => h) (Or.inl ⟨by rfl, ?_⟩) ?_ ?_
     rotate_left
     ·intro w'
      go_simp
      with_reducible rfl
     rotate_left
     ·simp only [Act.put, s1, s2, s3, i64_w, i32_w]
      rfl
     refine pure_ (i := 3) (N := some 25) (v := ?_) (a' := ?_) #[true, true, true, true, false, false, false, false, false, false, false, false, false, false, false, false] rfl rfl (any_of HT_.out (by kernel_rfl)) (fun _ _ _ h => h) (Or.inl ⟨by rfl, ?_⟩) ?_ ?_
     rotate_left
     ·intro w'
      go_simp
      with_reducible rfl
     rotate_left
     ·simp only [Act.put, s1, s2, s3, i64_w, i32_w]
      rfl
     refine pure_ (i := 6) (N := some 28) (v := ?_) (a' := ?_) #[true, true, true, true, false, false, true, false, false, false, false, false, false, false, false, false] rfl rfl (any_of HT_.out (by kernel_rfl)) (fun _ _ _ h => h) (Or.inl ⟨by rfl, ?_⟩) ?_ ?_
     rotate_left
     ·intro w'
      go_simp
      with_reducible rfl
     rotate_left
     ·simp only [Act.put, s1, s2, s3, i64_w, i32_w]
      rfl
     refine pure_ (i := 7) (N := some 29) (v := ?_) (a' := ?_) #[true, true, true, true, false, false, true, true, false, false, false, false, false, false, false, false] rfl rfl (any_of HT_.out (by kernel_rfl)) (fun _ _ _ h => h) (Or.inl ⟨by rfl, ?_⟩) ?_ ?_
     rotate_left
     ·intro w'
      go_simp
      with_reducible rfl
     rotate_left
     ·simp only [Act.put, s1, s2, s3, i64_w, i32_w]
      rfl
     refine pure_ (i := 8) (N := some 30) (v := ?_) (a' := ?_) #[true, true, true, true, false, false, true, true, true, false, false, false, false, false, false, false] rfl rfl (any_of HT_.out (by kernel_rfl)) (fun _ _ _ h => h) (Or.inl ⟨by rfl, ?_⟩) ?_ ?_
     rotate_left
     ·intro w'
      go_simp
      with_reducible rfl
     rotate_left
     ·simp only [Act.put, s1, s2, s3, i64_w, i32_w]
      rfl
     refine take_ (i := 4) (N := some 26) (v := ?_) (a' := ?_) #[true, true, true, true, true, false, true, true, true, false, false, false, false, false, false, false] rfl rfl (take_ofW HT_.out HW_.out (by kernel_rfl)) (fun _ _ _ h => h) (Or.inl ⟨by rfl, ?_⟩) hHeld ?_ ?_
     rotate_left
     ·rintro w' ⟨s0, s1, s2, s3⟩
      go_simp
      with_reducible rfl
     rotate_left
     ·simp only [Act.put, s1, s2, s3, i64_w, i32_w]
      rfl
     refine pure_ (i := 5) (N := some 27) (v := ?_) (a' := ?_) #[true, true, true, true, true, true, true, true, true, false, false, false, false, false, false, false] rfl rfl (any_of HT_.out (by kernel_rfl)) (fun _ _ _ h => h) (Or.inl ⟨by rfl, ?_⟩) ?_ ?_
     rotate_left
     ·intro w'
      go_simp
      with_reducible rfl
     rotate_left
     ·simp only [Act.put, s1, s2, s3, i64_w, i32_w]
      rfl
     refine take_ (i := 9) (N := some 31) (v := ?_) (a' := ?_) #[true, true, true, true, true, true, true, true, true, true, false, false, false, false, false, false] rfl rfl (take_ofW HT_.out HW_.out (by kernel_rfl)) (fun _ _ _ h => h) (Or.inl ⟨by rfl, ?_⟩) hHeld ?_ ?_
     rotate_left
     ·rintro w' ⟨s0, s1, s2, s3⟩
      go_simp
      with_reducible rfl
     rotate_left
     ·simp only [Act.put, s1, s2, s3, i64_w, i32_w]
      rfl
     refine pure_ (i := 10) (N := some 32) (v := ?_) (a' := ?_) #[true, true, true, true, true, true, true, true, true, true, true, false, false, false, false, false] rfl rfl (any_of HT_.out (by kernel_rfl)) (fun _ _ _ h => h) (Or.inl ⟨by rfl, ?_⟩) ?_ ?_
     rotate_left
     ·intro w'
      go_simp
      with_reducible rfl
     rotate_left
     ·simp only [Act.put, s1, s2, s3, i64_w, i32_w]
      rfl
     refine pure_ (i := 11) (N := some 33) (v := ?_) (a' := ?_) #[true, true, true, true, true, true, true, true, true, true, true, true, false, false, false, false] rfl rfl (any_of HT_.out (by kernel_rfl)) (fun _ _ _ h => h) (Or.inl ⟨by rfl, ?_⟩) ?_ ?_
     rotate_left
     ·intro w'
      go_simp
      with_reducible rfl
     rotate_left
     ·simp only [Act.put, s1, s2, s3, i64_w, i32_w]
      rfl
     refine pure_ (i := 12) (N := some 34) (v := ?_) (a' := ?_) #[true, true, true, true, true, true, true, true, true, true, true, true, true, false, false, false] rfl rfl (any_of HT_.out (by kernel_rfl)) (fun _ _ _ h => h) (Or.inl ⟨by rfl, ?_⟩) ?_ ?_
     rotate_left
     ·intro w'
      go_simp
      with_reducible rfl
     rotate_left
     ·simp only [Act.put, s1, s2, s3, i64_w, i32_w]
      rfl
     refine pure_ (i := 13) (N := some 35) (v := ?_) (a' := ?_) #[true, true, true, true, true, true, true, true, true, true, true, true, true, true, false, false] rfl rfl (any_of HT_.out (by kernel_rfl)) (fun _ _ _ h => h) (Or.inl ⟨by rfl, ?_⟩) ?_ ?_
     rotate_left
     ·intro w'
      go_simp
      with_reducible rfl
     rotate_left
     ·simp only [Act.put, s1, s2, s3, i64_w, i32_w]
      rfl
     refine pure_ (i := 14) (N := some 36) (v := ?_) (a' := ?_) #[true, true, true, true, true, true, true, true, true, true, true, true, true, true, true, false] rfl rfl (any_of HT_.out (by kernel_rfl)) (fun _ _ _ h => h) (Or.inl ⟨by rfl, ?_⟩) ?_ ?_
     rotate_left
     ·intro w'
      go_simp
      with_reducible rfl
     rotate_left
     ·simp only [Act.put, s1, s2, s3, i64_w, i32_w]
      rfl
     refine last_ (i := 15) (N := none) #[true, true, true, true, true, true, true, true, true, true, true, true, true, true, true, true] rfl rfl (one_of HT_.out (by kernel_rfl)) (by decide) (fun K hK => ?_)
     have hs7 : w6.cell? ⟨gb781, 2, none⟩ = some (.int .u64 x782002_1) := bc BK781 2
     have hfs7 := blk_frozen BK781.out 2
     refine skip_ (w1 := ?_) (by rfl) rfl ?_ ?_
     rotate_left
     ·go_simp
      rfl
     refine hK.out _ _ ?_
     clear hK K
     refine done_ (done_of HT_.out (by kernel_rfl)) ?_
     try go_wp2
     go_roundg k1
     case measure => have := HK1.out; omega
     case rel => exact ⟨(wrap64 (x6_1 + 1)), (IntKind.u64.wrap ((IntKind.u64.wrap ((IntKind.u64.wrap (x782002_1 * 1099511628211)) + (IntKind.u64.wrap (rd l0 x6_1)))) + 5)), sz, H', ⟨by have := HK1.out; omega⟩, ⟨by (with_reducible repeat (first | refine blk_drewN ?_ _ | refine blk_drew ?_ | refine blk_alloc ?_ _)); refine blk_put (cs := #[.slice (some ad782) l0.length c0, .int .i64 0, .int .u64 x782002_1]) ?_ 2 _ rfl; (with_reducible repeat (first | refine blk_drewN ?_ _ | refine blk_drew ?_ | refine blk_alloc ?_ _)); exact BK781.out⟩, ⟨beQ HB⟩, ⟨beQ HBW⟩⟩
    ·rw [if_neg c5] at H
     exact absurd H (by simp)
   ·rw [if_neg c4] at H
    have c4b0 : decide (x6_1 < (l0.length : Int)) = false := decide_eq_false c4
    clear c4
    simp only [Option.some.injEq, Prod.mk.injEq] at H
    obtain ⟨rfl, rfl, rfl⟩ := H
    go_wp2
    go_ret
    exact ⟨_, rfl, (show IsS49 w0 _ gb781 l0 0 x782002_1 from ⟨_, _, blkQ BK781, GE781.out, HR0.out⟩), beQ HB, beQ HBW, GW781.out⟩
end Go.Proofs.YtjckfnaohikmbaaDoor.G
