-- A copy, with what one law needs, of a text that print.sh or a program of ours wrote
import Derived.Test.YtjckfnaohikmbaaDoorZ1G0
import Derived.Test.YtjckfnaohikmbaaDoorZ1GQ00a
namespace Go.Proofs.YtjckfnaohikmbaaDoor.G
open Go.RowKit Go.Proofs.YtjckfnaohikmbaaDoorW.PrintWords Go.Proofs.YtjckfnaohikmbaaDoorW.PrintLast Go.Proofs.YtjckfnaohikmbaaDoorW.PrintMore
theorem zQ09ax0 {p : Prop} (h : p := by repeat (first | exact Drawn0.refl _ | apply Drawn0.step)) : p := h
attribute [local go_sem] max2_int min2_int max_two min_two max_three min_three max_four min_four   -- for this text's walks alone
set_option linter.unusedVariables false
set_option linter.unusedSimpArgs false
def spec_l01Own.f (l0 : List Int) : Option (List Int) := (some (([] : List Int) : List Int)).bind fun y635 => (if y635.length + l0.length < 17592186044416 then (some (y635 ++ l0)) else (none))
set_option maxHeartbeats 8000000 in
set_option maxRecDepth 100000 in
theorem spec_l01Own.calls (A0 : Option Addr) (c0 : Nat) (l0 : List Int) (r : List Int) (w : World) (hr0 : Kd.C (Kd.int .i64) w A0 l0.length l0) (hc0 : l0.length ≤ c0) (h : spec_l01Own.f l0 = some r) :
  Calls Tryd.prog 67 #[.slice A0 l0.length c0] w fun e w' => ∃ v0_ : Value, e = .returned (v0_) ∧ Kd.R (Kd.int .i64) 2 w' w.heap.size (fun _ => True) v0_ r ∧ Below w.heap.size w w' := by
 have HR0 := Aside0.mk hr0; have HC0 := Aside0.mk hc0; clear hr0 hc0; have HB := Aside0.mk (Below.refl w.heap.size w)
 have H : ((some (([] : List Int) : List Int)).bind fun y635 => (if y635.length + l0.length < 17592186044416 then (some (y635 ++ l0)) else (none))) = some r := h
 clear h
 obtain ⟨y635, hy635⟩ : ∃ y_ : List Int, y_ = (([] : List Int)) := ⟨_, rfl⟩
 replace H : (if y635.length + l0.length < 17592186044416 then (some (y635 ++ l0)) else (none)) = some r := by first | (rw [hy635]; with_reducible exact H) | (have H2_ := (Option.bind_some _ _).symm.trans H; rw [hy635]; with_reducible exact H2_) | (have H2_ := (Option.bind_some _ _).symm.trans H; with_reducible exact H2_) | with_reducible exact H | (rw [hy635]; exact H) | exact H
 have Ny635 := Aside0.mk hy635; clear hy635
 by_cases c2 : y635.length + l0.length < 17592186044416
 ·rw [if_pos c2] at H
  have LMc2 := Aside0.mk c2; clear c2
  obtain ⟨y638, hy638⟩ : ∃ y_ : List Int, y_ = (y635 ++ l0) := ⟨_, rfl⟩
  replace H : (some y638) = some r := by first | (rw [hy638]; with_reducible exact H) | (have H2_ := (Option.bind_some _ _).symm.trans H; rw [hy638]; with_reducible exact H2_) | (have H2_ := (Option.bind_some _ _).symm.trans H; with_reducible exact H2_) | with_reducible exact H | (rw [hy638]; exact H) | exact H
  have Ny638 := Aside0.mk hy638; clear hy638
  obtain rfl := Option.some.inj H
  go_enter Tryd.func67, Tryd.ntmps67
  go_wp2_with (first | ((with_reducible refine gate_dst (N := 3) rfl ?_); refine Kd.R_lit (Kd.int .i64) _ 2 ?hg (N := 3) ?hd (xs := ([] : List Int)) (inner := []) (ok := fun _ => True) (okp := fun _ => True) ?hr ?hp (fun _ hk => hk) trivial (Below.refl _ _) (Nat.le_refl _) (by simp) ?_; (case hd => rfl); (case hg => rfl); (case hr => first | (go_simp; done) | (go_simp; rfl)); (case hp => exact (Reps.none _ _)); intro v636 w3 ho4 hb hg_ hnew_; clear hg_ hnew_; (first | rw [← Ny635.out] at ho4 | (simp only [Int.reduceToNat] at ho4; rw [← Ny635.out] at ho4)); have HO637 := Aside0.mk (Kd.R_lower ho4 (below_size (beQ HB))); replace HB := Aside0.mk (below_step (beQ HB) hb); clear hb ho4) | ((with_reducible refine gate_builtin (b := .append) (xs := #[.tmp 3, .tmp 4]) rfl ?_); at_builtin; refine Kd.R_append_rows (Kd.int .i64) (w0 := w) w.heap.size rfl (.tmp 3) (.tmp 4) 22 2 (.int .i64 0) 8 rfl Tryd.underlying22 info2 rfl (by decide) (by omega) v636 y635 l0 _ _ _ (fun _ => True) (fun _ => False) rfl rfl ?aO ?aR (fun _ _ h => h) (fun _ h => h.elim) ?aF ?aB ?aS ?aL ?_; (case aR => repeat (first | exact (Kd.C_below HR0.out HB.out) | (with_reducible refine Kd.C_alloc ?_ _) | (with_reducible refine Kd.C_drewN ?_ _) | (with_reducible refine Kd.C_drew ?_))); (case aB => exact (beQ HB)); (case aF => exact (fun _ _ => trivial)); (case aO => exact (kdQ HO637)); (case aS => exact (below_size (beQ HB))); (case aL => have := LMc2.out; omega); intro v639 w5 ho hb hg hat; rw [← Ny638.out] at ho; have n0_ := Aside0.mk (hb); have n1_ := Aside0.mk (ho); clear HB; clear HO637; have HB := n0_; have HO640 := n1_; clear n0_ n1_; clear ho hb hg hat))
  go_ret
  exact ⟨_, rz, kdQ HO640, beQ HB⟩
 ·rw [if_neg c2] at H
  exact absurd H (by simp)
mutual
def spec_l01Reach.l0 : Nat → List Int → Int → Int → Option (Int)
 | 0, _, _, _ => none
 | k + 1, x0, x5, x6 => if x6 < (x0.length : Int) then (spec_l01Reach.l1 k x0 x5 x6 x5 0) else (some x5)
def spec_l01Reach.l1 : Nat → List Int → Int → Int → Int → Int → Option (Int)
 | 0, _, _, _, _, _ => none
 | k + 1, x0, x5, x6, x7, x8 => if x8 < (x0.length : Int) then ((spec_l01Bit.f x5 x8).bind fun t642 => (if t642 = true then (if 0 ≤ x8 then (spec_l01Reach.l1 k x0 x5 x6 (Go.bits .or .i64 x7 (rd x0 x8)) (wrap64 (x8 + 1))) else (none)) else (spec_l01Reach.l1 k x0 x5 x6 x7 (wrap64 (x8 + 1))))) else (spec_l01Reach.l0 k x0 x7 (wrap64 (x6 + 1)))
end
def spec_l01Reach.f (k : Nat) (l0 : List Int) (a1 : Int) : Option (Int) := (spec_l01One.f a1).bind fun t641 => (spec_l01Reach.l0 k l0 t641 0)
set_option maxHeartbeats 8000000 in
set_option maxRecDepth 100000 in
theorem spec_l01Reach.calls (k : Nat) (A0 : Option Addr) (c0 : Nat) (l0 : List Int) (a1 : Int) (r : Int) (w : World) (hr0 : Kd.C (Kd.int .i64) w A0 l0.length l0) (hc0 : l0.length ≤ c0) (h : spec_l01Reach.f k l0 a1 = some r) :
  Calls Tryd.prog 68 #[.slice A0 l0.length c0, .int .i64 a1] w fun e w' => e = .returned (.int .i64 r) ∧ Drawn0 w w' := by
 have HR0 := Aside0.mk hr0; have HC0 := Aside0.mk hc0; clear hr0 hc0
 have H : ((spec_l01One.f a1).bind fun t641 => (spec_l01Reach.l0 k l0 t641 0)) = some r := h
 clear h; replace H := Option.bind_eq_some_iff.mp H; obtain ⟨t641, A30, H⟩ := H
 replace H : (spec_l01Reach.l0 k l0 t641 0) = some r := H
 have A3 := Aside0.mk A30; clear A30
 have H' := Aside0.mk H
 clear H
 go_enter Tryd.func68, Tryd.ntmps68
 go_wp2_with (first | ((with_reducible refine gate_callee (f := 47) rfl ?_); refine goesL_ (some 10) rfl rfl Tryd.func47 (by kernel_rfl) rfl #[.int .i64 a1] rfl lz ?_; (with_reducible refine (spec_l01One.calls a1 t641 _ A3.out).mono ?_); rintro e w' ⟨rfl, ⟨nd, rfl⟩⟩; refine ⟨_, rfl, ?_⟩))
 go_loopg [5, 6] k (fun kq v5 v6 w' => ∃ (x5_1 : Int) (x6_1 : Int), v5 = .int .i64 x5_1 ∧ v6 = .int .i64 x6_1 ∧ Aside0 (spec_l01Reach.l0 kq l0 x5_1 x6_1 = some r) ∧ Aside0 (kq ≤ k) ∧ Drawn0 w w')
 case atStart => exact ⟨(t641), (0), sz, sz, H', ⟨Nat.le_refl _⟩, zQ09ax0⟩
 case round =>
  clear H'
  try clear p2
  obtain ⟨x5_1, x6_1, rfl, rfl, HA, HK1, ⟨m1, rfl⟩⟩ := hrel
  cases gk with
  | zero => exact absurd HA.out (by simp [spec_l01Reach.l0])
  | succ k1 =>
   have H := HA.out; clear HA
   simp only [spec_l01Reach.l0] at H
   by_cases c4 : x6_1 < (l0.length : Int)
   ·rw [if_pos c4] at H
    have c4b0 : decide (x6_1 < (l0.length : Int)) = true := decide_eq_true c4
    clear c4
    have H' := Aside0.mk H
    clear H
    go_wp2
    go_loopg [7, 8] k1 (fun kq v7 v8 w' => ∃ (x7_2 : Int) (x8_2 : Int), v7 = .int .i64 x7_2 ∧ v8 = .int .i64 x8_2 ∧ Aside0 (spec_l01Reach.l1 kq l0 x5_1 x6_1 x7_2 x8_2 = some r) ∧ Aside0 (kq ≤ k1) ∧ Drawn0 w w')
    case atStart => exact ⟨(x5_1), (0), sz, sz, H', ⟨Nat.le_refl _⟩, zQ09ax0⟩
    case round =>
     clear H'
     try clear p2
     try clear c4
     try clear c4b0
     try clear p2
     obtain ⟨x7_2, x8_2, rfl, rfl, HA, HK2, ⟨m2, rfl⟩⟩ := hrel
     cases gk with
     | zero => exact absurd HA.out (by simp [spec_l01Reach.l1])
     | succ k2 =>
      have H := HA.out; clear HA
      simp only [spec_l01Reach.l1] at H
      by_cases c5 : x8_2 < (l0.length : Int)
      ·rw [if_pos c5] at H
       have c5b0 : decide (x8_2 < (l0.length : Int)) = true := decide_eq_true c5
       clear c5; replace H := Option.bind_eq_some_iff.mp H; obtain ⟨t642, A60, H⟩ := H
       replace H : (if t642 = true then (if 0 ≤ x8_2 then (spec_l01Reach.l1 k2 l0 x5_1 x6_1 (Go.bits .or .i64 x7_2 (rd l0 x8_2)) (wrap64 (x8_2 + 1))) else (none)) else (spec_l01Reach.l1 k2 l0 x5_1 x6_1 x7_2 (wrap64 (x8_2 + 1)))) = some r := H
       have A6 := Aside0.mk A60; clear A60
       by_cases c7 : t642 = true
       ·subst c7
        have H1 : (if 0 ≤ x8_2 then (spec_l01Reach.l1 k2 l0 x5_1 x6_1 (Go.bits .or .i64 x7_2 (rd l0 x8_2)) (wrap64 (x8_2 + 1))) else (none)) = some r := by rw [if_pos rfl] at H; exact H
        clear H; have H := H1; clear H1
        by_cases c8 : 0 ≤ x8_2
        ·rw [if_pos c8] at H
         have c8b0 : decide (0 ≤ x8_2) = true := decide_eq_true c8
         clear c8
         have H' := Aside0.mk H
         clear H
         go_wp2_with (first | ((with_reducible refine gate_callee (f := 37) rfl ?_); refine goesL_ (some 26) rfl rfl Tryd.func37 (by kernel_rfl) rfl #[.int .i64 x5_1, .int .i64 x8_2] rfl lz ?_; (with_reducible refine (spec_l01Bit.calls x5_1 x8_2 true _ A6.out).mono ?_); rintro e w' ⟨rfl, ⟨nd, rfl⟩⟩; refine ⟨_, rfl, ?_⟩; have p643 : 0 ≤ (x8_2 : Int) := of_decide_eq_true (by first | (with_reducible assumption) | assumption); have q643 : x8_2 < (l0.length : Int) := of_decide_eq_true (by first | (with_reducible assumption) | assumption); obtain ⟨ad643, e643, hx643_0⟩ := Kd.at_int HR0.out x8_2 p643 q643; cases e643; replace p643 := eq_true p643; replace q643 := eq_true q643))
         go_roundg k2
         case measure => have := HK1.out; have := HK2.out; omega
         case rel => exact ⟨(Go.bits .or .i64 x7_2 (rd l0 x8_2)), (wrap64 (x8_2 + 1)), sz, sz, H', ⟨by have := HK1.out; have := HK2.out; omega⟩, zQ09ax0⟩
        ·rw [if_neg c8] at H
         exact absurd H (by simp)
       ·replace c7 := Bool.eq_false_iff.mpr c7
        subst c7
        have H1 : (spec_l01Reach.l1 k2 l0 x5_1 x6_1 x7_2 (wrap64 (x8_2 + 1))) = some r := by rw [if_neg (show ¬ (false = true) by decide)] at H; exact H
        clear H; have H := H1; clear H1
        have H' := Aside0.mk H
        clear H
        go_wp2_with (first | ((with_reducible refine gate_callee (f := 37) rfl ?_); refine goesL_ (some 26) rfl rfl Tryd.func37 (by kernel_rfl) rfl #[.int .i64 x5_1, .int .i64 x8_2] rfl lz ?_; (with_reducible refine (spec_l01Bit.calls x5_1 x8_2 false _ A6.out).mono ?_); rintro e w' ⟨rfl, ⟨nd, rfl⟩⟩; refine ⟨_, rfl, ?_⟩))
        go_roundg k2
        case measure => have := HK1.out; have := HK2.out; omega
        case rel => exact ⟨(x7_2), (wrap64 (x8_2 + 1)), sz, sz, H', ⟨by have := HK1.out; have := HK2.out; omega⟩, zQ09ax0⟩
      ·rw [if_neg c5] at H
       have c5b0 : decide (x8_2 < (l0.length : Int)) = false := decide_eq_false c5
       clear c5
       have H' := Aside0.mk H
       clear H
       go_wp2
       go_roundg k2
       case measure => have := HK1.out; have := HK2.out; omega
       case rel => exact ⟨(x7_2), (wrap64 (x6_1 + 1)), sz, sz, H', ⟨by have := HK1.out; have := HK2.out; omega⟩, zQ09ax0⟩
   ·rw [if_neg c4] at H
    have c4b0 : decide (x6_1 < (l0.length : Int)) = false := decide_eq_false c4
    clear c4
    obtain rfl := Option.some.inj H
    go_wp2
    go_ret
    exact ⟨by first | rfl | (simp; done) | (simp [*]; done), zQ09ax0⟩
end Go.Proofs.YtjckfnaohikmbaaDoor.G
