-- A copy, with what one law needs, of a text that print.sh or a program of ours wrote
import Derived.Test.YtjckfnaohikmbaaDoorZ1G0
import Derived.Test.YtjckfnaohikmbaaDoorZ1GQ00a
import Derived.Test.YtjckfnaohikmbaaDoorZ1GQ05
import Derived.Test.YtjckfnaohikmbaaDoorZ1GQ09a
namespace Go.Proofs.YtjckfnaohikmbaaDoor.G
open Go.RowKit Go.Proofs.YtjckfnaohikmbaaDoorW.PrintWords Go.Proofs.YtjckfnaohikmbaaDoorW.PrintLast Go.Proofs.YtjckfnaohikmbaaDoorW.PrintMore
theorem zQ09bx0 {p : Prop} (h : p := by repeat (first | (with_reducible first | exact HI0.out | apply IsS61.alloc | apply IsS61.drewN | apply IsS61.drew | apply IsS61.set_1 | apply IsS61.set_2) | exact HI0.out)) : p := h
theorem zQ09bx1 {p : Prop} (h : p := by repeat (first | (with_reducible first | exact HB.out | apply below_alloc | apply pw_below_drewN | apply below_drew1 | refine below_set ?_ (IsS61.ge HI0.out)) | exact HB.out)) : p := h
theorem zQ09bx2 {p : Prop} (h : p := by repeat (first | (with_reducible first | exact HK.out | apply KeepBut.set_ | apply keep_drewN | apply keep_drew | apply keep_alloc) | exact HK.out)) : p := h
theorem zQ09bx3 {p : Prop} (h : p := by repeat (first | (with_reducible first | exact HI0.out | apply IsS61.alloc | apply IsS61.drewN | apply IsS61.drew | apply IsS61.set_1 | apply IsS61.set_2 | refine IsS61.far ?_ HN0_go38.out _) | exact HI0.out)) : p := h
theorem zQ09bx4 {p : Prop} (h : p := by repeat (first | (with_reducible first | exact HK.out | apply KeepBut.set_ | apply keep_drewN | apply keep_drew | apply keep_alloc | refine keep_far ?_ GB38.out _) | exact HK.out)) : p := h
theorem zQ09bx5 {p : Prop} (h : p := by repeat (first | (with_reducible first | exact HB.out | apply below_alloc | apply pw_below_drewN | apply below_drew1 | refine below_set ?_ (Nat.le_trans HL.out GB38.out) | refine below_set ?_ (IsS61.ge HI0.out)) | exact HB.out)) : p := h
attribute [local go_sem] max2_int min2_int max_two min_two max_three min_three max_four min_four   -- for this text's walks alone
set_option linter.unusedVariables false
set_option linter.unusedSimpArgs false
mutual
def spec_l01Order.l0 : Nat → Int → List Int → Int → List Int → Int → Int → Option (List Int × Int × Int)
 | 0, _, _, _, _, _, _ => none
 | k + 1, x5, x6, x7, x1000, x1001, x1002 => if x7 < x5 then ((spec_l01Next.f x1000 x1001 x1002 (wrap64 (x7 + 1))).bind fun bt650 => (if 0 ≤ bt650.1 then (if bt650.1 ≤ (x6.length : Int) then ((spec_l01Own.f (x6.take (bt650.1 : Int).toNat)).bind fun t657 => ((some (([x7] : List Int) : List Int)).bind fun y660 => (if t657.length + y660.length < 17592186044416 then ((some (t657 ++ y660 : List Int)).bind fun y663 => ((some (x6.drop (bt650.1 : Int).toNat : List Int)).bind fun y666 => (if y663.length + y666.length < 17592186044416 then (spec_l01Order.l0 k x5 (y663 ++ y666) (wrap64 (x7 + 1)) x1000 bt650.2.1 bt650.2.2) else (none)))) else (none)))) else (none)) else (none))) else (if 0 ≤ x5 then (if (x5 : Int).toNat ≤ 35184372088832 then (spec_l01Order.l1 k x5 x6 (List.replicate (x5 : Int).toNat 0) 0 x1000 x1001 x1002) else (none)) else (none))
def spec_l01Order.l1 : Nat → Int → List Int → List Int → Int → List Int → Int → Int → Option (List Int × Int × Int)
 | 0, _, _, _, _, _, _, _ => none
 | k + 1, x5, x6, x9, x10, x1000, x1001, x1002 => if x10 < x5 then (if 0 ≤ x10 then (if x10 < (x6.length : Int) then (if 0 ≤ (rd x6 x10) then (if (rd x6 x10) < (x9.length : Int) then ((spec_l01One.f (rd x6 x10)).bind fun t680 => (spec_l01Order.l2 k x5 x6 (x9.set ((rd x6 x10) : Int).toNat (Go.bits .or .i64 (rd x9 (rd x6 x10)) t680)) x10 (wrap64 (x10 + 1)) x1000 x1001 x1002)) else (none)) else (none)) else (none)) else (none)) else (spec_l01Order.l3 k x5 x9 (([] : List Int)) 0 x1000 x1001 x1002)
def spec_l01Order.l2 : Nat → Int → List Int → List Int → Int → Int → List Int → Int → Int → Option (List Int × Int × Int)
 | 0, _, _, _, _, _, _, _, _ => none
 | k + 1, x5, x6, x9, x10, x11, x1000, x1001, x1002 => if x11 < x5 then ((spec_l01Next.f x1000 x1001 x1002 4).bind fun bt682 => (if bt682.1 = 0 then (if 0 ≤ x10 then (if x10 < (x6.length : Int) then (if 0 ≤ (rd x6 x10) then (if (rd x6 x10) < (x9.length : Int) then (if 0 ≤ x11 then (if x11 < (x6.length : Int) then ((spec_l01One.f (rd x6 x11)).bind fun t689 => (spec_l01Order.l2 k x5 x6 (x9.set ((rd x6 x10) : Int).toNat (Go.bits .or .i64 (rd x9 (rd x6 x10)) t689)) x10 (wrap64 (x11 + 1)) x1000 bt682.2.1 bt682.2.2)) else (none)) else (none)) else (none)) else (none)) else (none)) else (none)) else (spec_l01Order.l2 k x5 x6 x9 x10 (wrap64 (x11 + 1)) x1000 bt682.2.1 bt682.2.2))) else (spec_l01Order.l1 k x5 x6 x9 (wrap64 (x10 + 1)) x1000 x1001 x1002)
def spec_l01Order.l3 : Nat → Int → List Int → List Int → Int → List Int → Int → Int → Option (List Int × Int × Int)
 | 0, _, _, _, _, _, _, _ => none
 | k + 1, x5, x9, x12, x13, x1000, x1001, x1002 => if x13 < x5 then ((spec_l01Reach.f k x9 x13).bind fun t694 => ((some (([t694] : List Int) : List Int)).bind fun y695 => (if x12.length + y695.length < 17592186044416 then (spec_l01Order.l3 k x5 x9 (x12 ++ y695) (wrap64 (x13 + 1)) x1000 x1001 x1002) else (none)))) else (if x5 > 0 then ((spec_l01Next.f x1000 x1001 x1002 14).bind fun bt701 => (spec_l01Order.j4 k x5 x12 (bt701.1 == 0) x1000 bt701.2.1 bt701.2.2)) else (spec_l01Order.j4 k x5 x12 false x1000 x1001 x1002))
def spec_l01Order.j4 : Nat → Int → List Int → Bool → List Int → Int → Int → Option (List Int × Int × Int)
 | 0, _, _, _, _, _, _ => none
 | k + 1, x5, x12, x113, x1000, x1001, x1002 => if x113 = true then ((spec_l01Next.f x1000 x1001 x1002 x5).bind fun bt704 => ((spec_l01Full.f x5).bind fun t707 => ((spec_l01One.f x5).bind fun t708 => (if 0 ≤ bt704.1 then (if bt704.1 < (x12.length : Int) then ((spec_l01One.f bt704.1).bind fun t710 => ((spec_l01Pick.f x1000 bt704.2.1 bt704.2.2 (([0, t707, t708, wrap64 ((rd x12 bt704.1) - t710)] : List Int))).bind fun bt714 => (some ((x12.set (bt704.1 : Int).toNat bt714.1), bt714.2.1, bt714.2.2)))) else (none)) else (none))))) else (some (x12, x1001, x1002))
end
def spec_l01Order.f (k : Nat) (s0_0 : List Int) (s0_1 : Int) (s0_2 : Int) (a1 : Int) : Option (List Int × Int × Int) := (spec_l01Next.f s0_0 s0_1 s0_2 (wrap64 (a1 + 1))).bind fun bt644 => (spec_l01Order.l0 k bt644.1 (([] : List Int)) 0 s0_0 bt644.2.1 bt644.2.2)
def spec_l01Order.T7 : Bool × List (List Nat × List Nat) := (true, [([], []), ([], []), ([0, 1], [0, 1]), ([2], [2]), ([], []), ([4], [4]), ([3, 5, 3], [3, 5]), ([], []), ([], []), ([7, 8], [7, 8]), ([6, 9, 6], [6, 9]), ([10, 10, 0, 1, 2, 3, 4, 5, 6, 7, 8, 9, 10], [0, 7, 10])])
def spec_l01Order.B7 : List Nat := [0, 0, 3, 7, 0, 16, 63, 0, 0, 384, 1023, 2047]
theorem spec_l01Order.tab7 : rtab .any (opsOf Tryd.f48 7) = spec_l01Order.T7 := by kernel_rfl
theorem spec_l01Order.bits7 : waitsOk spec_l01Order.T7.2 spec_l01Order.B7 = true := by kernel_rfl
def spec_l01Order.T12 : Bool × List (List Nat × List Nat) := (true, [([], []), ([], []), ([], []), ([1, 2], [1, 2]), ([3], [3]), ([], []), ([], []), ([], []), ([6, 7], [6, 7]), ([8], [8]), ([5, 9], [5, 9]), ([10], [10]), ([], []), ([], []), ([12, 13], [12, 13]), ([14], [14]), ([15], [15]), ([11, 16], [11, 16]), ([0, 4, 0, 1, 2, 3, 4, 5, 6, 7, 8, 9, 10, 11, 12, 13, 14, 15, 16, 17], [0, 4]), ([18, 17, 16, 0, 1, 2, 3, 4, 5, 6, 7, 8, 9, 10, 11, 12, 13, 14, 15, 16, 17], [17, 18])])
def spec_l01Order.B12 : List Nat := [0, 0, 0, 6, 14, 0, 0, 0, 192, 448, 992, 2016, 0, 0, 12288, 28672, 61440, 131040, 262143, 524287]
theorem spec_l01Order.tab12 : rtab .any (opsOf Tryd.f48 12) = spec_l01Order.T12 := by kernel_rfl
theorem spec_l01Order.bits12 : waitsOk spec_l01Order.T12.2 spec_l01Order.B12 = true := by kernel_rfl
def spec_l01Order.T17 : Bool × List (List Nat × List Nat) := (true, [([], []), ([], []), ([], []), ([1, 2], [1, 2]), ([3], [3]), ([], []), ([], []), ([], []), ([6, 7], [6, 7]), ([8], [8]), ([5, 9], [5, 9]), ([10], [10]), ([], []), ([], []), ([12, 13], [12, 13]), ([14], [14]), ([15], [15]), ([11, 16], [11, 16]), ([0, 4, 0, 1, 2, 3, 4, 5, 6, 7, 8, 9, 10, 11, 12, 13, 14, 15, 16, 17], [0, 4]), ([18, 17, 16, 0, 1, 2, 3, 4, 5, 6, 7, 8, 9, 10, 11, 12, 13, 14, 15, 16, 17], [17, 18])])
def spec_l01Order.B17 : List Nat := [0, 0, 0, 6, 14, 0, 0, 0, 192, 448, 992, 2016, 0, 0, 12288, 28672, 61440, 131040, 262143, 524287]
theorem spec_l01Order.tab17 : rtab .any (opsOf Tryd.f48 17) = spec_l01Order.T17 := by kernel_rfl
theorem spec_l01Order.bits17 : waitsOk spec_l01Order.T17.2 spec_l01Order.B17 = true := by kernel_rfl
def spec_l01Order.T25 : Bool × List (List Nat × List Nat) := (true, [([], []), ([], []), ([], []), ([], []), ([3], [3]), ([], []), ([5, 4], [5]), ([], []), ([], []), ([7, 8], [7, 8]), ([9], [9]), ([], []), ([11, 6], [11]), ([10, 12], [10, 12]), ([4, 6, 13], [4, 6, 13]), ([2, 14, 12], [2, 14]), ([0, 1, 0, 1, 2, 3, 4, 5, 6, 7, 8, 9, 10, 11, 12, 13, 14, 15], [0, 1]), ([16, 15, 15, 0, 1, 2, 3, 4, 5, 6, 7, 8, 9, 10, 11, 12, 13, 14, 15], [15, 16])])
def spec_l01Order.B25 : List Nat := [0, 0, 0, 0, 8, 0, 56, 0, 0, 384, 896, 0, 2168, 8184, 16376, 32764, 65535, 131071]
theorem spec_l01Order.tab25 : rtab .any (opsOf Tryd.f48 25) = spec_l01Order.T25 := by kernel_rfl
theorem spec_l01Order.bits25 : waitsOk spec_l01Order.T25.2 spec_l01Order.B25 = true := by kernel_rfl
set_option maxHeartbeats 8000000 in
set_option maxRecDepth 100000 in
theorem spec_l01Order.calls (k : Nat) (g : Nat) (s0_0 : List Int) (s0_1 : Int) (s0_2 : Int) (a1 : Int) (r1 : List Int) (r2 : Int) (r3 : Int) (w0 w : World) (hI : IsS61 w0 w g s0_0 s0_1 s0_2) (hB : Below w0.heap.size w0 w) (h : spec_l01Order.f k s0_0 s0_1 s0_2 a1 = some (r1, r2, r3)) :
  Calls Tryd.prog 48 #[.pointer (some ⟨g, 0, none⟩), .int .i64 a1] w fun e w' => ∃ v0_ : Value, e = .returned (v0_) ∧ Kd.R (Kd.int .i64) 2 w' w.heap.size (fun _ => True) v0_ r1 ∧ IsS61 w0 w' g s0_0 r2 r3 ∧ Below w0.heap.size w0 w' ∧ KeepBut w w' g none := by
 have HI0 := Aside0.mk hI; have HK := Aside0.mk (KeepBut.refl w g none); have HL := Aside0.mk hB.size; clear hI; have HW0 := Aside0.mk hB.size; have HB := Aside0.mk hB; clear hB
 have H : ((spec_l01Next.f s0_0 s0_1 s0_2 (wrap64 (a1 + 1))).bind fun bt644 => (spec_l01Order.l0 k bt644.1 (([] : List Int)) 0 s0_0 bt644.2.1 bt644.2.2)) = some (r1, r2, r3) := h
 clear h; replace H := Option.bind_eq_some_iff.mp H
 obtain ⟨⟨t644, t645, t646⟩, A30, H⟩ := H
 replace H : (spec_l01Order.l0 k t644 (([] : List Int)) 0 s0_0 t645 t646) = some (r1, r2, r3) := H
 have A3 := Aside0.mk A30; clear A30
 obtain ⟨y647, hy647⟩ : ∃ y_ : List Int, y_ = (([] : List Int)) := ⟨_, rfl⟩
 replace H : (spec_l01Order.l0 k t644 y647 0 s0_0 t645 t646) = some (r1, r2, r3) := by first | (rw [hy647]; with_reducible exact H) | (have H2_ := (Option.bind_some _ _).symm.trans H; rw [hy647]; with_reducible exact H2_) | (have H2_ := (Option.bind_some _ _).symm.trans H; with_reducible exact H2_) | with_reducible exact H | (rw [hy647]; exact H) | exact H
 have Ny647 := Aside0.mk hy647; clear hy647
 have H' := Aside0.mk H
 clear H
 go_enter Tryd.func48, Tryd.ntmps48
 go_wp2_with (first | ((with_reducible refine gate_callee (f := 40) rfl ?_); refine goesL_ (some 18) rfl rfl Tryd.func40 (by kernel_rfl) rfl #[.pointer (some ⟨g, 0, none⟩), .int .i64 (wrap64 (a1 + 1))] rfl lz ?_; (with_reducible refine (spec_l01Next.calls g s0_0 s0_1 s0_2 (wrap64 (a1 + 1)) t644 t645 t646 w0 _ ?side1 ?side2 A3.out).mono ?_); (case side1 => exact zQ09bx0); (case side2 => exact zQ09bx1); rintro e w4 ⟨rfl, hi, hb, hk⟩; refine ⟨_, rfl, ?_⟩; replace HK := Aside0.mk (KeepBut.trans (zQ09bx2) hk (.inl rfl)); replace HB := Aside0.mk (hb); replace HI0 := Aside0.mk (hi); (try clear hb); (try clear hb2); (try clear hk); (try clear hi); (try clear hgw_)) | ((with_reducible refine gate_dst (N := 19) rfl ?_); refine Kd.R_lit (Kd.int .i64) _ 2 ?hg (N := 19) ?hd (xs := ([] : List Int)) (inner := []) (ok := fun _ => True) (okp := fun _ => True) ?hr ?hp (fun _ hk => hk) trivial (Below.refl _ _) (Nat.le_refl _) (by simp) ?_; (case hd => rfl); (case hg => rfl); (case hr => first | (go_simp; done) | (go_simp; rfl)); (case hp => exact (Reps.none _ _)); intro v648 w5 ho6 hb hg_ hnew_; clear hg_ hnew_; (first | rw [← Ny647.out] at ho6 | (simp only [Int.reduceToNat] at ho6; rw [← Ny647.out] at ho6)); have HO649 := Aside0.mk (Kd.R_lower ho6 (keep_size (w := w) (g := g) (row := none) (zQ09bx2))); replace HK := Aside0.mk (KeepBut.trans (zQ09bx2) (KeepBut.of_below hb g none) (.inl rfl)); replace HB := Aside0.mk (below_step (zQ09bx1) hb); replace HI0 := Aside0.mk (IsS61.below (zQ09bx0) hb); clear hb ho6))
 go_loopg [6, 7] k (fun kq v6 v7 w' => ∃ (x6_1 : List Int) (x7_1 : Int) (x1001_1 : Int) (x1002_1 : Int), v7 = .int .i64 x7_1 ∧ Aside0 (spec_l01Order.l0 kq t644 x6_1 x7_1 s0_0 x1001_1 x1002_1 = some (r1, r2, r3)) ∧ Aside0 (kq ≤ k) ∧ Aside0 (Kd.R (Kd.int .i64) 2 w' w.heap.size (fun _ => True) v6 x6_1) ∧ Aside0 (IsS61 w0 w' g s0_0 x1001_1 x1002_1) ∧ Aside0 (KeepBut w w' g none) ∧ Aside0 (Below w0.heap.size w0 w'))
 case atStart => exact ⟨(y647), (0), (t645), (t646), sz, H', ⟨Nat.le_refl _⟩, ⟨kdQ HO649⟩, ⟨zQ09bx0⟩, ⟨zQ09bx2⟩, ⟨zQ09bx1⟩⟩
 case round =>
  clear H'
  try clear p2
  try clear c4
  try clear p6
  obtain ⟨x6_1, x7_1, x1001_1, x1002_1, rfl, HA, HK1, HO_6, HI0, HK, HB⟩ := hrel
  cases gk with
  | zero => exact absurd HA.out (by simp [spec_l01Order.l0])
  | succ k1 =>
   have H := HA.out; clear HA
   simp only [spec_l01Order.l0] at H
   by_cases c7 : x7_1 < t644
   ·rw [if_pos c7] at H
    have c7b0 : decide (x7_1 < t644) = true := decide_eq_true c7
    clear c7; replace H := Option.bind_eq_some_iff.mp H
    obtain ⟨⟨t650, t651, t652⟩, A80, H⟩ := H
    replace H : (if 0 ≤ t650 then (if t650 ≤ (x6_1.length : Int) then ((spec_l01Own.f (x6_1.take (t650 : Int).toNat)).bind fun t657 => ((some (([x7_1] : List Int) : List Int)).bind fun y660 => (if t657.length + y660.length < 17592186044416 then ((some (t657 ++ y660 : List Int)).bind fun y663 => ((some (x6_1.drop (t650 : Int).toNat : List Int)).bind fun y666 => (if y663.length + y666.length < 17592186044416 then (spec_l01Order.l0 k1 t644 (y663 ++ y666) (wrap64 (x7_1 + 1)) s0_0 t651 t652) else (none)))) else (none)))) else (none)) else (none)) = some (r1, r2, r3) := H
    have A8 := Aside0.mk A80; clear A80
    by_cases c9 : 0 ≤ t650
    ·rw [if_pos c9] at H
     have c9b0 := eq_true c9
     have c9b1 : decide (0 ≤ t650) = true := decide_eq_true c9
     clear c9
     by_cases c10 : t650 ≤ (x6_1.length : Int)
     ·rw [if_pos c10] at H
      have c10b0 := eq_true c10
      have c10b1 : decide (t650 ≤ (x6_1.length : Int)) = true := decide_eq_true c10
      clear c10
      obtain ⟨y653, hy653⟩ : ∃ y_ : List Int, y_ = (x6_1.take (t650 : Int).toNat) := ⟨_, rfl⟩
      replace H : ((spec_l01Own.f y653).bind fun t657 => ((some (([x7_1] : List Int) : List Int)).bind fun y660 => (if t657.length + y660.length < 17592186044416 then ((some (t657 ++ y660 : List Int)).bind fun y663 => ((some (x6_1.drop (t650 : Int).toNat : List Int)).bind fun y666 => (if y663.length + y666.length < 17592186044416 then (spec_l01Order.l0 k1 t644 (y663 ++ y666) (wrap64 (x7_1 + 1)) s0_0 t651 t652) else (none)))) else (none)))) = some (r1, r2, r3) := by first | (rw [hy653]; with_reducible exact H) | (have H2_ := (Option.bind_some _ _).symm.trans H; rw [hy653]; with_reducible exact H2_) | (have H2_ := (Option.bind_some _ _).symm.trans H; with_reducible exact H2_) | with_reducible exact H | (rw [hy653]; exact H) | exact H
      have Ny653 := Aside0.mk hy653; clear hy653; replace H := Option.bind_eq_some_iff.mp H; obtain ⟨t657, A110, H⟩ := H
      replace H : ((some (([x7_1] : List Int) : List Int)).bind fun y660 => (if t657.length + y660.length < 17592186044416 then ((some (t657 ++ y660 : List Int)).bind fun y663 => ((some (x6_1.drop (t650 : Int).toNat : List Int)).bind fun y666 => (if y663.length + y666.length < 17592186044416 then (spec_l01Order.l0 k1 t644 (y663 ++ y666) (wrap64 (x7_1 + 1)) s0_0 t651 t652) else (none)))) else (none))) = some (r1, r2, r3) := H
      have A11 := Aside0.mk A110; clear A110
      obtain ⟨y660, hy660⟩ : ∃ y_ : List Int, y_ = (([x7_1] : List Int)) := ⟨_, rfl⟩
      replace H : (if t657.length + y660.length < 17592186044416 then ((some (t657 ++ y660 : List Int)).bind fun y663 => ((some (x6_1.drop (t650 : Int).toNat : List Int)).bind fun y666 => (if y663.length + y666.length < 17592186044416 then (spec_l01Order.l0 k1 t644 (y663 ++ y666) (wrap64 (x7_1 + 1)) s0_0 t651 t652) else (none)))) else (none)) = some (r1, r2, r3) := by first | (rw [hy660]; with_reducible exact H) | (have H2_ := (Option.bind_some _ _).symm.trans H; rw [hy660]; with_reducible exact H2_) | (have H2_ := (Option.bind_some _ _).symm.trans H; with_reducible exact H2_) | with_reducible exact H | (rw [hy660]; exact H) | exact H
      have Ny660 := Aside0.mk hy660; clear hy660
      by_cases c12 : t657.length + y660.length < 17592186044416
      ·rw [if_pos c12] at H
       have LMc12 := Aside0.mk c12; clear c12
       obtain ⟨y663, hy663⟩ : ∃ y_ : List Int, y_ = (t657 ++ y660) := ⟨_, rfl⟩
       replace H : ((some (x6_1.drop (t650 : Int).toNat : List Int)).bind fun y666 => (if y663.length + y666.length < 17592186044416 then (spec_l01Order.l0 k1 t644 (y663 ++ y666) (wrap64 (x7_1 + 1)) s0_0 t651 t652) else (none))) = some (r1, r2, r3) := by first | (rw [hy663]; with_reducible exact H) | (have H2_ := (Option.bind_some _ _).symm.trans H; rw [hy663]; with_reducible exact H2_) | (have H2_ := (Option.bind_some _ _).symm.trans H; with_reducible exact H2_) | with_reducible exact H | (rw [hy663]; exact H) | exact H
       have Ny663 := Aside0.mk hy663; clear hy663
       have c13b0 := eq_true (of_decide_eq_true (by first | (with_reducible assumption) | assumption) : 0 ≤ t650)
       have c14b0 := eq_true (of_decide_eq_true (by first | (with_reducible assumption) | assumption) : t650 ≤ (x6_1.length : Int))
       obtain ⟨y666, hy666⟩ : ∃ y_ : List Int, y_ = (x6_1.drop (t650 : Int).toNat) := ⟨_, rfl⟩
       replace H : (if y663.length + y666.length < 17592186044416 then (spec_l01Order.l0 k1 t644 (y663 ++ y666) (wrap64 (x7_1 + 1)) s0_0 t651 t652) else (none)) = some (r1, r2, r3) := by first | (rw [hy666]; with_reducible exact H) | (have H2_ := (Option.bind_some _ _).symm.trans H; rw [hy666]; with_reducible exact H2_) | (have H2_ := (Option.bind_some _ _).symm.trans H; with_reducible exact H2_) | with_reducible exact H | (rw [hy666]; exact H) | exact H
       have Ny666 := Aside0.mk hy666; clear hy666
       by_cases c15 : y663.length + y666.length < 17592186044416
       ·rw [if_pos c15] at H
        have LMc15 := Aside0.mk c15; clear c15
        obtain ⟨y670, hy670⟩ : ∃ y_ : List Int, y_ = (y663 ++ y666) := ⟨_, rfl⟩
        replace H : (spec_l01Order.l0 k1 t644 y670 (wrap64 (x7_1 + 1)) s0_0 t651 t652) = some (r1, r2, r3) := by first | (rw [hy670]; with_reducible exact H) | (have H2_ := (Option.bind_some _ _).symm.trans H; rw [hy670]; with_reducible exact H2_) | (have H2_ := (Option.bind_some _ _).symm.trans H; with_reducible exact H2_) | with_reducible exact H | (rw [hy670]; exact H) | exact H
        have Ny670 := Aside0.mk hy670; clear hy670
        have H' := Aside0.mk H
        clear H
        try go_wp2_with (first | ((with_reducible refine gate_callee (f := 40) rfl ?_); refine goesL_ (some 28) rfl rfl Tryd.func40 (by kernel_rfl) rfl #[.pointer (some ⟨g, 0, none⟩), .int .i64 (wrap64 (x7_1 + 1))] rfl lz ?_; (with_reducible refine (spec_l01Next.calls g s0_0 x1001_1 x1002_1 (wrap64 (x7_1 + 1)) t650 t651 t652 w0 _ ?side1 ?side2 A8.out).mono ?_); (case side1 => exact zQ09bx0); (case side2 => exact zQ09bx1); rintro e w16 ⟨rfl, hi, hb, hk⟩; refine ⟨_, rfl, ?_⟩; replace HO_6 := Aside0.mk (Kd.R_mono (Kd.R_keep (IsS61.apart (show IsS61 w0 _ g s0_0 x1001_1 x1002_1 from zQ09bx0) (kdQ HO_6) (by decide)) hk (fun _ h => h.2)) (fun _ h => h.1)); replace HK := Aside0.mk (KeepBut.trans (zQ09bx2) hk (.inl rfl)); replace HB := Aside0.mk (hb); replace HI0 := Aside0.mk (hi); (try clear hb); (try clear hb2); (try clear hk); (try clear hi); (try clear hgw_)))
        replace HO_6 := Aside0.mk (Kd.R_drew HO_6.out); replace HI0 := Aside0.mk (IsS61.drew HI0.out); replace HK := Aside0.mk (keep_drew HK.out); replace HB := Aside0.mk (below_drew1 HB.out); obtain ⟨Ao19, co19, eo19⟩ := Kd.R_slice HO_6.out
        (first | subst eo19 | (injection eo19 with f1_ f2_ f3_; have f4_ := f1_.symm; have f5_ := f3_.symm; clear f1_ f2_ f3_; subst f4_; subst f5_))
        have q18 : (t650 : Int) ≤ ((x6_1.length : Int) : Int) := of_decide_eq_true (by first | (with_reducible assumption) | assumption)
        obtain ⟨i018, hi018, _, hsz18, _⟩ := info_parts info2
        have hroom18 : x6_1.length ≤ co19 := (Kd.R_reads' HO_6.out).2.1
        have hC18 : Kd.C (Kd.int .i64) _ Ao19 x6_1.length x6_1 := (Kd.R_reads' HO_6.out).2.2
        have hcut18 := cut_to (P := Tryd.prog) 22 2 .i64 Tryd.underlying22 hi018 Ao19 x6_1.length co19 t650 (of_decide_eq_true (by first | (with_reducible assumption) | assumption)) q18 hroom18
        have hr18 := Kd.C_take (m := (t650 : Int).toNat) hC18 (by omega)
        have hy18 : y653.length = (t650 : Int).toNat := (by rw [Ny653.out, List.length_take]; omega)
        rw [← Ny653.out] at hr18; rw [← hy18] at hcut18; have HR656 := Aside0.mk hr18
        have HC656 := Aside0.mk (show y653.length ≤ co19 from by omega)
        clear hr18 hC18 hroom18 hi018 hsz18; have KY18 := Aside0.mk hy18; clear hy18
        have KL18 := Aside0.mk (show (t650 : Int).toNat ≤ x6_1.length from by omega)
        replace q18 := eq_true q18
        have q20 : (t650 : Int) ≤ ((x6_1.length : Int) : Int) := of_decide_eq_true (by first | (with_reducible assumption) | assumption)
        obtain ⟨i020, hi020, _, hsz20, _⟩ := info_parts info2
        have hroom20 : x6_1.length ≤ co19 := (Kd.R_reads' HO_6.out).2.1
        have hC20 : Kd.C (Kd.int .i64) _ Ao19 x6_1.length x6_1 := (Kd.R_reads' HO_6.out).2.2
        have q020 : (0 : Int) ≤ (t650 : Int) := of_decide_eq_true (by first | (with_reducible assumption) | assumption)
        have hcut20 := cut_from (P := Tryd.prog) 22 2 .i64 Tryd.underlying22 hi020 1 hsz20 Ao19 x6_1.length co19 t650 q020 q20
        have hr20 := Kd.C_drop (m := (t650 : Int).toNat) (c := co19) hC20 (by omega) hroom20
        obtain ⟨A20, hA20⟩ : ∃ A1, A1 = (if co19 = (t650 : Int).toNat then Ao19 else (Ao19 : Option Addr).map (·.add ((t650 : Int).toNat * 1))) := ⟨_, rfl⟩
        obtain ⟨c20, hc20⟩ : ∃ c1, c1 = co19 - (t650 : Int).toNat := ⟨_, rfl⟩
        have hy20 : y666.length = x6_1.length - (t650 : Int).toNat := (by rw [Ny666.out, List.length_drop] <;> omega)
        rw [show (x6_1).drop (t650 : Int).toNat = y666 from Ny666.out.symm] at hr20
        replace hr20 : Kd.C (Kd.int .i64) _ A20 y666.length y666 := (by rw [hA20]; exact hr20)
        rw [← hy20, ← hA20, ← hc20] at hcut20; have HR669 := Aside0.mk hr20
        have HC669 := Aside0.mk (show y666.length ≤ c20 from by rw [hy20, hc20]; exact Nat.sub_le_sub_right hroom20 _)
        clear hr20 hC20 hroom20 hi020 hsz20 hc20; have KY20 := Aside0.mk hy20; have KA20 := Aside0.mk hA20; clear hy20 hA20
        have KL20 := Aside0.mk (show (t650 : Int).toNat ≤ x6_1.length from by omega)
        replace q20 := eq_true q20
        refine start_ (n := 12) (S := fun w' => True) (ds := []) #[false, false, false, false, false, false, false, false, false, false, false, false] (by kernel_rfl) rfl rfl trivial (fun hHeld => ?_); refine with_tabW spec_l01Order.tab7 spec_l01Order.bits7 (fun HT_ HW_ => ?_)
        generalize w16.drew = w17 at HO_6 HI0 HK HB HR656 HR669 hHeld ⊢
        refine pure_ (i := 0) (N := some 29) (v := ?_) (a' := ?_) #[true, false, false, false, false, false, false, false, false, false, false, false] rfl rfl (any_of HT_.out (by kernel_rfl)) (fun _ _ _ h => h) (Or.inl ⟨by rfl, ?_⟩) ?_ ?_
        rotate_left
        ·intro w'
         go_simp
         with_reducible rfl
        rotate_left
        ·simp only [Act.put, s1, s2, s3, i64_w, i32_w]
         rfl
        refine pure_ (i := 1) (N := some 30) (v := ?_) (a' := ?_) #[true, true, false, false, false, false, false, false, false, false, false, false] rfl rfl (any_of HT_.out (by kernel_rfl)) (fun _ _ _ h => h) (Or.inl ⟨by rfl, ?_⟩) ?_ ?_
        rotate_left
        ·intro w'
         go_simp
         with_reducible rfl
        rotate_left
        ·simp only [Act.put, s1, s2, s3, i64_w, i32_w]
         rfl
        refine pure_ (i := 2) (N := some 31) (v := ?_) (a' := ?_) #[true, true, true, false, false, false, false, false, false, false, false, false] rfl rfl (any_of HT_.out (by kernel_rfl)) (fun _ _ _ h => h) (Or.inl ⟨by rfl, ?_⟩) ?_ ?_
        rotate_left
        ·intro w'
         go_simp
         with_reducible rfl
        rotate_left
        ·simp only [Act.put, s1, s2, s3, i64_w, i32_w]
         rfl
        refine pure_ (i := 4) (N := some 33) (v := ?_) (a' := ?_) #[true, true, true, false, true, false, false, false, false, false, false, false] rfl rfl (any_of HT_.out (by kernel_rfl)) (fun _ _ _ h => h) (Or.inl ⟨by rfl, ?_⟩) ?_ ?_
        rotate_left
        ·intro w'
         go_simp
         with_reducible rfl
        rotate_left
        ·simp only [Act.put, s1, s2, s3, i64_w, i32_w]
         rfl
        refine pure_ (i := 7) (N := some 36) (v := ?_) (a' := ?_) #[true, true, true, false, true, false, false, true, false, false, false, false] rfl rfl (any_of HT_.out (by kernel_rfl)) (fun _ _ _ h => h) (Or.inl ⟨by rfl, ?_⟩) ?_ ?_
        rotate_left
        ·intro w'
         go_simp
         with_reducible rfl
        rotate_left
        ·simp only [Act.put, s1, s2, s3, i64_w, i32_w]
         rfl
        refine pure_ (i := 8) (N := some 37) (v := ?_) (a' := ?_) #[true, true, true, false, true, false, false, true, true, false, false, false] rfl rfl (any_of HT_.out (by kernel_rfl)) (fun _ _ _ h => h) (Or.inl ⟨by rfl, ?_⟩) ?_ ?_
        rotate_left
        ·intro w'
         go_simp
         with_reducible rfl
        rotate_left
        ·simp only [Act.put, s1, s2, s3, i64_w, i32_w]
         rfl
        refine pure_ (i := 9) (N := some 38) (v := ?_) (a' := ?_) #[true, true, true, false, true, false, false, true, true, true, false, false] rfl rfl (any_of HT_.out (by kernel_rfl)) (fun _ _ _ h => h) (Or.inl ⟨by rfl, ?_⟩) ?_ ?_
        rotate_left
        ·intro w'
         go_simp
         with_reducible rfl
        rotate_left
        ·simp only [Act.put, s1, s2, s3, i64_w, i32_w]
         rfl
        refine join_ (σ := Value × Value) 3 #[true, true, true, true, true, true, false, true, true, true, false, false] (fun s_ => [(32, s_.1), (34, s_.2)]) (fun s_ w' => (Kd.R (Kd.int .i64) 2 w' w.heap.size (fun k_ => some k_ ≠ (s_.2 : Value).ownBlock ∧ some k_ ≠ (.slice Ao19 x6_1.length co19 : Value).ownBlock) s_.1 t657) ∧ (Kd.R (Kd.int .i64) 2 w' w.heap.size (fun k_ => some k_ ≠ (s_.1 : Value).ownBlock ∧ some k_ ≠ (.slice Ao19 x6_1.length co19 : Value).ownBlock) s_.2 y660) ∧ (Kd.R (Kd.int .i64) 2 w' w.heap.size (fun k_ => some k_ ≠ (s_.1 : Value).ownBlock ∧ some k_ ≠ (s_.2 : Value).ownBlock) (.slice Ao19 x6_1.length co19) x6_1) ∧ (IsS61 w0 w' g s0_0 t651 t652) ∧ (KeepBut w w' g none) ∧ (Below w0.heap.size w0 w')) ?_ ?_
        rotate_left
        ·intro hCont
         refine two_ (i := 3) (j := 5) (Ni := some 32) (Nj := some 34) #[true, true, true, true, true, false, false, true, true, true, false, false] #[true, true, true, false, true, true, false, true, true, true, false, false] rfl rfl rfl rfl (two_of HT_.out (by kernel_rfl)) (by decide) (by decide) (fun K hK => ?_) (fun K hK => ?_)
         ·skip
          refine goes_ Tryd.func67 (by kernel_rfl) rfl #[.slice Ao19 y653.length co19] (by rfl) rfl rfl lz ?_
          with_reducible refine (spec_l01Own.calls _ _ y653 t657 _ ?side1 ?side2 A11.out).mono ?_
          (case side1 => repeat (first | exact (by repeat (first | (with_reducible exact HR656.out) | (with_reducible refine Kd.C_alloc ?_ _) | (with_reducible refine Kd.C_drewN ?_ _) | (with_reducible refine Kd.C_drew ?_) | exact HR656.out)) | (with_reducible refine Kd.C_alloc ?_ _) | (with_reducible refine Kd.C_drewN ?_ _) | (with_reducible refine Kd.C_drew ?_)))
          (case side2 => exact HC656.out)
          rintro e w21 ⟨v658, rfl, ho0, hb⟩
          refine ⟨_, rfl, ?_⟩
          have HO659 := Aside0.mk (Kd.R_lower (Kd.R_new' ho0 (Kd.R_lt (kdQ HO_6))) (keep_size (w := w) (g := g) (row := none) (zQ09bx2)))
          replace HO_6 := Aside0.mk (Kd.R_elder' (kdQ HO_6) (Kd.R_base ho0) hb)
          replace HR656 := Aside0.mk (Kd.C_below (by repeat (first | (with_reducible exact HR656.out) | (with_reducible refine Kd.C_alloc ?_ _) | (with_reducible refine Kd.C_drewN ?_ _) | (with_reducible refine Kd.C_drew ?_) | exact HR656.out)) hb)
          replace HR669 := Aside0.mk (Kd.C_below (by repeat (first | (with_reducible exact HR669.out) | (with_reducible refine Kd.C_alloc ?_ _) | (with_reducible refine Kd.C_drewN ?_ _) | (with_reducible refine Kd.C_drew ?_) | exact HR669.out)) hb)
          replace HK := Aside0.mk (KeepBut.trans (zQ09bx2) (KeepBut.of_below hb g none) (.inl rfl))
          replace HB := Aside0.mk (below_step (zQ09bx1) hb)
          replace HI0 := Aside0.mk (IsS61.below (zQ09bx0) hb)
          (try clear hb)
          (try clear hb2)
          (try clear hk)
          (try clear hi)
          (try clear hgw_)
          (try clear ho0)
          refine hK.out _ _ trivial (fun hHeld => ?_)
          clear hK K
          refine norm_ (a' := ?_) ?_ ?_
          rotate_left
          ·show Act.put _ (some 32) _ = _
           simp only [Act.put, s1, s2, s3, i64_w, i32_w]
           rfl
          refine one_ (i := 5) (N := some 34) #[true, true, true, true, true, true, false, true, true, true, false, false] rfl rfl (one_of HT_.out (by kernel_rfl)) (by decide) (fun K hK => ?_)
          refine Kd.R_lit_step (Kd.int .i64) _ 2 ?hg (N := 34) ?hd (xs := ([x7_1] : List Int)) (inner := [.int .i64 x7_1]) (ok := fun _ => True) (okp := fun _ => True) ?hr ?hp (fun _ hk => hk) trivial (Below.refl _ _) (Nat.le_refl _) (by simp) ?_; (case hd => rfl); (case hg => rfl); (case hr => first | (go_simp; done) | (go_simp; rfl)); (case hp => exact (Reps.one (show Kd.M (Kd.int .i64) _ _ _ x7_1 [.int .i64 x7_1] from rfl) (Reps.none _ _)))
          intro v661 w22 ho23 hb hg_ hnew_
          clear hg_ hnew_
          (first | rw [← Ny660.out] at ho23 | (simp only [Int.reduceToNat] at ho23; rw [← Ny660.out] at ho23))
          have HO662 := Aside0.mk (Kd.R_lower (Kd.R_new' (Kd.R_new' ho23 (Kd.R_lt (kdQ HO_6))) (Kd.R_lt (kdQ HO659))) (keep_size (w := w) (g := g) (row := none) (zQ09bx2)))
          replace HO_6 := Aside0.mk (Kd.R_elder' (kdQ HO_6) (Kd.R_base ho23) hb); replace HO659 := Aside0.mk (Kd.R_elder' (kdQ HO659) (Kd.R_base ho23) hb)
          replace HR656 := Aside0.mk (Kd.C_below (by repeat (first | (with_reducible exact HR656.out) | (with_reducible refine Kd.C_alloc ?_ _) | (with_reducible refine Kd.C_drewN ?_ _) | (with_reducible refine Kd.C_drew ?_) | exact HR656.out)) hb)
          replace HR669 := Aside0.mk (Kd.C_below (by repeat (first | (with_reducible exact HR669.out) | (with_reducible refine Kd.C_alloc ?_ _) | (with_reducible refine Kd.C_drewN ?_ _) | (with_reducible refine Kd.C_drew ?_) | exact HR669.out)) hb)
          replace HK := Aside0.mk (KeepBut.trans (zQ09bx2) (KeepBut.of_below hb g none) (.inl rfl))
          replace HB := Aside0.mk (below_step (zQ09bx1) hb)
          replace HI0 := Aside0.mk (IsS61.below (zQ09bx0) hb)
          clear hb ho23
          refine hK.out _ _ trivial (fun hHeld => ?_)
          clear hK K
          refine norm_ (a' := ?_) ?_ ?_
          rotate_left
          ·show Act.put _ (some 34) _ = _
           simp only [Act.put, s1, s2, s3, i64_w, i32_w]
           rfl
          exact norm_ (by simp only [putAll, Act.put, List.setIfInBounds_toArray, List.set_cons_zero, List.set_cons_succ]) (hCont (v658, v661) _ ⟨(by (with_reducible repeat (first | apply Kd.R_alloc | apply Kd.R_drewN | apply Kd.R_drew)); exact Kd.R_mono HO659.out (fun _ hk => ⟨hk.2, hk.1.2⟩)), (by (with_reducible repeat (first | apply Kd.R_alloc | apply Kd.R_drewN | apply Kd.R_drew)); exact Kd.R_mono HO662.out (fun _ hk => ⟨hk.2, hk.1.2⟩)), (by (with_reducible repeat (first | apply Kd.R_alloc | apply Kd.R_drewN | apply Kd.R_drew)); exact Kd.R_mono HO_6.out (fun _ hk => ⟨hk.1.2, hk.2⟩)), (zQ09bx0), (zQ09bx2), (zQ09bx1)⟩)
         ·skip
          refine Kd.R_lit_step (Kd.int .i64) _ 2 ?hg (N := 34) ?hd (xs := ([x7_1] : List Int)) (inner := [.int .i64 x7_1]) (ok := fun _ => True) (okp := fun _ => True) ?hr ?hp (fun _ hk => hk) trivial (Below.refl _ _) (Nat.le_refl _) (by simp) ?_; (case hd => rfl); (case hg => rfl); (case hr => first | (go_simp; done) | (go_simp; rfl)); (case hp => exact (Reps.one (show Kd.M (Kd.int .i64) _ _ _ x7_1 [.int .i64 x7_1] from rfl) (Reps.none _ _)))
          intro v661 w21 ho22 hb hg_ hnew_
          clear hg_ hnew_
          (first | rw [← Ny660.out] at ho22 | (simp only [Int.reduceToNat] at ho22; rw [← Ny660.out] at ho22))
          have HO662 := Aside0.mk (Kd.R_lower (Kd.R_new' ho22 (Kd.R_lt (kdQ HO_6))) (keep_size (w := w) (g := g) (row := none) (zQ09bx2)))
          replace HO_6 := Aside0.mk (Kd.R_elder' (kdQ HO_6) (Kd.R_base ho22) hb)
          replace HR656 := Aside0.mk (Kd.C_below (by repeat (first | (with_reducible exact HR656.out) | (with_reducible refine Kd.C_alloc ?_ _) | (with_reducible refine Kd.C_drewN ?_ _) | (with_reducible refine Kd.C_drew ?_) | exact HR656.out)) hb)
          replace HR669 := Aside0.mk (Kd.C_below (by repeat (first | (with_reducible exact HR669.out) | (with_reducible refine Kd.C_alloc ?_ _) | (with_reducible refine Kd.C_drewN ?_ _) | (with_reducible refine Kd.C_drew ?_) | exact HR669.out)) hb)
          replace HK := Aside0.mk (KeepBut.trans (zQ09bx2) (KeepBut.of_below hb g none) (.inl rfl))
          replace HB := Aside0.mk (below_step (zQ09bx1) hb)
          replace HI0 := Aside0.mk (IsS61.below (zQ09bx0) hb)
          clear hb ho22
          refine hK.out _ _ trivial (fun hHeld => ?_)
          clear hK K
          refine norm_ (a' := ?_) ?_ ?_
          rotate_left
          ·show Act.put _ (some 34) _ = _
           simp only [Act.put, s1, s2, s3, i64_w, i32_w]
           rfl
          refine one_ (i := 3) (N := some 32) #[true, true, true, true, true, true, false, true, true, true, false, false] rfl rfl (one_of HT_.out (by kernel_rfl)) (by decide) (fun K hK => ?_)
          refine goes_ Tryd.func67 (by kernel_rfl) rfl #[.slice Ao19 y653.length co19] (by rfl) rfl rfl lz ?_
          with_reducible refine (spec_l01Own.calls _ _ y653 t657 _ ?side1 ?side2 A11.out).mono ?_
          (case side1 => repeat (first | exact (by repeat (first | (with_reducible exact HR656.out) | (with_reducible refine Kd.C_alloc ?_ _) | (with_reducible refine Kd.C_drewN ?_ _) | (with_reducible refine Kd.C_drew ?_) | exact HR656.out)) | (with_reducible refine Kd.C_alloc ?_ _) | (with_reducible refine Kd.C_drewN ?_ _) | (with_reducible refine Kd.C_drew ?_)))
          (case side2 => exact HC656.out)
          rintro e w23 ⟨v658, rfl, ho0, hb⟩
          refine ⟨_, rfl, ?_⟩
          have HO659 := Aside0.mk (Kd.R_lower (Kd.R_new' (Kd.R_new' ho0 (Kd.R_lt (kdQ HO_6))) (Kd.R_lt (kdQ HO662))) (keep_size (w := w) (g := g) (row := none) (zQ09bx2)))
          replace HO_6 := Aside0.mk (Kd.R_elder' (kdQ HO_6) (Kd.R_base ho0) hb); replace HO662 := Aside0.mk (Kd.R_elder' (kdQ HO662) (Kd.R_base ho0) hb)
          replace HR656 := Aside0.mk (Kd.C_below (by repeat (first | (with_reducible exact HR656.out) | (with_reducible refine Kd.C_alloc ?_ _) | (with_reducible refine Kd.C_drewN ?_ _) | (with_reducible refine Kd.C_drew ?_) | exact HR656.out)) hb)
          replace HR669 := Aside0.mk (Kd.C_below (by repeat (first | (with_reducible exact HR669.out) | (with_reducible refine Kd.C_alloc ?_ _) | (with_reducible refine Kd.C_drewN ?_ _) | (with_reducible refine Kd.C_drew ?_) | exact HR669.out)) hb)
          replace HK := Aside0.mk (KeepBut.trans (zQ09bx2) (KeepBut.of_below hb g none) (.inl rfl))
          replace HB := Aside0.mk (below_step (zQ09bx1) hb)
          replace HI0 := Aside0.mk (IsS61.below (zQ09bx0) hb)
          (try clear hb)
          (try clear hb2)
          (try clear hk)
          (try clear hi)
          (try clear hgw_)
          (try clear ho0)
          refine hK.out _ _ trivial (fun hHeld => ?_)
          clear hK K
          refine norm_ (a' := ?_) ?_ ?_
          rotate_left
          ·show Act.put _ (some 32) _ = _
           simp only [Act.put, s1, s2, s3, i64_w, i32_w]
           rfl
          exact norm_ (by simp only [putAll, Act.put, List.setIfInBounds_toArray, List.set_cons_zero, List.set_cons_succ]) (hCont (v658, v661) _ ⟨(by (with_reducible repeat (first | apply Kd.R_alloc | apply Kd.R_drewN | apply Kd.R_drew)); exact Kd.R_mono HO659.out (fun _ hk => ⟨hk.2, hk.1.2⟩)), (by (with_reducible repeat (first | apply Kd.R_alloc | apply Kd.R_drewN | apply Kd.R_drew)); exact Kd.R_mono HO662.out (fun _ hk => ⟨hk.2, hk.1.2⟩)), (by (with_reducible repeat (first | apply Kd.R_alloc | apply Kd.R_drewN | apply Kd.R_drew)); exact Kd.R_mono HO_6.out (fun _ hk => ⟨hk.2, hk.1.2⟩)), (zQ09bx0), (zQ09bx2), (zQ09bx1)⟩)
        rintro ⟨v658, v661⟩ w24 ⟨h0_, h1_, h2_, h3_, h4_, h5_⟩
        have n0_ : Aside0 (Kd.R (Kd.int .i64) 2 w24 w.heap.size (fun k_ => some k_ ≠ (v661 : Value).ownBlock ∧ some k_ ≠ (.slice Ao19 x6_1.length co19 : Value).ownBlock) v658 t657) := ⟨h0_⟩
        have n1_ : Aside0 (Kd.R (Kd.int .i64) 2 w24 w.heap.size (fun k_ => some k_ ≠ (v658 : Value).ownBlock ∧ some k_ ≠ (.slice Ao19 x6_1.length co19 : Value).ownBlock) v661 y660) := ⟨h1_⟩
        have n2_ : Aside0 (Kd.R (Kd.int .i64) 2 w24 w.heap.size (fun k_ => some k_ ≠ (v658 : Value).ownBlock ∧ some k_ ≠ (v661 : Value).ownBlock) (.slice Ao19 x6_1.length co19) x6_1) := ⟨h2_⟩
        have n3_ : Aside0 (IsS61 w0 w24 g s0_0 t651 t652) := ⟨h3_⟩
        have n4_ : Aside0 (KeepBut w w24 g none) := ⟨h4_⟩
        have n5_ : Aside0 (Below w0.heap.size w0 w24) := ⟨h5_⟩
        clear HO_6; clear HI0; clear HK; clear HB; clear h0_ h1_ h2_ h3_ h4_ h5_; have HO659 := n0_; have HO662 := n1_; have HO_6 := n2_; have HI0 := n3_; have HK := n4_; have HB := n5_; clear n0_ n1_ n2_ n3_ n4_ n5_; have hHeld := trivial
        have HR656 := Aside0.mk (show Kd.C (Kd.int .i64) w24 Ao19 y653.length y653 from by rw [Ny653.out]; exact Kd.C_take (m := (t650 : Int).toNat) ((Kd.R_reads' HO_6.out).2.2) KL18.out)
        have HR669 := Aside0.mk (show Kd.C (Kd.int .i64) w24 A20 y666.length y666 from by rw [Ny666.out, KA20.out]; exact Kd.C_drop (m := (t650 : Int).toNat) (c := co19) ((Kd.R_reads' HO_6.out).2.2) KL20.out ((Kd.R_reads' HO_6.out).2.1))
        obtain ⟨Ao26, co26, eo26⟩ := Kd.R_slice HO662.out
        (first | subst eo26 | (injection eo26 with f1_ f2_ f3_; have f4_ := f1_.symm; have f5_ := f3_.symm; clear f1_ f2_ f3_; subst f4_; subst f5_))
        refine norm_ (a' := ?_) ?_ ?_
        rotate_left
        ·simp only [putAll, Act.put, List.setIfInBounds_toArray, List.set_cons_zero, List.set_cons_succ]
         rfl
        refine one_ (i := 6) (N := some 35) #[true, true, true, true, true, true, true, true, true, true, false, false] rfl rfl (one_of HT_.out (by kernel_rfl)) (by decide) (fun K hK => ?_)
        refine Kd.R_append_rows_step (Kd.int .i64) w.heap.size (by rfl) (.tmp 32) (.tmp 34) 22 2 (.int .i64 0) 8 rfl Tryd.underlying22 info2 rfl (by decide) (by omega) v658 t657 y660 _ _ _ (fun k_ => some k_ ≠ (.slice Ao19 x6_1.length co19 : Value).ownBlock ∧ some k_ ≠ (.slice Ao26 y660.length co26 : Value).ownBlock) (fun _ => False) rfl rfl ?aO ?aR (fun _ _ h => h) (fun _ h => h.elim) ?aF (Below.refl _ _) ?aS ?aL ?_
        (case aR => repeat (first | exact (Kd.R_reads' HO662.out).2.2 | (with_reducible refine Kd.C_alloc ?_ _) | (with_reducible refine Kd.C_drewN ?_ _) | (with_reducible refine Kd.C_drew ?_)))
        (case aF => exact (fun k_ hk => ⟨Kd.fresh' (Kd.R_lt (kdQ HO_6)) k_ hk, Kd.fresh' (Kd.R_lt (kdQ HO662)) k_ hk⟩))
        (case aO => exact (by (with_reducible repeat (first | apply Kd.R_alloc | apply Kd.R_drewN | apply Kd.R_drew)); exact Kd.R_mono HO659.out (fun _ hk => ⟨hk.2, hk.1⟩)))
        (case aS => exact (keep_size (w := w) (g := g) (row := none) (zQ09bx2)))
        (case aL => have := LMc12.out; omega)
        intro v664 w25 ho hb hg hat
        rw [← Ny663.out] at ho
        have n0_ := Aside0.mk (Kd.R_after (ok := (fun k_ => some k_ ≠ (.slice Ao26 y660.length co26 : Value).ownBlock)) (by (with_reducible repeat (first | apply Kd.R_alloc | apply Kd.R_drewN | apply Kd.R_drew)); exact Kd.R_mono HO_6.out (fun _ hk => ⟨hk.2, hk.1⟩)) hg hat)
        have n1_ := Aside0.mk (IsS61.grown (zQ09bx0) hg (IsS61.own_ne HI0.out HO659.out (by decide)))
        have n2_ := Aside0.mk (Kd.R_after (ok := (fun k_ => some k_ ≠ (.slice Ao19 x6_1.length co19 : Value).ownBlock)) (by (with_reducible repeat (first | apply Kd.R_alloc | apply Kd.R_drewN | apply Kd.R_drew)); exact Kd.R_mono HO662.out (fun _ hk => ⟨hk.2, hk.1⟩)) hg hat)
        have n3_ := Aside0.mk (below_weaken (zQ09bx1) HL.out hb)
        have n4_ := Aside0.mk (KeepBut.trans (zQ09bx2) (KeepBut.of_grown hg g) (Kd.R_base2 HO659.out))
        have n5_ := Aside0.mk ((show Kd.C (Kd.int .i64) w25 Ao19 y653.length y653 from by rw [Ny653.out]; exact Kd.C_take (m := (t650 : Int).toNat) ((Kd.R_reads' (Kd.R_after (ok := (fun k_ => some k_ ≠ (.slice Ao26 y660.length co26 : Value).ownBlock)) (by (with_reducible repeat (first | apply Kd.R_alloc | apply Kd.R_drewN | apply Kd.R_drew)); exact Kd.R_mono HO_6.out (fun _ hk => ⟨hk.2, hk.1⟩)) hg hat)).2.2) KL18.out))
        have n6_ := Aside0.mk ((show Kd.C (Kd.int .i64) w25 A20 y666.length y666 from by rw [Ny666.out, KA20.out]; exact Kd.C_drop (m := (t650 : Int).toNat) (c := co19) ((Kd.R_reads' (Kd.R_after (ok := (fun k_ => some k_ ≠ (.slice Ao26 y660.length co26 : Value).ownBlock)) (by (with_reducible repeat (first | apply Kd.R_alloc | apply Kd.R_drewN | apply Kd.R_drew)); exact Kd.R_mono HO_6.out (fun _ hk => ⟨hk.2, hk.1⟩)) hg hat)).2.2) KL20.out ((Kd.R_reads' (Kd.R_after (ok := (fun k_ => some k_ ≠ (.slice Ao26 y660.length co26 : Value).ownBlock)) (by (with_reducible repeat (first | apply Kd.R_alloc | apply Kd.R_drewN | apply Kd.R_drew)); exact Kd.R_mono HO_6.out (fun _ hk => ⟨hk.2, hk.1⟩)) hg hat)).2.1)))
        have n7_ := Aside0.mk (ho); clear HO_6; clear HI0; clear HO662; clear HB; clear HK; clear HR656; clear HR669; clear HO659; have HO_6 := n0_; have HI0 := n1_; have HO662 := n2_; have HB := n3_; have HK := n4_; have HR656 := n5_; have HR669 := n6_; have HO665 := n7_; clear n0_ n1_ n2_ n3_ n4_ n5_ n6_ n7_; clear ho hb hg hat
        refine hK.out _ _ trivial (fun hHeld => ?_)
        clear hK K
        refine norm_ (a' := ?_) ?_ ?_
        rotate_left
        ·show Act.put _ (some 35) _ = _
         simp only [Act.put, s1, s2, s3, i64_w, i32_w]
         rfl
        refine one_ (i := 10) (N := some 39) #[true, true, true, true, true, true, true, true, true, true, true, false] rfl rfl (one_of HT_.out (by kernel_rfl)) (by decide) (fun K hK => ?_)
        refine Kd.R_append_rows_step (Kd.int .i64) w.heap.size (by rfl) (.tmp 35) (.tmp 38) 22 2 (.int .i64 0) 8 rfl Tryd.underlying22 info2 rfl (by decide) (by omega) v664 y663 y666 _ _ _ (fun k_ => some k_ ≠ (.slice Ao19 x6_1.length co19 : Value).ownBlock ∧ some k_ ≠ (.slice Ao26 y660.length co26 : Value).ownBlock) (fun _ => False) rfl rfl ?aO ?aR (fun _ _ h => h) (fun _ h => h.elim) ?aF (Below.refl _ _) ?aS ?aL ?_
        (case aR => repeat (first | exact (by repeat (first | (with_reducible exact HR669.out) | (with_reducible refine Kd.C_alloc ?_ _) | (with_reducible refine Kd.C_drewN ?_ _) | (with_reducible refine Kd.C_drew ?_) | exact HR669.out)) | (with_reducible refine Kd.C_alloc ?_ _) | (with_reducible refine Kd.C_drewN ?_ _) | (with_reducible refine Kd.C_drew ?_)))
        (case aF => exact (fun k_ hk => ⟨Kd.fresh' (Kd.R_lt (kdQ HO_6)) k_ hk, Kd.fresh' (Kd.R_lt (kdQ HO662)) k_ hk⟩))
        (case aO => exact (kdQ HO665))
        (case aS => exact (keep_size (w := w) (g := g) (row := none) (zQ09bx2)))
        (case aL => have := LMc15.out; omega)
        intro v671 w27 ho hb hg hat
        rw [← Ny670.out] at ho; have n0_ := Aside0.mk (Kd.R_after (ok := (fun k_ => some k_ ≠ (.slice Ao26 y660.length co26 : Value).ownBlock)) (kdQ HO_6) hg hat)
        have n1_ := Aside0.mk (IsS61.grown (zQ09bx0) hg (IsS61.own_ne HI0.out HO665.out (by decide)))
        have n2_ := Aside0.mk (Kd.R_after (ok := (fun k_ => some k_ ≠ (.slice Ao19 x6_1.length co19 : Value).ownBlock)) (kdQ HO662) hg hat)
        have n3_ := Aside0.mk (below_weaken (zQ09bx1) HL.out hb)
        have n4_ := Aside0.mk (KeepBut.trans (zQ09bx2) (KeepBut.of_grown hg g) (Kd.R_base2 HO665.out))
        have n5_ := Aside0.mk ((show Kd.C (Kd.int .i64) w27 Ao19 y653.length y653 from by rw [Ny653.out]; exact Kd.C_take (m := (t650 : Int).toNat) ((Kd.R_reads' (Kd.R_after (ok := (fun k_ => some k_ ≠ (.slice Ao26 y660.length co26 : Value).ownBlock)) (kdQ HO_6) hg hat)).2.2) KL18.out))
        have n6_ := Aside0.mk ((show Kd.C (Kd.int .i64) w27 A20 y666.length y666 from by rw [Ny666.out, KA20.out]; exact Kd.C_drop (m := (t650 : Int).toNat) (c := co19) ((Kd.R_reads' (Kd.R_after (ok := (fun k_ => some k_ ≠ (.slice Ao26 y660.length co26 : Value).ownBlock)) (kdQ HO_6) hg hat)).2.2) KL20.out ((Kd.R_reads' (Kd.R_after (ok := (fun k_ => some k_ ≠ (.slice Ao26 y660.length co26 : Value).ownBlock)) (kdQ HO_6) hg hat)).2.1)))
        have n7_ := Aside0.mk (ho); clear HO_6; clear HI0; clear HO662; clear HB; clear HK; clear HR656; clear HR669; clear HO665; have HO_6 := n0_; have HI0 := n1_; have HO662 := n2_; have HB := n3_; have HK := n4_; have HR656 := n5_; have HR669 := n6_; have HO672 := n7_; clear n0_ n1_ n2_ n3_ n4_ n5_ n6_ n7_; clear ho hb hg hat
        refine hK.out _ _ trivial (fun hHeld => ?_)
        clear hK K
        refine norm_ (a' := ?_) ?_ ?_
        rotate_left
        ·show Act.put _ (some 39) _ = _
         simp only [Act.put, s1, s2, s3, i64_w, i32_w]
         rfl
        refine pure_ (i := 11) (N := some 6) (v := ?_) (a' := ?_) #[true, true, true, true, true, true, true, true, true, true, true, true] rfl rfl (any_of HT_.out (by kernel_rfl)) (fun _ _ _ h => h) (Or.inl ⟨by rfl, ?_⟩) ?_ ?_
        rotate_left
        ·intro w'
         go_simp
         with_reducible rfl
        rotate_left
        ·simp only [Act.put, s1, s2, s3, i64_w, i32_w]
         rfl
        refine done_ (done_of HT_.out (by kernel_rfl)) ?_
        try go_wp2
        go_roundg k1
        case measure => have := HK1.out; omega
        case rel => exact ⟨(y670), (wrap64 (x7_1 + 1)), (t651), (t652), sz, H', ⟨by have := HK1.out; omega⟩, ⟨by (with_reducible repeat (first | apply Kd.R_alloc | apply Kd.R_drewN | apply Kd.R_drew)); exact Kd.R_mono HO672.out (fun _ hk => trivial)⟩, ⟨zQ09bx0⟩, ⟨zQ09bx2⟩, ⟨zQ09bx1⟩⟩
       ·rw [if_neg c15] at H
        exact absurd H (by simp)
      ·rw [if_neg c12] at H
       exact absurd H (by simp)
     ·rw [if_neg c10] at H
      exact absurd H (by simp)
    ·rw [if_neg c9] at H
     exact absurd H (by simp)
   ·rw [if_neg c7] at H
    have c7b0 : decide (x7_1 < t644) = false := decide_eq_false c7
    clear c7
    by_cases c28 : 0 ≤ t644
    ·rw [if_pos c28] at H
     have c28b0 := eq_true c28
     have c28b1 : decide (0 ≤ t644) = true := decide_eq_true c28
     clear c28
     by_cases c29 : (t644 : Int).toNat ≤ 35184372088832
     ·rw [if_pos c29] at H
      have c29b0 := eq_true c29
      have c29b1 : decide ((t644 : Int).toNat ≤ 35184372088832) = true := decide_eq_true c29
      clear c29
      obtain ⟨y673, hy673⟩ : ∃ y_ : List Int, y_ = (List.replicate (t644 : Int).toNat 0) := ⟨_, rfl⟩
      replace H : (spec_l01Order.l1 k1 t644 x6_1 y673 0 s0_0 x1001_1 x1002_1) = some (r1, r2, r3) := by first | (rw [hy673]; with_reducible exact H) | (have H2_ := (Option.bind_some _ _).symm.trans H; rw [hy673]; with_reducible exact H2_) | (have H2_ := (Option.bind_some _ _).symm.trans H; with_reducible exact H2_) | with_reducible exact H | (rw [hy673]; exact H) | exact H
      have Ny673 := Aside0.mk hy673; clear hy673
      have H' := Aside0.mk H
      clear H
      go_wp2_with (first | ((with_reducible refine gate_dst (N := 41) rfl ?_); refine Kd.R_make (Kd.int .i64) _ 2 rfl (N := 41) rfl 22 _ _ rfl t644 rfl rfl Tryd.underlying22 (.int .i64 0) 8 info2 rfl (by decide) (by omega) 0 (ok := fun _ => True) (okp := fun _ => True) rfl (fun _ hk => hk) trivial (of_decide_eq_true (by first | (with_reducible assumption) | assumption)) (Nat.le_trans (Nat.mul_le_mul_right _ (of_decide_eq_true (by first | (with_reducible assumption) | assumption) : t644.toNat ≤ 35184372088832)) (by omega)) (Below.refl _ _) (Nat.le_refl _) ?_; intro v674 w30 ho31 hb hg_ hnew_; clear hg_ hnew_; (first | rw [← Ny673.out] at ho31 | (simp only [Int.reduceToNat] at ho31; rw [← Ny673.out] at ho31)); have HO675 := Aside0.mk (Kd.R_lower (Kd.R_new' ho31 (Kd.R_lt (kdQ HO_6))) (keep_size (w := w) (g := g) (row := none) (zQ09bx2))); replace HO_6 := Aside0.mk (Kd.R_elder' (kdQ HO_6) (Kd.R_base ho31) hb); replace HK := Aside0.mk (KeepBut.trans (zQ09bx2) (KeepBut.of_below hb g none) (.inl rfl)); replace HB := Aside0.mk (below_step (zQ09bx1) hb); replace HI0 := Aside0.mk (IsS61.below (zQ09bx0) hb); clear hb ho31))
      go_loopg [10] k1 (fun kq v10 w' => ∃ (x9_2 : List Int) (x10_2 : Int) (x1001_2 : Int) (x1002_2 : Int), v10 = .int .i64 x10_2 ∧ Aside0 (spec_l01Order.l1 kq t644 x6_1 x9_2 x10_2 s0_0 x1001_2 x1002_2 = some (r1, r2, r3)) ∧ Aside0 (kq ≤ k1) ∧ Aside0 (Kd.R (Kd.int .i64) 2 w' w.heap.size (fun k_ => some k_ ≠ (v674 : Value).ownBlock) u6 x6_1) ∧ Aside0 (Kd.R (Kd.int .i64) 2 w' w.heap.size (fun k_ => some k_ ≠ (u6 : Value).ownBlock) v674 x9_2) ∧ Aside0 (IsS61 w0 w' g s0_0 x1001_2 x1002_2) ∧ Aside0 (KeepBut w w' g none) ∧ Aside0 (Below w0.heap.size w0 w'))
      case atStart => exact ⟨(y673), (0), (x1001_1), (x1002_1), sz, H', ⟨Nat.le_refl _⟩, ⟨by (with_reducible repeat (first | apply Kd.R_alloc | apply Kd.R_drewN | apply Kd.R_drew)); exact Kd.R_mono HO_6.out (fun _ hk => hk.2)⟩, ⟨by (with_reducible repeat (first | apply Kd.R_alloc | apply Kd.R_drewN | apply Kd.R_drew)); exact Kd.R_mono HO675.out (fun _ hk => hk.2)⟩, ⟨zQ09bx0⟩, ⟨zQ09bx2⟩, ⟨zQ09bx1⟩⟩
      case round =>
       clear H'
       try clear c1
       try clear q1
       try clear c2
       try clear p2
       try clear q2
       try clear c4
       try clear c6
       try clear p6
       try clear c7
       try clear c7b0
       try clear c9
       try clear c9b0
       try clear c9b1
       try clear c10
       try clear c10b0
       try clear c10b1
       try clear c12
       try clear c13
       try clear c13b0
       try clear c14
       try clear c14b0
       try clear c15
       try clear q18
       try clear c20
       try clear q20
       try clear c28
       try clear c28b0
       try clear c28b1
       try clear c29
       try clear c29b0
       try clear c29b1
       try clear p2
       try clear p6
       try clear q020
       try clear q18
       try clear q20
       obtain ⟨x9_2, x10_2, x1001_2, x1002_2, rfl, HA, HK2, HO_6, HO_9, HI0, HK, HB⟩ := hrel
       cases gk with
       | zero => exact absurd HA.out (by simp [spec_l01Order.l1])
       | succ k2 =>
        have H := HA.out; clear HA
        simp only [spec_l01Order.l1] at H
        by_cases c32 : x10_2 < t644
        ·rw [if_pos c32] at H
         have c32b0 : decide (x10_2 < t644) = true := decide_eq_true c32
         clear c32
         by_cases c33 : 0 ≤ x10_2
         ·rw [if_pos c33] at H
          have c33b0 : decide (0 ≤ x10_2) = true := decide_eq_true c33
          clear c33
          by_cases c34 : x10_2 < (x6_1.length : Int)
          ·rw [if_pos c34] at H
           have c34b0 : decide (x10_2 < (x6_1.length : Int)) = true := decide_eq_true c34
           clear c34
           by_cases c35 : 0 ≤ (rd x6_1 x10_2)
           ·rw [if_pos c35] at H
            have c35b0 : decide (0 ≤ (rd x6_1 x10_2)) = true := decide_eq_true c35
            clear c35
            by_cases c36 : (rd x6_1 x10_2) < (x9_2.length : Int)
            ·rw [if_pos c36] at H
             have c36b0 : decide ((rd x6_1 x10_2) < (x9_2.length : Int)) = true := decide_eq_true c36
             clear c36; replace H := Option.bind_eq_some_iff.mp H; obtain ⟨t680, A370, H⟩ := H
             replace H : (spec_l01Order.l2 k2 t644 x6_1 (x9_2.set ((rd x6_1 x10_2) : Int).toNat (Go.bits .or .i64 (rd x9_2 (rd x6_1 x10_2)) t680)) x10_2 (wrap64 (x10_2 + 1)) s0_0 x1001_2 x1002_2) = some (r1, r2, r3) := H
             have A37 := Aside0.mk A370; clear A370
             obtain ⟨y681, hy681⟩ : ∃ y_ : List Int, y_ = (x9_2.set ((rd x6_1 x10_2) : Int).toNat (Go.bits .or .i64 (rd x9_2 (rd x6_1 x10_2)) t680)) := ⟨_, rfl⟩
             replace H : (spec_l01Order.l2 k2 t644 x6_1 y681 x10_2 (wrap64 (x10_2 + 1)) s0_0 x1001_2 x1002_2) = some (r1, r2, r3) := by first | (rw [hy681]; with_reducible exact H) | (have H2_ := (Option.bind_some _ _).symm.trans H; rw [hy681]; with_reducible exact H2_) | (have H2_ := (Option.bind_some _ _).symm.trans H; with_reducible exact H2_) | with_reducible exact H | (rw [hy681]; exact H) | exact H
             have Ny681 := Aside0.mk hy681; clear hy681
             have H' := Aside0.mk H
             clear H
             try go_wp2
             replace HO_6 := Aside0.mk (Kd.R_drew HO_6.out); replace HO_9 := Aside0.mk (Kd.R_drew HO_9.out); replace HI0 := Aside0.mk (IsS61.drew HI0.out); replace HK := Aside0.mk (keep_drew HK.out); replace HB := Aside0.mk (below_drew1 HB.out); obtain ⟨Ao40, co40, eo40⟩ := Kd.R_slice HO_6.out
             (first | subst eo40 | (injection eo40 with f1_ f2_ f3_; have f4_ := f1_.symm; have f5_ := f3_.symm; clear f1_ f2_ f3_; subst f4_; subst f5_))
             have p676 : 0 ≤ (x10_2 : Int) := of_decide_eq_true (by first | (with_reducible assumption) | assumption)
             have q676 : x10_2 < (x6_1.length : Int) := of_decide_eq_true (by first | (with_reducible assumption) | assumption)
             obtain ⟨ad676, e676, hx676_0⟩ := Kd.at_int (Kd.R_reads' HO_6.out).2.2 x10_2 p676 q676; cases e676; replace p676 := eq_true p676; replace q676 := eq_true q676
             have p677 : 0 ≤ (x10_2 : Int) := of_decide_eq_true (by first | (with_reducible assumption) | assumption)
             have q677 : x10_2 < (x6_1.length : Int) := of_decide_eq_true (by first | (with_reducible assumption) | assumption)
             obtain ⟨ad677, e677, hx677_0⟩ := Kd.at_int (Kd.R_reads' HO_6.out).2.2 x10_2 p677 q677
             obtain rfl : ad676 = ad677 := (by injection e677)
             replace p677 := eq_true p677; replace q677 := eq_true q677; obtain ⟨Ao41, co41, eo41⟩ := Kd.R_slice HO_9.out
             (first | subst eo41 | (injection eo41 with f1_ f2_ f3_; have f4_ := f1_.symm; have f5_ := f3_.symm; clear f1_ f2_ f3_; subst f4_; subst f5_))
             have p678 : 0 ≤ ((rd x6_1 x10_2) : Int) := of_decide_eq_true (by first | (with_reducible assumption) | assumption)
             have q678 : (rd x6_1 x10_2) < (x9_2.length : Int) := of_decide_eq_true (by first | (with_reducible assumption) | assumption)
             obtain ⟨ad678, e678, hx678_0⟩ := Kd.at_int (Kd.R_reads' HO_9.out).2.2 (rd x6_1 x10_2) p678 q678; cases e678; replace p678 := eq_true p678; replace q678 := eq_true q678
             have p679 : 0 ≤ (x10_2 : Int) := of_decide_eq_true (by first | (with_reducible assumption) | assumption)
             have q679 : x10_2 < (x6_1.length : Int) := of_decide_eq_true (by first | (with_reducible assumption) | assumption)
             obtain ⟨ad679, e679, hx679_0⟩ := Kd.at_int (Kd.R_reads' HO_6.out).2.2 x10_2 p679 q679
             obtain rfl : ad676 = ad679 := (by injection e679)
             replace p679 := eq_true p679; replace q679 := eq_true q679
             refine start_ (n := 20) (S := fun w' => w'.cell? (ad676.add (x10_2).toNat) = some (.int .i64 (rd x6_1 x10_2)) ∧ w'.cell? (ad676.add (x10_2).toNat) = some (.int .i64 (rd x6_1 x10_2)) ∧ w'.cell? (ad678.add ((rd x6_1 x10_2)).toNat) = some (.int .i64 (rd x9_2 (rd x6_1 x10_2))) ∧ w'.cell? (ad676.add (x10_2).toNat) = some (.int .i64 (rd x6_1 x10_2))) (ds := [19]) #[false, false, false, false, false, false, false, false, false, false, false, false, false, false, false, false, false, false, false, false] (by kernel_rfl) rfl rfl ⟨hx676_0, hx677_0, hx678_0, hx679_0⟩ (fun hHeld => ?_); refine with_tabW spec_l01Order.tab12 spec_l01Order.bits12 (fun HT_ HW_ => ?_)
             generalize wr.drew = w39 at HO_6 HO_9 HI0 HK HB hx676_0 hx677_0 hx678_0 hx679_0 hHeld ⊢
             refine pure_ (i := 0) (N := some 47) (v := ?_) (a' := ?_) #[true, false, false, false, false, false, false, false, false, false, false, false, false, false, false, false, false, false, false, false] rfl rfl (any_of HT_.out (by kernel_rfl)) (fun _ _ _ h => h) (Or.inl ⟨by rfl, ?_⟩) ?_ ?_
             rotate_left
             ·intro w'
              go_simp
              with_reducible rfl
             rotate_left
             ·simp only [Act.put, s1, s2, s3, i64_w, i32_w]
              rfl
             refine pure_ (i := 1) (N := some 48) (v := ?_) (a' := ?_) #[true, true, false, false, false, false, false, false, false, false, false, false, false, false, false, false, false, false, false, false] rfl rfl (any_of HT_.out (by kernel_rfl)) (fun _ _ _ h => h) (Or.inl ⟨by rfl, ?_⟩) ?_ ?_
             rotate_left
             ·intro w'
              go_simp
              with_reducible rfl
             rotate_left
             ·simp only [Act.put, s1, s2, s3, i64_w, i32_w]
              rfl
             refine pure_ (i := 2) (N := some 49) (v := ?_) (a' := ?_) #[true, true, true, false, false, false, false, false, false, false, false, false, false, false, false, false, false, false, false, false] rfl rfl (any_of HT_.out (by kernel_rfl)) (fun _ _ _ h => h) (Or.inl ⟨by rfl, ?_⟩) ?_ ?_
             rotate_left
             ·intro w'
              go_simp
              with_reducible rfl
             rotate_left
             ·simp only [Act.put, s1, s2, s3, i64_w, i32_w]
              rfl
             refine pure_ (i := 3) (N := some 50) (v := ?_) (a' := ?_) #[true, true, true, true, false, false, false, false, false, false, false, false, false, false, false, false, false, false, false, false] rfl rfl (any_of HT_.out (by kernel_rfl)) (fun _ _ _ h => h) (Or.inl ⟨by rfl, ?_⟩) ?_ ?_
             rotate_left
             ·intro w'
              go_simp
              with_reducible rfl
             rotate_left
             ·simp only [Act.put, s1, s2, s3, i64_w, i32_w]
              rfl
             refine pure_ (i := 5) (N := some 52) (v := ?_) (a' := ?_) #[true, true, true, true, false, true, false, false, false, false, false, false, false, false, false, false, false, false, false, false] rfl rfl (any_of HT_.out (by kernel_rfl)) (fun _ _ _ h => h) (Or.inl ⟨by rfl, ?_⟩) ?_ ?_
             rotate_left
             ·intro w'
              go_simp
              with_reducible rfl
             rotate_left
             ·simp only [Act.put, s1, s2, s3, i64_w, i32_w]
              rfl
             refine pure_ (i := 6) (N := some 53) (v := ?_) (a' := ?_) #[true, true, true, true, false, true, true, false, false, false, false, false, false, false, false, false, false, false, false, false] rfl rfl (any_of HT_.out (by kernel_rfl)) (fun _ _ _ h => h) (Or.inl ⟨by rfl, ?_⟩) ?_ ?_
             rotate_left
             ·intro w'
              go_simp
              with_reducible rfl
             rotate_left
             ·simp only [Act.put, s1, s2, s3, i64_w, i32_w]
              rfl
             refine pure_ (i := 7) (N := some 54) (v := ?_) (a' := ?_) #[true, true, true, true, false, true, true, true, false, false, false, false, false, false, false, false, false, false, false, false] rfl rfl (any_of HT_.out (by kernel_rfl)) (fun _ _ _ h => h) (Or.inl ⟨by rfl, ?_⟩) ?_ ?_
             rotate_left
             ·intro w'
              go_simp
              with_reducible rfl
             rotate_left
             ·simp only [Act.put, s1, s2, s3, i64_w, i32_w]
              rfl
             refine pure_ (i := 8) (N := some 55) (v := ?_) (a' := ?_) #[true, true, true, true, false, true, true, true, true, false, false, false, false, false, false, false, false, false, false, false] rfl rfl (any_of HT_.out (by kernel_rfl)) (fun _ _ _ h => h) (Or.inl ⟨by rfl, ?_⟩) ?_ ?_
             rotate_left
             ·intro w'
              go_simp
              with_reducible rfl
             rotate_left
             ·simp only [Act.put, s1, s2, s3, i64_w, i32_w]
              rfl
             refine pure_ (i := 12) (N := some 59) (v := ?_) (a' := ?_) #[true, true, true, true, false, true, true, true, true, false, false, false, true, false, false, false, false, false, false, false] rfl rfl (any_of HT_.out (by kernel_rfl)) (fun _ _ _ h => h) (Or.inl ⟨by rfl, ?_⟩) ?_ ?_
             rotate_left
             ·intro w'
              go_simp
              with_reducible rfl
             rotate_left
             ·simp only [Act.put, s1, s2, s3, i64_w, i32_w]
              rfl
             refine pure_ (i := 13) (N := some 60) (v := ?_) (a' := ?_) #[true, true, true, true, false, true, true, true, true, false, false, false, true, true, false, false, false, false, false, false] rfl rfl (any_of HT_.out (by kernel_rfl)) (fun _ _ _ h => h) (Or.inl ⟨by rfl, ?_⟩) ?_ ?_
             rotate_left
             ·intro w'
              go_simp
              with_reducible rfl
             rotate_left
             ·simp only [Act.put, s1, s2, s3, i64_w, i32_w]
              rfl
             refine pure_ (i := 14) (N := some 61) (v := ?_) (a' := ?_) #[true, true, true, true, false, true, true, true, true, false, false, false, true, true, true, false, false, false, false, false] rfl rfl (any_of HT_.out (by kernel_rfl)) (fun _ _ _ h => h) (Or.inl ⟨by rfl, ?_⟩) ?_ ?_
             rotate_left
             ·intro w'
              go_simp
              with_reducible rfl
             rotate_left
             ·simp only [Act.put, s1, s2, s3, i64_w, i32_w]
              rfl
             refine take_ (i := 4) (N := some 51) (v := ?_) (a' := ?_) #[true, true, true, true, true, true, true, true, true, false, false, false, true, true, true, false, false, false, false, false] rfl rfl (take_ofW HT_.out HW_.out (by kernel_rfl)) (fun _ _ _ h => h) (Or.inl ⟨by rfl, ?_⟩) hHeld ?_ ?_
             rotate_left
             ·rintro w' ⟨s0, s1, s2, s3⟩
              go_simp
              with_reducible rfl
             rotate_left
             ·simp only [Act.put, s1, s2, s3, i64_w, i32_w]
              rfl
             refine take_ (i := 9) (N := some 56) (v := ?_) (a' := ?_) #[true, true, true, true, true, true, true, true, true, true, false, false, true, true, true, false, false, false, false, false] rfl rfl (take_ofW HT_.out HW_.out (by kernel_rfl)) (fun _ _ _ h => h) (Or.inl ⟨by rfl, ?_⟩) hHeld ?_ ?_
             rotate_left
             ·rintro w' ⟨s0, s1, s2, s3⟩
              go_simp
              with_reducible rfl
             rotate_left
             ·simp only [Act.put, s1, s2, s3, i64_w, i32_w]
              rfl
             refine pure_ (i := 10) (N := some 57) (v := ?_) (a' := ?_) #[true, true, true, true, true, true, true, true, true, true, true, false, true, true, true, false, false, false, false, false] rfl rfl (any_of HT_.out (by kernel_rfl)) (fun _ _ _ h => h) (Or.inl ⟨by rfl, ?_⟩) ?_ ?_
             rotate_left
             ·intro w'
              go_simp
              with_reducible rfl
             rotate_left
             ·simp only [Act.put, s1, s2, s3, i64_w, i32_w]
              rfl
             refine take_ (i := 11) (N := some 58) (v := ?_) (a' := ?_) #[true, true, true, true, true, true, true, true, true, true, true, true, true, true, true, false, false, false, false, false] rfl rfl (take_ofW HT_.out HW_.out (by kernel_rfl)) (fun _ _ _ h => h) (Or.inl ⟨by rfl, ?_⟩) hHeld ?_ ?_
             rotate_left
             ·rintro w' ⟨s0, s1, s2, s3⟩
              go_simp
              with_reducible rfl
             rotate_left
             ·simp only [Act.put, s1, s2, s3, i64_w, i32_w]
              rfl
             refine take_ (i := 15) (N := some 62) (v := ?_) (a' := ?_) #[true, true, true, true, true, true, true, true, true, true, true, true, true, true, true, true, false, false, false, false] rfl rfl (take_ofW HT_.out HW_.out (by kernel_rfl)) (fun _ _ _ h => h) (Or.inl ⟨by rfl, ?_⟩) hHeld ?_ ?_
             rotate_left
             ·rintro w' ⟨s0, s1, s2, s3⟩
              go_simp
              with_reducible rfl
             rotate_left
             ·simp only [Act.put, s1, s2, s3, i64_w, i32_w]
              rfl
             refine one_ (i := 16) (N := some 63) #[true, true, true, true, true, true, true, true, true, true, true, true, true, true, true, true, true, false, false, false] rfl rfl (one_of HT_.out (by kernel_rfl)) (by decide) (fun K hK => ?_)
             refine goes_ Tryd.func47 (by kernel_rfl) rfl #[.int .i64 (rd x6_1 x10_2)] (by rfl) rfl rfl lz ?_
             with_reducible refine (spec_l01One.calls (rd x6_1 x10_2) t680 _ A37.out).mono ?_
             rintro e w' ⟨rfl, ⟨nd, rfl⟩⟩
             refine ⟨_, rfl, ?_⟩
             have p38 : 0 ≤ ((rd x6_1 x10_2) : Int) := of_decide_eq_true (by first | (with_reducible assumption) | assumption)
             have q38 : ((rd x6_1 x10_2) : Int) < ((x9_2.length : Int) : Int) := of_decide_eq_true (by first | (with_reducible assumption) | assumption)
             obtain ⟨go38, co38, eo38, gb38, gl38, cl38, HG38⟩ := Kd.R_form HO_9.out (by omega)
             (first | cases eo38 | (injection eo38 with ea_ en_ ec_; (first | subst ea_ | (injection ea_ with ea_; subst ea_)); subst ec_; clear en_))
             have GB38 := Aside0.mk gb38; have GG38 := Aside0.mk HG38; clear gb38 gl38 HG38
             (first | simp only [add_plain] at hx678_0 | skip)
             obtain ⟨hx38_0, hf38_0⟩ := Kd.R_celln 0 HO_9.out ((rd x6_1 x10_2) : Int) p38 q38; replace p38 := eq_true p38; replace q38 := eq_true q38
             have HN0_go38 := Aside0.mk (show g ≠ go38 from by have h_ := IsS61.own_ne HI0.out HO_9.out (by decide); intro e_; exact h_ (by rw [e_]; rfl))
             have HP42 := Kd.R_putn HO_9.out ((rd x6_1 x10_2) : Int) (Go.bits .or .i64 (rd x9_2 (rd x6_1 x10_2)) t680); rw [← Ny681.out] at HP42; have HQ42 := Aside0.mk HP42; clear HP42
             refine hK.out _ _ ⟨hHeld.1, hHeld.2.1, hHeld.2.2.1, hHeld.2.2.2⟩ (fun hHeld => ?_)
             clear hK K
             refine norm_ (a' := ?_) ?_ ?_
             rotate_left
             ·show Act.put _ (some 63) _ = _
              simp only [Act.put, s1, s2, s3, i64_w, i32_w]
              rfl
             refine pure_ (i := 17) (N := some 64) (v := ?_) (a' := ?_) #[true, true, true, true, true, true, true, true, true, true, true, true, true, true, true, true, true, true, false, false] rfl rfl (any_of HT_.out (by kernel_rfl)) (fun _ _ _ h => h) (Or.inl ⟨by rfl, ?_⟩) ?_ ?_
             rotate_left
             ·intro w'
              go_simp
              with_reducible rfl
             rotate_left
             ·simp only [Act.put, s1, s2, s3, i64_w, i32_w]
              rfl
             refine pure_ (i := 18) (N := some 65) (v := ?_) (a' := ?_) #[true, true, true, true, true, true, true, true, true, true, true, true, true, true, true, true, true, true, true, false] rfl rfl (any_of HT_.out (by kernel_rfl)) (fun _ _ _ h => h) (Or.inl ⟨by rfl, ?_⟩) ?_ ?_
             rotate_left
             ·intro w'
              go_simp
              with_reducible rfl
             rotate_left
             ·simp only [Act.put, s1, s2, s3, i64_w, i32_w]
              rfl
             refine last_ (i := 19) (N := none) #[true, true, true, true, true, true, true, true, true, true, true, true, true, true, true, true, true, true, true, true] rfl rfl (one_of HT_.out (by kernel_rfl)) (by decide) (fun K hK => ?_)
             refine skip_ (w1 := ?_) (by rfl) rfl ?_ ?_
             rotate_left
             ·go_simp
              rfl
             refine hK.out _ _ ?_
             clear hK K
             refine done_ (done_of HT_.out (by kernel_rfl)) ?_
             try go_wp2
             go_loopg [11] k2 (fun kq v11 w' => ∃ (x9_3 : List Int) (x11_3 : Int) (x1001_3 : Int) (x1002_3 : Int), v11 = .int .i64 x11_3 ∧ Aside0 (spec_l01Order.l2 kq t644 x6_1 x9_3 x10_2 x11_3 s0_0 x1001_3 x1002_3 = some (r1, r2, r3)) ∧ Aside0 (kq ≤ k2) ∧ Aside0 (Kd.R (Kd.int .i64) 2 w' w.heap.size (fun k_ => some k_ ≠ ((.slice (some ⟨go38, 0, none⟩) x9_2.length co41) : Value).ownBlock) (.slice (some ad676) x6_1.length co40) x6_1) ∧ Aside0 (Kd.R (Kd.int .i64) 2 w' w.heap.size (fun k_ => some k_ ≠ ((.slice (some ad676) x6_1.length co40) : Value).ownBlock) (.slice (some ⟨go38, 0, none⟩) x9_2.length co41) x9_3) ∧ Aside0 (IsS61 w0 w' g s0_0 x1001_3 x1002_3) ∧ Aside0 (KeepBut w w' g none) ∧ Aside0 (Below w0.heap.size w0 w'))
             case atStart => exact ⟨(y681), (wrap64 (x10_2 + 1)), (x1001_2), (x1002_2), sz, H', ⟨Nat.le_refl _⟩, ⟨by (with_reducible repeat (first | apply Kd.R_alloc | apply Kd.R_drewN | apply Kd.R_drew)); exact Kd.R_mono (Kd.R_far (p := ⟨go38, ((rd x6_1 x10_2) : Int).toNat, none⟩) (Kd.R_mono HO_6.out (fun k_ hk => (⟨hk, fun e_ => hk (by rw [e_]; rfl)⟩ : _ ∧ k_ ≠ go38))) (fun _ hk => hk.2) (.int .i64 (Go.bits .or .i64 (rd x9_2 (rd x6_1 x10_2)) t680))) (fun _ hk => hk.1)⟩, ⟨by (with_reducible repeat (first | apply Kd.R_alloc | apply Kd.R_drewN | apply Kd.R_drew)); exact HQ42.out⟩, ⟨zQ09bx3⟩, ⟨zQ09bx4⟩, ⟨zQ09bx5⟩⟩
             case round =>
              clear H'
              try clear c1
              try clear q1
              try clear c2
              try clear p2
              try clear q2
              try clear c3
              try clear p3
              try clear q3
              try clear hx3
              try clear hf3
              try clear c4
              try clear c6
              try clear p6
              try clear q6
              try clear hx6
              try clear c7
              try clear c7b0
              try clear c9
              try clear c9b0
              try clear c9b1
              try clear c10
              try clear c10b0
              try clear c10b1
              try clear c12
              try clear c13
              try clear c13b0
              try clear c14
              try clear c14b0
              try clear c15
              try clear q18
              try clear c20
              try clear q20
              try clear c28
              try clear c28b0
              try clear c28b1
              try clear c29
              try clear c29b0
              try clear c29b1
              try clear c32
              try clear c32b0
              try clear c33
              try clear c33b0
              try clear c34
              try clear c34b0
              try clear c35
              try clear c35b0
              try clear c36
              try clear c36b0
              try clear p38
              try clear q38
              try clear hx38
              try clear hf38
              try clear hx38_0
              try clear hx676_0
              try clear hx677_0
              try clear hx678_0
              try clear hx679_0
              try clear p2
              try clear p38
              try clear p6
              try clear p676
              try clear p677
              try clear p678
              try clear p679
              try clear q020
              try clear q1
              try clear q18
              try clear q2
              try clear q20
              try clear q38
              try clear q676
              try clear q677
              try clear q678
              try clear q679
              obtain ⟨x9_3, x11_3, x1001_3, x1002_3, rfl, HA, HK3, HO_6, HO_9, HI0, HK, HB⟩ := hrel; have hl9_3 := (Kd.R_reads' HO_9.out).1; rw [hl9_3] at HO_9
              (try simp only [hl9_3])
              (try simp only [hl9_3] at HO_6)
              cases gk with
              | zero => exact absurd HA.out (by simp [spec_l01Order.l2])
              | succ k3 =>
               have H := HA.out; clear HA
               simp only [spec_l01Order.l2] at H
               by_cases c43 : x11_3 < t644
               ·rw [if_pos c43] at H
                have c43b0 : decide (x11_3 < t644) = true := decide_eq_true c43
                clear c43; replace H := Option.bind_eq_some_iff.mp H
                obtain ⟨⟨t682, t683, t684⟩, A440, H⟩ := H
                replace H : (if t682 = 0 then (if 0 ≤ x10_2 then (if x10_2 < (x6_1.length : Int) then (if 0 ≤ (rd x6_1 x10_2) then (if (rd x6_1 x10_2) < (x9_3.length : Int) then (if 0 ≤ x11_3 then (if x11_3 < (x6_1.length : Int) then ((spec_l01One.f (rd x6_1 x11_3)).bind fun t689 => (spec_l01Order.l2 k3 t644 x6_1 (x9_3.set ((rd x6_1 x10_2) : Int).toNat (Go.bits .or .i64 (rd x9_3 (rd x6_1 x10_2)) t689)) x10_2 (wrap64 (x11_3 + 1)) s0_0 t683 t684)) else (none)) else (none)) else (none)) else (none)) else (none)) else (none)) else (spec_l01Order.l2 k3 t644 x6_1 x9_3 x10_2 (wrap64 (x11_3 + 1)) s0_0 t683 t684)) = some (r1, r2, r3) := H
                have A44 := Aside0.mk A440; clear A440
                by_cases c45 : t682 = 0
                ·rw [if_pos c45] at H
                 have c45b0 : (t682 == 0) = true := beq_iff_eq.mpr c45
                 have c45b1 : (t682 != 0) = false := bne_eq_false_iff_eq.mpr c45
                 clear c45
                 by_cases c46 : 0 ≤ x10_2
                 ·rw [if_pos c46] at H
                  have c46b0 : decide (0 ≤ x10_2) = true := decide_eq_true c46
                  clear c46
                  by_cases c47 : x10_2 < (x6_1.length : Int)
                  ·rw [if_pos c47] at H
                   have c47b0 : decide (x10_2 < (x6_1.length : Int)) = true := decide_eq_true c47
                   clear c47
                   by_cases c48 : 0 ≤ (rd x6_1 x10_2)
                   ·rw [if_pos c48] at H
                    have c48b0 : decide (0 ≤ (rd x6_1 x10_2)) = true := decide_eq_true c48
                    clear c48
                    by_cases c49 : (rd x6_1 x10_2) < (x9_3.length : Int)
                    ·rw [if_pos c49] at H
                     have c49b0 : decide ((rd x6_1 x10_2) < (x9_3.length : Int)) = true := decide_eq_true c49
                     clear c49
                     by_cases c50 : 0 ≤ x11_3
                     ·rw [if_pos c50] at H
                      have c50b0 : decide (0 ≤ x11_3) = true := decide_eq_true c50
                      clear c50
                      by_cases c51 : x11_3 < (x6_1.length : Int)
                      ·rw [if_pos c51] at H
                       have c51b0 : decide (x11_3 < (x6_1.length : Int)) = true := decide_eq_true c51
                       clear c51; replace H := Option.bind_eq_some_iff.mp H; obtain ⟨t689, A520, H⟩ := H
                       replace H : (spec_l01Order.l2 k3 t644 x6_1 (x9_3.set ((rd x6_1 x10_2) : Int).toNat (Go.bits .or .i64 (rd x9_3 (rd x6_1 x10_2)) t689)) x10_2 (wrap64 (x11_3 + 1)) s0_0 t683 t684) = some (r1, r2, r3) := H
                       have A52 := Aside0.mk A520; clear A520
                       obtain ⟨y690, hy690⟩ : ∃ y_ : List Int, y_ = (x9_3.set ((rd x6_1 x10_2) : Int).toNat (Go.bits .or .i64 (rd x9_3 (rd x6_1 x10_2)) t689)) := ⟨_, rfl⟩
                       replace H : (spec_l01Order.l2 k3 t644 x6_1 y690 x10_2 (wrap64 (x11_3 + 1)) s0_0 t683 t684) = some (r1, r2, r3) := by first | (rw [hy690]; with_reducible exact H) | (have H2_ := (Option.bind_some _ _).symm.trans H; rw [hy690]; with_reducible exact H2_) | (have H2_ := (Option.bind_some _ _).symm.trans H; with_reducible exact H2_) | with_reducible exact H | (rw [hy690]; exact H) | exact H
                       have Ny690 := Aside0.mk hy690; clear hy690
                       have H' := Aside0.mk H
                       clear H
                       try go_wp2_with (first | ((with_reducible refine gate_callee (f := 40) rfl ?_); refine goesL_ (some 74) rfl rfl Tryd.func40 (by kernel_rfl) rfl #[.pointer (some ⟨g, 0, none⟩), .int .i64 4] rfl lz ?_; (with_reducible refine (spec_l01Next.calls g s0_0 x1001_3 x1002_3 4 t682 t683 t684 w0 _ ?side1 ?side2 A44.out).mono ?_); (case side1 => exact zQ09bx0); (case side2 => exact zQ09bx1); rintro e w54 ⟨rfl, hi, hb, hk⟩; refine ⟨_, rfl, ?_⟩; replace HO_6 := Aside0.mk (Kd.R_mono (Kd.R_keep (IsS61.apart (show IsS61 w0 _ g s0_0 x1001_3 x1002_3 from zQ09bx0) (kdQ HO_6) (by decide)) hk (fun _ h => h.2)) (fun _ h => h.1)); replace HO_9 := Aside0.mk (Kd.R_mono (Kd.R_keep (IsS61.apart (show IsS61 w0 _ g s0_0 x1001_3 x1002_3 from zQ09bx0) (kdQ HO_9) (by decide)) hk (fun _ h => h.2)) (fun _ h => h.1)); replace HK := Aside0.mk (KeepBut.trans (zQ09bx2) hk (.inl rfl)); replace HB := Aside0.mk (hb); replace HI0 := Aside0.mk (hi); (try clear hb); (try clear hb2); (try clear hk); (try clear hi); (try clear hgw_)))
                       replace HO_6 := Aside0.mk (Kd.R_drew HO_6.out); replace HO_9 := Aside0.mk (Kd.R_drew HO_9.out); replace HI0 := Aside0.mk (IsS61.drew HI0.out); replace HK := Aside0.mk (keep_drew HK.out); replace HB := Aside0.mk (below_drew1 HB.out)
                       have p685 : 0 ≤ (x10_2 : Int) := of_decide_eq_true (by first | (with_reducible assumption) | assumption)
                       have q685 : x10_2 < (x6_1.length : Int) := of_decide_eq_true (by first | (with_reducible assumption) | assumption)
                       obtain ⟨ad685, e685, hx685_0⟩ := Kd.at_int (Kd.R_reads' HO_6.out).2.2 x10_2 p685 q685
                       obtain rfl : ad676 = ad685 := (by injection e685)
                       replace p685 := eq_true p685; replace q685 := eq_true q685
                       have p686 : 0 ≤ (x10_2 : Int) := of_decide_eq_true (by first | (with_reducible assumption) | assumption)
                       have q686 : x10_2 < (x6_1.length : Int) := of_decide_eq_true (by first | (with_reducible assumption) | assumption)
                       obtain ⟨ad686, e686, hx686_0⟩ := Kd.at_int (Kd.R_reads' HO_6.out).2.2 x10_2 p686 q686
                       obtain rfl : ad676 = ad686 := (by injection e686)
                       replace p686 := eq_true p686; replace q686 := eq_true q686
                       have p687 : 0 ≤ ((rd x6_1 x10_2) : Int) := of_decide_eq_true (by first | (with_reducible assumption) | assumption)
                       have q687 : (rd x6_1 x10_2) < (x9_3.length : Int) := of_decide_eq_true (by first | (with_reducible assumption) | assumption)
                       obtain ⟨ad687, e687, hx687_0⟩ := Kd.at_int (Kd.R_reads' HO_9.out).2.2 (rd x6_1 x10_2) p687 q687
                       obtain rfl : (⟨go38, 0, none⟩ : Addr) = ad687 := (by injection e687)
                       (first | simp only [add_plain] at hx687_0 | simp only [add_at] at hx687_0 | simp only [Addr.add, Nat.zero_add] at hx687_0 | skip)
                       replace p687 := eq_true p687; replace q687 := eq_true q687
                       have p688 : 0 ≤ (x11_3 : Int) := of_decide_eq_true (by first | (with_reducible assumption) | assumption)
                       have q688 : x11_3 < (x6_1.length : Int) := of_decide_eq_true (by first | (with_reducible assumption) | assumption)
                       obtain ⟨ad688, e688, hx688_0⟩ := Kd.at_int (Kd.R_reads' HO_6.out).2.2 x11_3 p688 q688
                       obtain rfl : ad676 = ad688 := (by injection e688)
                       replace p688 := eq_true p688; replace q688 := eq_true q688
                       refine start_ (n := 20) (S := fun w' => w'.cell? (ad676.add (x10_2).toNat) = some (.int .i64 (rd x6_1 x10_2)) ∧ w'.cell? (ad676.add (x10_2).toNat) = some (.int .i64 (rd x6_1 x10_2)) ∧ w'.cell? ⟨go38, ((rd x6_1 x10_2)).toNat, none⟩ = some (.int .i64 (rd x9_3 (rd x6_1 x10_2))) ∧ w'.cell? (ad676.add (x11_3).toNat) = some (.int .i64 (rd x6_1 x11_3))) (ds := [19]) #[false, false, false, false, false, false, false, false, false, false, false, false, false, false, false, false, false, false, false, false] (by kernel_rfl) rfl rfl ⟨hx685_0, hx686_0, hx687_0, hx688_0⟩ (fun hHeld => ?_); refine with_tabW spec_l01Order.tab17 spec_l01Order.bits17 (fun HT_ HW_ => ?_)
                       generalize w54.drew = w55 at HO_6 HO_9 HI0 HK HB hx685_0 hx686_0 hx687_0 hx688_0 hHeld ⊢
                       refine pure_ (i := 0) (N := some 76) (v := ?_) (a' := ?_) #[true, false, false, false, false, false, false, false, false, false, false, false, false, false, false, false, false, false, false, false] rfl rfl (any_of HT_.out (by kernel_rfl)) (fun _ _ _ h => h) (Or.inl ⟨by rfl, ?_⟩) ?_ ?_
                       rotate_left
                       ·intro w'
                        go_simp
                        with_reducible rfl
                       rotate_left
                       ·simp only [Act.put, s1, s2, s3, i64_w, i32_w]
                        rfl
                       refine pure_ (i := 1) (N := some 77) (v := ?_) (a' := ?_) #[true, true, false, false, false, false, false, false, false, false, false, false, false, false, false, false, false, false, false, false] rfl rfl (any_of HT_.out (by kernel_rfl)) (fun _ _ _ h => h) (Or.inl ⟨by rfl, ?_⟩) ?_ ?_
                       rotate_left
                       ·intro w'
                        go_simp
                        with_reducible rfl
                       rotate_left
                       ·simp only [Act.put, s1, s2, s3, i64_w, i32_w]
                        rfl
                       refine pure_ (i := 2) (N := some 78) (v := ?_) (a' := ?_) #[true, true, true, false, false, false, false, false, false, false, false, false, false, false, false, false, false, false, false, false] rfl rfl (any_of HT_.out (by kernel_rfl)) (fun _ _ _ h => h) (Or.inl ⟨by rfl, ?_⟩) ?_ ?_
                       rotate_left
                       ·intro w'
                        go_simp
                        with_reducible rfl
                       rotate_left
                       ·simp only [Act.put, s1, s2, s3, i64_w, i32_w]
                        rfl
                       refine pure_ (i := 3) (N := some 79) (v := ?_) (a' := ?_) #[true, true, true, true, false, false, false, false, false, false, false, false, false, false, false, false, false, false, false, false] rfl rfl (any_of HT_.out (by kernel_rfl)) (fun _ _ _ h => h) (Or.inl ⟨by rfl, ?_⟩) ?_ ?_
                       rotate_left
                       ·intro w'
                        go_simp
                        with_reducible rfl
                       rotate_left
                       ·simp only [Act.put, s1, s2, s3, i64_w, i32_w]
                        rfl
                       refine pure_ (i := 5) (N := some 81) (v := ?_) (a' := ?_) #[true, true, true, true, false, true, false, false, false, false, false, false, false, false, false, false, false, false, false, false] rfl rfl (any_of HT_.out (by kernel_rfl)) (fun _ _ _ h => h) (Or.inl ⟨by rfl, ?_⟩) ?_ ?_
                       rotate_left
                       ·intro w'
                        go_simp
                        with_reducible rfl
                       rotate_left
                       ·simp only [Act.put, s1, s2, s3, i64_w, i32_w]
                        rfl
                       refine pure_ (i := 6) (N := some 82) (v := ?_) (a' := ?_) #[true, true, true, true, false, true, true, false, false, false, false, false, false, false, false, false, false, false, false, false] rfl rfl (any_of HT_.out (by kernel_rfl)) (fun _ _ _ h => h) (Or.inl ⟨by rfl, ?_⟩) ?_ ?_
                       rotate_left
                       ·intro w'
                        go_simp
                        with_reducible rfl
                       rotate_left
                       ·simp only [Act.put, s1, s2, s3, i64_w, i32_w]
                        rfl
                       refine pure_ (i := 7) (N := some 83) (v := ?_) (a' := ?_) #[true, true, true, true, false, true, true, true, false, false, false, false, false, false, false, false, false, false, false, false] rfl rfl (any_of HT_.out (by kernel_rfl)) (fun _ _ _ h => h) (Or.inl ⟨by rfl, ?_⟩) ?_ ?_
                       rotate_left
                       ·intro w'
                        go_simp
                        with_reducible rfl
                       rotate_left
                       ·simp only [Act.put, s1, s2, s3, i64_w, i32_w]
                        rfl
                       refine pure_ (i := 8) (N := some 84) (v := ?_) (a' := ?_) #[true, true, true, true, false, true, true, true, true, false, false, false, false, false, false, false, false, false, false, false] rfl rfl (any_of HT_.out (by kernel_rfl)) (fun _ _ _ h => h) (Or.inl ⟨by rfl, ?_⟩) ?_ ?_
                       rotate_left
                       ·intro w'
                        go_simp
                        with_reducible rfl
                       rotate_left
                       ·simp only [Act.put, s1, s2, s3, i64_w, i32_w]
                        rfl
                       refine pure_ (i := 12) (N := some 88) (v := ?_) (a' := ?_) #[true, true, true, true, false, true, true, true, true, false, false, false, true, false, false, false, false, false, false, false] rfl rfl (any_of HT_.out (by kernel_rfl)) (fun _ _ _ h => h) (Or.inl ⟨by rfl, ?_⟩) ?_ ?_
                       rotate_left
                       ·intro w'
                        go_simp
                        with_reducible rfl
                       rotate_left
                       ·simp only [Act.put, s1, s2, s3, i64_w, i32_w]
                        rfl
                       refine pure_ (i := 13) (N := some 89) (v := ?_) (a' := ?_) #[true, true, true, true, false, true, true, true, true, false, false, false, true, true, false, false, false, false, false, false] rfl rfl (any_of HT_.out (by kernel_rfl)) (fun _ _ _ h => h) (Or.inl ⟨by rfl, ?_⟩) ?_ ?_
                       rotate_left
                       ·intro w'
                        go_simp
                        with_reducible rfl
                       rotate_left
                       ·simp only [Act.put, s1, s2, s3, i64_w, i32_w]
                        rfl
                       refine pure_ (i := 14) (N := some 90) (v := ?_) (a' := ?_) #[true, true, true, true, false, true, true, true, true, false, false, false, true, true, true, false, false, false, false, false] rfl rfl (any_of HT_.out (by kernel_rfl)) (fun _ _ _ h => h) (Or.inl ⟨by rfl, ?_⟩) ?_ ?_
                       rotate_left
                       ·intro w'
                        go_simp
                        with_reducible rfl
                       rotate_left
                       ·simp only [Act.put, s1, s2, s3, i64_w, i32_w]
                        rfl
                       refine take_ (i := 4) (N := some 80) (v := ?_) (a' := ?_) #[true, true, true, true, true, true, true, true, true, false, false, false, true, true, true, false, false, false, false, false] rfl rfl (take_ofW HT_.out HW_.out (by kernel_rfl)) (fun _ _ _ h => h) (Or.inl ⟨by rfl, ?_⟩) hHeld ?_ ?_
                       rotate_left
                       ·rintro w' ⟨s0, s1, s2, s3⟩
                        go_simp
                        with_reducible rfl
                       rotate_left
                       ·simp only [Act.put, s1, s2, s3, i64_w, i32_w]
                        rfl
                       refine take_ (i := 9) (N := some 85) (v := ?_) (a' := ?_) #[true, true, true, true, true, true, true, true, true, true, false, false, true, true, true, false, false, false, false, false] rfl rfl (take_ofW HT_.out HW_.out (by kernel_rfl)) (fun _ _ _ h => h) (Or.inl ⟨by rfl, ?_⟩) hHeld ?_ ?_
                       rotate_left
                       ·rintro w' ⟨s0, s1, s2, s3⟩
                        go_simp
                        with_reducible rfl
                       rotate_left
                       ·simp only [Act.put, s1, s2, s3, i64_w, i32_w]
                        rfl
                       refine pure_ (i := 10) (N := some 86) (v := ?_) (a' := ?_) #[true, true, true, true, true, true, true, true, true, true, true, false, true, true, true, false, false, false, false, false] rfl rfl (any_of HT_.out (by kernel_rfl)) (fun _ _ _ h => h) (Or.inl ⟨by rfl, ?_⟩) ?_ ?_
                       rotate_left
                       ·intro w'
                        go_simp
                        with_reducible rfl
                       rotate_left
                       ·simp only [Act.put, s1, s2, s3, i64_w, i32_w]
                        rfl
                       refine take_ (i := 11) (N := some 87) (v := ?_) (a' := ?_) #[true, true, true, true, true, true, true, true, true, true, true, true, true, true, true, false, false, false, false, false] rfl rfl (take_ofW HT_.out HW_.out (by kernel_rfl)) (fun _ _ _ h => h) (Or.inl ⟨by rfl, ?_⟩) hHeld ?_ ?_
                       rotate_left
                       ·rintro w' ⟨s0, s1, s2, s3⟩
                        go_simp
                        with_reducible rfl
                       rotate_left
                       ·simp only [Act.put, s1, s2, s3, i64_w, i32_w]
                        rfl
                       refine take_ (i := 15) (N := some 91) (v := ?_) (a' := ?_) #[true, true, true, true, true, true, true, true, true, true, true, true, true, true, true, true, false, false, false, false] rfl rfl (take_ofW HT_.out HW_.out (by kernel_rfl)) (fun _ _ _ h => h) (Or.inl ⟨by rfl, ?_⟩) hHeld ?_ ?_
                       rotate_left
                       ·rintro w' ⟨s0, s1, s2, s3⟩
                        go_simp
                        with_reducible rfl
                       rotate_left
                       ·simp only [Act.put, s1, s2, s3, i64_w, i32_w]
                        rfl
                       refine one_ (i := 16) (N := some 92) #[true, true, true, true, true, true, true, true, true, true, true, true, true, true, true, true, true, false, false, false] rfl rfl (one_of HT_.out (by kernel_rfl)) (by decide) (fun K hK => ?_)
                       refine goes_ Tryd.func47 (by kernel_rfl) rfl #[.int .i64 (rd x6_1 x11_3)] (by rfl) rfl rfl lz ?_
                       with_reducible refine (spec_l01One.calls (rd x6_1 x11_3) t689 _ A52.out).mono ?_
                       rintro e w' ⟨rfl, ⟨nd, rfl⟩⟩
                       refine ⟨_, rfl, ?_⟩
                       have p53 : 0 ≤ ((rd x6_1 x10_2) : Int) := of_decide_eq_true (by first | (with_reducible assumption) | assumption)
                       have q53 : ((rd x6_1 x10_2) : Int) < ((x9_3.length : Int) : Int) := of_decide_eq_true (by first | (with_reducible assumption) | assumption)
                       obtain ⟨hx53_0, hf53_0⟩ := Kd.R_celln 0 HO_9.out ((rd x6_1 x10_2) : Int) p53 q53; replace p53 := eq_true p53; replace q53 := eq_true q53
                       have HN0_go38 := Aside0.mk (show g ≠ go38 from by have h_ := IsS61.own_ne HI0.out HO_9.out (by decide); intro e_; exact h_ (by rw [e_]; rfl))
                       have HP56 := Kd.R_putn HO_9.out ((rd x6_1 x10_2) : Int) (Go.bits .or .i64 (rd x9_3 (rd x6_1 x10_2)) t689); rw [← Ny690.out] at HP56; have HQ56 := Aside0.mk HP56; clear HP56
                       refine hK.out _ _ ⟨hHeld.1, hHeld.2.1, hHeld.2.2.1, hHeld.2.2.2⟩ (fun hHeld => ?_)
                       clear hK K
                       refine norm_ (a' := ?_) ?_ ?_
                       rotate_left
                       ·show Act.put _ (some 92) _ = _
                        simp only [Act.put, s1, s2, s3, i64_w, i32_w]
                        rfl
                       refine pure_ (i := 17) (N := some 93) (v := ?_) (a' := ?_) #[true, true, true, true, true, true, true, true, true, true, true, true, true, true, true, true, true, true, false, false] rfl rfl (any_of HT_.out (by kernel_rfl)) (fun _ _ _ h => h) (Or.inl ⟨by rfl, ?_⟩) ?_ ?_
                       rotate_left
                       ·intro w'
                        go_simp
                        with_reducible rfl
                       rotate_left
                       ·simp only [Act.put, s1, s2, s3, i64_w, i32_w]
                        rfl
                       refine pure_ (i := 18) (N := some 94) (v := ?_) (a' := ?_) #[true, true, true, true, true, true, true, true, true, true, true, true, true, true, true, true, true, true, true, false] rfl rfl (any_of HT_.out (by kernel_rfl)) (fun _ _ _ h => h) (Or.inl ⟨by rfl, ?_⟩) ?_ ?_
                       rotate_left
                       ·intro w'
                        go_simp
                        with_reducible rfl
                       rotate_left
                       ·simp only [Act.put, s1, s2, s3, i64_w, i32_w]
                        rfl
                       refine last_ (i := 19) (N := none) #[true, true, true, true, true, true, true, true, true, true, true, true, true, true, true, true, true, true, true, true] rfl rfl (one_of HT_.out (by kernel_rfl)) (by decide) (fun K hK => ?_)
                       refine skip_ (w1 := ?_) (by rfl) rfl ?_ ?_
                       rotate_left
                       ·go_simp
                        rfl
                       refine hK.out _ _ ?_
                       clear hK K
                       refine done_ (done_of HT_.out (by kernel_rfl)) ?_
                       try go_wp2
                       (try simp only [← hl9_3])
                       go_roundg k3
                       case measure => have := HK1.out; have := HK2.out; have := HK3.out; omega
                       case rel => exact ⟨(y690), (wrap64 (x11_3 + 1)), (t683), (t684), sz, H', ⟨by have := HK1.out; have := HK2.out; have := HK3.out; omega⟩, ⟨by (try simp only [hl9_3]); (with_reducible repeat (first | apply Kd.R_alloc | apply Kd.R_drewN | apply Kd.R_drew)); exact Kd.R_mono (Kd.R_far (p := ⟨go38, ((rd x6_1 x10_2) : Int).toNat, none⟩) (Kd.R_mono HO_6.out (fun k_ hk => (⟨hk, fun e_ => hk (by rw [e_]; rfl)⟩ : _ ∧ k_ ≠ go38))) (fun _ hk => hk.2) (.int .i64 (Go.bits .or .i64 (rd x9_3 (rd x6_1 x10_2)) t689))) (fun _ hk => hk.1)⟩, ⟨by (try simp only [hl9_3]); (with_reducible repeat (first | apply Kd.R_alloc | apply Kd.R_drewN | apply Kd.R_drew)); exact HQ56.out⟩, ⟨zQ09bx3⟩, ⟨zQ09bx4⟩, ⟨zQ09bx5⟩⟩
                      ·rw [if_neg c51] at H
                       exact absurd H (by simp)
                     ·rw [if_neg c50] at H
                      exact absurd H (by simp)
                    ·rw [if_neg c49] at H
                     exact absurd H (by simp)
                   ·rw [if_neg c48] at H
                    exact absurd H (by simp)
                  ·rw [if_neg c47] at H
                   exact absurd H (by simp)
                 ·rw [if_neg c46] at H
                  exact absurd H (by simp)
                ·rw [if_neg c45] at H
                 have c45b0 : (t682 == 0) = false := beq_eq_false_iff_ne.mpr c45
                 have c45b1 : (t682 != 0) = true := bne_iff_ne.mpr c45
                 have H' := Aside0.mk H
                 clear H
                 go_wp2_with (first | ((with_reducible refine gate_callee (f := 40) rfl ?_); refine goesL_ (some 74) rfl rfl Tryd.func40 (by kernel_rfl) rfl #[.pointer (some ⟨g, 0, none⟩), .int .i64 4] rfl lz ?_; (with_reducible refine (spec_l01Next.calls g s0_0 x1001_3 x1002_3 4 t682 t683 t684 w0 _ ?side1 ?side2 A44.out).mono ?_); (case side1 => exact zQ09bx0); (case side2 => exact zQ09bx1); rintro e w57 ⟨rfl, hi, hb, hk⟩; refine ⟨_, rfl, ?_⟩; replace HO_6 := Aside0.mk (Kd.R_mono (Kd.R_keep (IsS61.apart (show IsS61 w0 _ g s0_0 x1001_3 x1002_3 from zQ09bx0) (kdQ HO_6) (by decide)) hk (fun _ h => h.2)) (fun _ h => h.1)); replace HO_9 := Aside0.mk (Kd.R_mono (Kd.R_keep (IsS61.apart (show IsS61 w0 _ g s0_0 x1001_3 x1002_3 from zQ09bx0) (kdQ HO_9) (by decide)) hk (fun _ h => h.2)) (fun _ h => h.1)); replace HK := Aside0.mk (KeepBut.trans (zQ09bx2) hk (.inl rfl)); replace HB := Aside0.mk (hb); replace HI0 := Aside0.mk (hi); (try clear hb); (try clear hb2); (try clear hk); (try clear hi); (try clear hgw_)))
                 (try simp only [← hl9_3])
                 go_roundg k3
                 case measure => have := HK1.out; have := HK2.out; have := HK3.out; omega
                 case rel => exact ⟨(x9_3), (wrap64 (x11_3 + 1)), (t683), (t684), sz, H', ⟨by have := HK1.out; have := HK2.out; have := HK3.out; omega⟩, ⟨by (try simp only [hl9_3]); (with_reducible repeat (first | apply Kd.R_alloc | apply Kd.R_drewN | apply Kd.R_drew)); exact HO_6.out⟩, ⟨by (try simp only [hl9_3]); (with_reducible repeat (first | apply Kd.R_alloc | apply Kd.R_drewN | apply Kd.R_drew)); exact HO_9.out⟩, ⟨zQ09bx0⟩, ⟨zQ09bx2⟩, ⟨zQ09bx1⟩⟩
               ·rw [if_neg c43] at H
                have c43b0 : decide (x11_3 < t644) = false := decide_eq_false c43
                clear c43
                have H' := Aside0.mk H
                clear H
                go_wp2
                (try simp only [← hl9_3])
                go_roundg k3
                case measure => have := HK1.out; have := HK2.out; have := HK3.out; omega
                case rel => exact ⟨(x9_3), (wrap64 (x10_2 + 1)), (x1001_3), (x1002_3), sz, H', ⟨by have := HK1.out; have := HK2.out; have := HK3.out; omega⟩, ⟨by (try simp only [hl9_3]); (with_reducible repeat (first | apply Kd.R_alloc | apply Kd.R_drewN | apply Kd.R_drew)); exact HO_6.out⟩, ⟨by (try simp only [hl9_3]); (with_reducible repeat (first | apply Kd.R_alloc | apply Kd.R_drewN | apply Kd.R_drew)); exact HO_9.out⟩, ⟨zQ09bx0⟩, ⟨zQ09bx2⟩, ⟨zQ09bx1⟩⟩
            ·rw [if_neg c36] at H
             exact absurd H (by simp)
           ·rw [if_neg c35] at H
            exact absurd H (by simp)
          ·rw [if_neg c34] at H
           exact absurd H (by simp)
         ·rw [if_neg c33] at H
          exact absurd H (by simp)
        ·rw [if_neg c32] at H
         have c32b0 : decide (x10_2 < t644) = false := decide_eq_false c32
         clear c32
         obtain ⟨y691, hy691⟩ : ∃ y_ : List Int, y_ = (([] : List Int)) := ⟨_, rfl⟩
         replace H : (spec_l01Order.l3 k2 t644 x9_2 y691 0 s0_0 x1001_2 x1002_2) = some (r1, r2, r3) := by first | (rw [hy691]; with_reducible exact H) | (have H2_ := (Option.bind_some _ _).symm.trans H; rw [hy691]; with_reducible exact H2_) | (have H2_ := (Option.bind_some _ _).symm.trans H; with_reducible exact H2_) | with_reducible exact H | (rw [hy691]; exact H) | exact H
         have Ny691 := Aside0.mk hy691; clear hy691
         have H' := Aside0.mk H
         clear H
         go_wp2_with (first | ((with_reducible refine gate_dst (N := 95) rfl ?_); refine Kd.R_lit (Kd.int .i64) _ 2 ?hg (N := 95) ?hd (xs := ([] : List Int)) (inner := []) (ok := fun _ => True) (okp := fun _ => True) ?hr ?hp (fun _ hk => hk) trivial (Below.refl _ _) (Nat.le_refl _) (by simp) ?_; (case hd => rfl); (case hg => rfl); (case hr => first | (go_simp; done) | (go_simp; rfl)); (case hp => exact (Reps.none _ _)); intro v692 w58 ho59 hb hg_ hnew_; clear hg_ hnew_; (first | rw [← Ny691.out] at ho59 | (simp only [Int.reduceToNat] at ho59; rw [← Ny691.out] at ho59)); have HO693 := Aside0.mk (Kd.R_lower (Kd.R_new' (Kd.R_new' ho59 (Kd.R_lt (kdQ HO_6))) (Kd.R_lt (kdQ HO_9))) (keep_size (w := w) (g := g) (row := none) (zQ09bx2))); replace HO_6 := Aside0.mk (Kd.R_elder' (kdQ HO_6) (Kd.R_base ho59) hb); replace HO_9 := Aside0.mk (Kd.R_elder' (kdQ HO_9) (Kd.R_base ho59) hb); replace HK := Aside0.mk (KeepBut.trans (zQ09bx2) (KeepBut.of_below hb g none) (.inl rfl)); replace HB := Aside0.mk (below_step (zQ09bx1) hb); replace HI0 := Aside0.mk (IsS61.below (zQ09bx0) hb); clear hb ho59))
         go_loopg [12, 13] k2 (fun kq v12 v13 w' => ∃ (x12_3 : List Int) (x13_3 : Int), v13 = .int .i64 x13_3 ∧ Aside0 (spec_l01Order.l3 kq t644 x9_2 x12_3 x13_3 s0_0 x1001_2 x1002_2 = some (r1, r2, r3)) ∧ Aside0 (kq ≤ k2) ∧ Aside0 (Kd.R (Kd.int .i64) 2 w' w.heap.size (fun k_ => some k_ ≠ (v12 : Value).ownBlock) v674 x9_2) ∧ Aside0 (Kd.R (Kd.int .i64) 2 w' w.heap.size (fun k_ => some k_ ≠ (v674 : Value).ownBlock) v12 x12_3) ∧ Aside0 (IsS61 w0 w' g s0_0 x1001_2 x1002_2) ∧ Aside0 (KeepBut w w' g none) ∧ Aside0 (Below w0.heap.size w0 w'))
         case atStart => exact ⟨(y691), (0), sz, H', ⟨Nat.le_refl _⟩, ⟨by (with_reducible repeat (first | apply Kd.R_alloc | apply Kd.R_drewN | apply Kd.R_drew)); exact Kd.R_mono HO_9.out (fun _ hk => hk.2)⟩, ⟨by (with_reducible repeat (first | apply Kd.R_alloc | apply Kd.R_drewN | apply Kd.R_drew)); exact Kd.R_mono HO693.out (fun _ hk => hk.2)⟩, ⟨zQ09bx0⟩, ⟨zQ09bx2⟩, ⟨zQ09bx1⟩⟩
         case round =>
          clear H'
          try clear c1
          try clear q1
          try clear c2
          try clear p2
          try clear q2
          try clear c3
          try clear p3
          try clear q3
          try clear hx3
          try clear hf3
          try clear c4
          try clear c5
          try clear p5
          try clear q5
          try clear hx5
          try clear hf5
          try clear c6
          try clear p6
          try clear q6
          try clear hx6
          try clear c7
          try clear c7b0
          try clear c9
          try clear c9b0
          try clear c9b1
          try clear c10
          try clear c10b0
          try clear c10b1
          try clear c12
          try clear c13
          try clear c13b0
          try clear c14
          try clear c14b0
          try clear c15
          try clear q18
          try clear c20
          try clear q20
          try clear c28
          try clear c28b0
          try clear c28b1
          try clear c29
          try clear c29b0
          try clear c29b1
          try clear c32
          try clear c32b0
          try clear c33
          try clear c33b0
          try clear c34
          try clear c34b0
          try clear c35
          try clear c35b0
          try clear c36
          try clear c36b0
          try clear p38
          try clear q38
          try clear hx38
          try clear hf38
          try clear c40
          try clear c43
          try clear c43b0
          try clear c45
          try clear c45b0
          try clear c45b1
          try clear c46
          try clear c46b0
          try clear c47
          try clear c47b0
          try clear c48
          try clear c48b0
          try clear c49
          try clear c49b0
          try clear c50
          try clear c50b0
          try clear c51
          try clear c51b0
          try clear p53
          try clear q53
          try clear hx53
          try clear hf53
          try clear hx38_0
          try clear hx53_0
          try clear hx676_0
          try clear hx677_0
          try clear hx678_0
          try clear hx679_0
          try clear hx685_0
          try clear hx686_0
          try clear hx687_0
          try clear hx688_0
          try clear p2
          try clear p3
          try clear p38
          try clear p53
          try clear p6
          try clear p676
          try clear p677
          try clear p678
          try clear p679
          try clear p685
          try clear p686
          try clear p687
          try clear p688
          try clear q020
          try clear q1
          try clear q18
          try clear q2
          try clear q20
          try clear q3
          try clear q38
          try clear q53
          try clear q6
          try clear q676
          try clear q677
          try clear q678
          try clear q679
          try clear q685
          try clear q686
          try clear q687
          try clear q688
          obtain ⟨x12_3, x13_3, rfl, HA, HK3, HO_9, HO_12, HI0, HK, HB⟩ := hrel
          cases gk with
          | zero => exact absurd HA.out (by simp [spec_l01Order.l3])
          | succ k3 =>
           have H := HA.out; clear HA
           simp only [spec_l01Order.l3] at H
           by_cases c60 : x13_3 < t644
           ·rw [if_pos c60] at H
            have c60b0 : decide (x13_3 < t644) = true := decide_eq_true c60
            clear c60; replace H := Option.bind_eq_some_iff.mp H; obtain ⟨t694, A610, H⟩ := H
            replace H : ((some (([t694] : List Int) : List Int)).bind fun y695 => (if x12_3.length + y695.length < 17592186044416 then (spec_l01Order.l3 k3 t644 x9_2 (x12_3 ++ y695) (wrap64 (x13_3 + 1)) s0_0 x1001_2 x1002_2) else (none))) = some (r1, r2, r3) := H
            have A61 := Aside0.mk A610; clear A610
            obtain ⟨y695, hy695⟩ : ∃ y_ : List Int, y_ = (([t694] : List Int)) := ⟨_, rfl⟩
            replace H : (if x12_3.length + y695.length < 17592186044416 then (spec_l01Order.l3 k3 t644 x9_2 (x12_3 ++ y695) (wrap64 (x13_3 + 1)) s0_0 x1001_2 x1002_2) else (none)) = some (r1, r2, r3) := by first | (rw [hy695]; with_reducible exact H) | (have H2_ := (Option.bind_some _ _).symm.trans H; rw [hy695]; with_reducible exact H2_) | (have H2_ := (Option.bind_some _ _).symm.trans H; with_reducible exact H2_) | with_reducible exact H | (rw [hy695]; exact H) | exact H
            have Ny695 := Aside0.mk hy695; clear hy695
            by_cases c62 : x12_3.length + y695.length < 17592186044416
            ·rw [if_pos c62] at H
             have LMc62 := Aside0.mk c62; clear c62
             obtain ⟨y698, hy698⟩ : ∃ y_ : List Int, y_ = (x12_3 ++ y695) := ⟨_, rfl⟩
             replace H : (spec_l01Order.l3 k3 t644 x9_2 y698 (wrap64 (x13_3 + 1)) s0_0 x1001_2 x1002_2) = some (r1, r2, r3) := by first | (rw [hy698]; with_reducible exact H) | (have H2_ := (Option.bind_some _ _).symm.trans H; rw [hy698]; with_reducible exact H2_) | (have H2_ := (Option.bind_some _ _).symm.trans H; with_reducible exact H2_) | with_reducible exact H | (rw [hy698]; exact H) | exact H
             have Ny698 := Aside0.mk hy698; clear hy698
             have H' := Aside0.mk H
             clear H; obtain ⟨Ao63, co63, eo63⟩ := Kd.R_slice HO_9.out; subst eo63
             go_wp2_with (first | ((with_reducible refine gate_callee (f := 68) rfl ?_); refine goesL_ (some 104) rfl rfl Tryd.func68 (by kernel_rfl) rfl #[.slice Ao63 x9_2.length co63, .int .i64 x13_3] rfl lz ?_; (with_reducible refine (spec_l01Reach.calls k3 _ _ x9_2 x13_3 t694 _ ?side1 ?side2 A61.out).mono ?_); (case side1 => have q_ := Aside0.mk (Kd.R_reads' HO_9.out).2.2; exact cQ q_); (case side2 => exact (Kd.R_reads' HO_9.out).2.1); rintro e w' ⟨rfl, ⟨nd, rfl⟩⟩; refine ⟨_, rfl, ?_⟩) | ((with_reducible refine gate_dst (N := 105) rfl ?_); refine Kd.R_lit (Kd.int .i64) _ 2 ?hg (N := 105) ?hd (xs := ([t694] : List Int)) (inner := [.int .i64 t694]) (ok := fun _ => True) (okp := fun _ => True) ?hr ?hp (fun _ hk => hk) trivial (Below.refl _ _) (Nat.le_refl _) (by simp) ?_; (case hd => rfl); (case hg => rfl); (case hr => first | (go_simp; done) | (go_simp; rfl)); (case hp => exact (Reps.one (show Kd.M (Kd.int .i64) _ _ _ t694 [.int .i64 t694] from rfl) (Reps.none _ _))); intro v696 w64 ho65 hb hg_ hnew_; clear hg_ hnew_; (first | rw [← Ny695.out] at ho65 | (simp only [Int.reduceToNat] at ho65; rw [← Ny695.out] at ho65)); have HO697 := Aside0.mk (Kd.R_lower (Kd.R_new' (Kd.R_new' ho65 (Kd.R_lt (kdQ HO_9))) (Kd.R_lt (kdQ HO_12))) (keep_size (w := w) (g := g) (row := none) (zQ09bx2))); replace HO_9 := Aside0.mk (Kd.R_elder' (kdQ HO_9) (Kd.R_base ho65) hb); replace HO_12 := Aside0.mk (Kd.R_elder' (kdQ HO_12) (Kd.R_base ho65) hb); replace HK := Aside0.mk (KeepBut.trans (zQ09bx2) (KeepBut.of_below hb g none) (.inl rfl)); replace HB := Aside0.mk (below_step (zQ09bx1) hb); replace HI0 := Aside0.mk (IsS61.below (zQ09bx0) hb); clear hb ho65; obtain ⟨Ao67, co67, eo67⟩ := Kd.R_slice HO697.out; subst eo67) | ((with_reducible refine gate_builtin (b := .append) (xs := #[.tmp 101, .tmp 105]) rfl ?_); at_builtin; refine Kd.R_append_rows (Kd.int .i64) w.heap.size rfl (.tmp 101) (.tmp 105) 22 2 (.int .i64 0) 8 rfl Tryd.underlying22 info2 rfl (by decide) (by omega) u12 x12_3 y695 _ _ _ (fun k_ => some k_ ≠ (.slice Ao63 x9_2.length co63 : Value).ownBlock ∧ some k_ ≠ (.slice Ao67 y695.length co67 : Value).ownBlock) (fun _ => False) rfl rfl ?aO ?aR (fun _ _ h => h) (fun _ h => h.elim) ?aF (Below.refl _ _) ?aS ?aL ?_; (case aR => repeat (first | exact (Kd.R_reads' HO697.out).2.2 | (with_reducible refine Kd.C_alloc ?_ _) | (with_reducible refine Kd.C_drewN ?_ _) | (with_reducible refine Kd.C_drew ?_))); (case aF => exact (fun k_ hk => ⟨Kd.fresh' (Kd.R_lt (kdQ HO_9)) k_ hk, Kd.fresh' (Kd.R_lt (kdQ HO697)) k_ hk⟩)); (case aO => exact (kdQ HO_12)); (case aS => exact (keep_size (w := w) (g := g) (row := none) (zQ09bx2))); (case aL => have := LMc62.out; omega); intro v699 w66 ho hb hg hat; rw [← Ny698.out] at ho; have n0_ := Aside0.mk (Kd.R_after (ok := (fun k_ => some k_ ≠ (.slice Ao67 y695.length co67 : Value).ownBlock)) (by (with_reducible repeat (first | apply Kd.R_alloc | apply Kd.R_drewN | apply Kd.R_drew)); exact Kd.R_mono HO_9.out (fun _ hk => ⟨hk.2, hk.1⟩)) hg hat); have n1_ := Aside0.mk (IsS61.grown (zQ09bx0) hg (IsS61.own_ne HI0.out HO_12.out (by decide))); have n2_ := Aside0.mk (Kd.R_after (ok := (fun k_ => some k_ ≠ (.slice Ao63 x9_2.length co63 : Value).ownBlock)) (by (with_reducible repeat (first | apply Kd.R_alloc | apply Kd.R_drewN | apply Kd.R_drew)); exact Kd.R_mono HO697.out (fun _ hk => ⟨hk.1.2, hk.2⟩)) hg hat); have n3_ := Aside0.mk (below_weaken (zQ09bx1) HL.out hb); have n4_ := Aside0.mk (KeepBut.trans (zQ09bx2) (KeepBut.of_grown hg g) (Kd.R_base2 HO_12.out)); have n5_ := Aside0.mk (ho); clear HO_9; clear HI0; clear HO697; clear HB; clear HK; clear HO_12; have HO_9 := n0_; have HI0 := n1_; have HO697 := n2_; have HB := n3_; have HK := n4_; have HO700 := n5_; clear n0_ n1_ n2_ n3_ n4_ n5_; clear ho hb hg hat))
             go_roundg k3
             case measure => have := HK1.out; have := HK2.out; have := HK3.out; omega
             case rel => exact ⟨(y698), (wrap64 (x13_3 + 1)), sz, H', ⟨by have := HK1.out; have := HK2.out; have := HK3.out; omega⟩, ⟨by (with_reducible repeat (first | apply Kd.R_alloc | apply Kd.R_drewN | apply Kd.R_drew)); exact Kd.R_mono HO_9.out (fun _ hk => hk.2)⟩, ⟨by (with_reducible repeat (first | apply Kd.R_alloc | apply Kd.R_drewN | apply Kd.R_drew)); exact Kd.R_mono HO700.out (fun _ hk => hk.1)⟩, ⟨zQ09bx0⟩, ⟨zQ09bx2⟩, ⟨zQ09bx1⟩⟩
            ·rw [if_neg c62] at H
             exact absurd H (by simp)
           ·rw [if_neg c60] at H
            have c60b0 : decide (x13_3 < t644) = false := decide_eq_false c60
            clear c60; have HC68 := Aside0.mk H; clear H
            go_upto_region 23 with (fail)
            go_cut [113] (fun v113 wc => ∃ (kq : Nat) (x113_67 : Bool) (x1001_67 : Int) (x1002_67 : Int), v113 = .bool x113_67 ∧ Aside0 (spec_l01Order.j4 kq t644 x12_3 x113_67 s0_0 x1001_67 x1002_67 = some (r1, r2, r3)) ∧ Aside0 (kq ≤ k3) ∧ Aside0 (Kd.R (Kd.int .i64) 2 wc w.heap.size (fun _ => True) u12 x12_3) ∧ Aside0 (IsS61 w0 wc g s0_0 x1001_67 x1002_67) ∧ Aside0 (KeepBut w wc g none) ∧ Aside0 (Below w0.heap.size w0 wc))
            case first =>
             have H := HC68.out; clear HC68
             by_cases c69 : t644 > 0
             ·rw [if_pos c69] at H
              have c69b0 : decide (0 < t644) = true := decide_eq_true c69
              clear c69
              (first | rw [c69b0] | (simp only [i64_w, i32_w]; rw [c69b0]) | skip)
              replace H := Option.bind_eq_some_iff.mp H
              obtain ⟨⟨t701, t702, t703⟩, A700, H⟩ := H
              replace H : (spec_l01Order.j4 k3 t644 x12_3 (t701 == 0) s0_0 t702 t703) = some (r1, r2, r3) := H
              have A70 := Aside0.mk A700; clear A700
              have H' := Aside0.mk H
              clear H
              go_wp2_with (first | (go_at_call 40; (with_reducible refine (spec_l01Next.calls g s0_0 x1001_2 x1002_2 14 t701 t702 t703 w0 _ ?side1 ?side2 A70.out).mono ?_); (case side1 => exact zQ09bx0); (case side2 => exact zQ09bx1); rintro e w71 ⟨rfl, hi, hb, hk⟩; replace HO_9 := Aside0.mk (Kd.R_mono (Kd.R_keep (IsS61.apart (show IsS61 w0 _ g s0_0 x1001_2 x1002_2 from zQ09bx0) (kdQ HO_9) (by decide)) hk (fun _ h => h.2)) (fun _ h => h.1)); replace HO_12 := Aside0.mk (Kd.R_mono (Kd.R_keep (IsS61.apart (show IsS61 w0 _ g s0_0 x1001_2 x1002_2 from zQ09bx0) (kdQ HO_12) (by decide)) hk (fun _ h => h.2)) (fun _ h => h.1)); replace HK := Aside0.mk (KeepBut.trans (zQ09bx2) hk (.inl rfl)); replace HB := Aside0.mk (hb); replace HI0 := Aside0.mk (hi); (try clear hb); (try clear hb2); (try clear hk); (try clear hi); (try clear hgw_)))
              go_meet
              case rel => exact ⟨_, ((t701 == 0)), (t702), (t703), sz, H', ⟨by have := HK1.out; have := HK2.out; have := HK3.out; first | omega | exact Nat.le_refl _⟩, ⟨by (with_reducible repeat (first | apply Kd.R_alloc | apply Kd.R_drewN | apply Kd.R_drew)); exact Kd.R_mono HO_12.out (fun _ hk => trivial)⟩, ⟨zQ09bx0⟩, ⟨zQ09bx2⟩, ⟨zQ09bx1⟩⟩
             ·rw [if_neg c69] at H
              have c69b0 : decide (0 < t644) = false := decide_eq_false c69
              clear c69
              (first | rw [c69b0] | (simp only [i64_w, i32_w]; rw [c69b0]) | skip)
              have H' := Aside0.mk H
              clear H
              go_wp2
              go_meet
              case rel => exact ⟨_, (false), (x1001_2), (x1002_2), sz, H', ⟨by have := HK1.out; have := HK2.out; have := HK3.out; first | omega | exact Nat.le_refl _⟩, ⟨by (with_reducible repeat (first | apply Kd.R_alloc | apply Kd.R_drewN | apply Kd.R_drew)); exact Kd.R_mono HO_12.out (fun _ hk => trivial)⟩, ⟨zQ09bx0⟩, ⟨zQ09bx2⟩, ⟨zQ09bx1⟩⟩
            case rest =>
             clear HC68
             try clear c1
             try clear q1
             try clear c2
             try clear p2
             try clear q2
             try clear c3
             try clear p3
             try clear q3
             try clear hx3
             try clear hf3
             try clear c4
             try clear c5
             try clear p5
             try clear q5
             try clear hx5
             try clear hf5
             try clear c6
             try clear p6
             try clear q6
             try clear hx6
             try clear c7
             try clear c7b0
             try clear c9
             try clear c9b0
             try clear c9b1
             try clear c10
             try clear c10b0
             try clear c10b1
             try clear c12
             try clear c13
             try clear c13b0
             try clear c14
             try clear c14b0
             try clear c15
             try clear q18
             try clear c20
             try clear q20
             try clear c28
             try clear c28b0
             try clear c28b1
             try clear c29
             try clear c29b0
             try clear c29b1
             try clear c32
             try clear c32b0
             try clear c33
             try clear c33b0
             try clear c34
             try clear c34b0
             try clear c35
             try clear c35b0
             try clear c36
             try clear c36b0
             try clear p38
             try clear q38
             try clear hx38
             try clear hf38
             try clear c40
             try clear c43
             try clear c43b0
             try clear c45
             try clear c45b0
             try clear c45b1
             try clear c46
             try clear c46b0
             try clear c47
             try clear c47b0
             try clear c48
             try clear c48b0
             try clear c49
             try clear c49b0
             try clear c50
             try clear c50b0
             try clear c51
             try clear c51b0
             try clear p53
             try clear q53
             try clear hx53
             try clear hf53
             try clear c60
             try clear c60b0
             try clear c62
             try clear p64
             try clear p67
             try clear q67
             try clear hx67
             try clear c68
             try clear p68
             try clear q68
             try clear hx68
             try clear c69
             try clear c69b0
             try clear hx38_0
             try clear hx53_0
             try clear hx676_0
             try clear hx677_0
             try clear hx678_0
             try clear hx679_0
             try clear hx685_0
             try clear hx686_0
             try clear hx687_0
             try clear hx688_0
             try clear p2
             try clear p3
             try clear p38
             try clear p5
             try clear p53
             try clear p6
             try clear p676
             try clear p677
             try clear p678
             try clear p679
             try clear p685
             try clear p686
             try clear p687
             try clear p688
             try clear q020
             try clear q1
             try clear q18
             try clear q2
             try clear q20
             try clear q3
             try clear q38
             try clear q5
             try clear q53
             try clear q6
             try clear q676
             try clear q677
             try clear q678
             try clear q679
             try clear q685
             try clear q686
             try clear q687
             try clear q688
             obtain ⟨kq, x113_67, x1001_67, x1002_67, rfl, HA, HJ67, HO_12, HI0, HK, HB⟩ := hcut
             cases kq with
             | zero => exact absurd HA.out (by simp [spec_l01Order.j4])
             | succ kj67 =>
              have H := HA.out; clear HA
              simp only [spec_l01Order.j4] at H
              by_cases c72 : x113_67 = true
              ·subst c72
               have H1 : ((spec_l01Next.f s0_0 x1001_67 x1002_67 t644).bind fun bt704 => ((spec_l01Full.f t644).bind fun t707 => ((spec_l01One.f t644).bind fun t708 => (if 0 ≤ bt704.1 then (if bt704.1 < (x12_3.length : Int) then ((spec_l01One.f bt704.1).bind fun t710 => ((spec_l01Pick.f s0_0 bt704.2.1 bt704.2.2 (([0, t707, t708, wrap64 ((rd x12_3 bt704.1) - t710)] : List Int))).bind fun bt714 => (some ((x12_3.set (bt704.1 : Int).toNat bt714.1), bt714.2.1, bt714.2.2)))) else (none)) else (none))))) = some (r1, r2, r3) := by rw [if_pos rfl] at H; exact H
               clear H; have H := H1; clear H1; replace H := Option.bind_eq_some_iff.mp H
               obtain ⟨⟨t704, t705, t706⟩, A730, H⟩ := H
               replace H : ((spec_l01Full.f t644).bind fun t707 => ((spec_l01One.f t644).bind fun t708 => (if 0 ≤ t704 then (if t704 < (x12_3.length : Int) then ((spec_l01One.f t704).bind fun t710 => ((spec_l01Pick.f s0_0 t705 t706 (([0, t707, t708, wrap64 ((rd x12_3 t704) - t710)] : List Int))).bind fun bt714 => (some ((x12_3.set (t704 : Int).toNat bt714.1), bt714.2.1, bt714.2.2)))) else (none)) else (none)))) = some (r1, r2, r3) := H
               have A73 := Aside0.mk A730; clear A730; replace H := Option.bind_eq_some_iff.mp H; obtain ⟨t707, A740, H⟩ := H
               replace H : ((spec_l01One.f t644).bind fun t708 => (if 0 ≤ t704 then (if t704 < (x12_3.length : Int) then ((spec_l01One.f t704).bind fun t710 => ((spec_l01Pick.f s0_0 t705 t706 (([0, t707, t708, wrap64 ((rd x12_3 t704) - t710)] : List Int))).bind fun bt714 => (some ((x12_3.set (t704 : Int).toNat bt714.1), bt714.2.1, bt714.2.2)))) else (none)) else (none))) = some (r1, r2, r3) := H
               have A74 := Aside0.mk A740; clear A740; replace H := Option.bind_eq_some_iff.mp H; obtain ⟨t708, A750, H⟩ := H
               replace H : (if 0 ≤ t704 then (if t704 < (x12_3.length : Int) then ((spec_l01One.f t704).bind fun t710 => ((spec_l01Pick.f s0_0 t705 t706 (([0, t707, t708, wrap64 ((rd x12_3 t704) - t710)] : List Int))).bind fun bt714 => (some ((x12_3.set (t704 : Int).toNat bt714.1), bt714.2.1, bt714.2.2)))) else (none)) else (none)) = some (r1, r2, r3) := H
               have A75 := Aside0.mk A750; clear A750
               by_cases c76 : 0 ≤ t704
               ·rw [if_pos c76] at H
                have c76b0 : decide (0 ≤ t704) = true := decide_eq_true c76
                clear c76
                by_cases c77 : t704 < (x12_3.length : Int)
                ·rw [if_pos c77] at H
                 have c77b0 : decide (t704 < (x12_3.length : Int)) = true := decide_eq_true c77
                 clear c77; replace H := Option.bind_eq_some_iff.mp H; obtain ⟨t710, A780, H⟩ := H
                 replace H : ((spec_l01Pick.f s0_0 t705 t706 (([0, t707, t708, wrap64 ((rd x12_3 t704) - t710)] : List Int))).bind fun bt714 => (some ((x12_3.set (t704 : Int).toNat bt714.1), bt714.2.1, bt714.2.2))) = some (r1, r2, r3) := H
                 have A78 := Aside0.mk A780; clear A780
                 obtain ⟨y711, hy711⟩ : ∃ y_ : List Int, y_ = (([0, t707, t708, wrap64 ((rd x12_3 t704) - t710)] : List Int)) := ⟨_, rfl⟩
                 replace H : ((spec_l01Pick.f s0_0 t705 t706 y711).bind fun bt714 => (some ((x12_3.set (t704 : Int).toNat bt714.1), bt714.2.1, bt714.2.2))) = some (r1, r2, r3) := by first | (rw [hy711]; with_reducible exact H) | (have H2_ := (Option.bind_some _ _).symm.trans H; rw [hy711]; with_reducible exact H2_) | (have H2_ := (Option.bind_some _ _).symm.trans H; with_reducible exact H2_) | with_reducible exact H | (rw [hy711]; exact H) | exact H
                 have Ny711 := Aside0.mk hy711; clear hy711; replace H := Option.bind_eq_some_iff.mp H
                 obtain ⟨⟨t714, t715, t716⟩, A790, H⟩ := H
                 replace H : (some ((x12_3.set (t704 : Int).toNat t714), t715, t716)) = some (r1, r2, r3) := H
                 have A79 := Aside0.mk A790; clear A790
                 obtain ⟨y717, hy717⟩ : ∃ y_ : List Int, y_ = (x12_3.set (t704 : Int).toNat t714) := ⟨_, rfl⟩
                 replace H : (some (y717, t715, t716)) = some (r1, r2, r3) := by first | (rw [hy717]; with_reducible exact H) | (have H2_ := (Option.bind_some _ _).symm.trans H; rw [hy717]; with_reducible exact H2_) | (have H2_ := (Option.bind_some _ _).symm.trans H; with_reducible exact H2_) | with_reducible exact H | (rw [hy717]; exact H) | exact H
                 have Ny717 := Aside0.mk hy717; clear hy717
                 simp only [Option.some.injEq, Prod.mk.injEq] at H
                 obtain ⟨rfl, rfl, rfl⟩ := H
                 try go_wp2_with (first | ((with_reducible refine gate_callee (f := 40) rfl ?_); refine goesL_ (some 116) rfl rfl Tryd.func40 (by kernel_rfl) rfl #[.pointer (some ⟨g, 0, none⟩), .int .i64 t644] rfl lz ?_; (with_reducible refine (spec_l01Next.calls g s0_0 x1001_67 x1002_67 t644 t704 t705 t706 w0 _ ?side1 ?side2 A73.out).mono ?_); (case side1 => exact zQ09bx0); (case side2 => exact zQ09bx1); rintro e w81 ⟨rfl, hi, hb, hk⟩; refine ⟨_, rfl, ?_⟩; replace HO_12 := Aside0.mk (Kd.R_mono (Kd.R_keep (IsS61.apart (show IsS61 w0 _ g s0_0 x1001_67 x1002_67 from zQ09bx0) (kdQ HO_12) (by decide)) hk (fun _ h => h.2)) (fun _ h => h.1)); replace HK := Aside0.mk (KeepBut.trans (zQ09bx2) hk (.inl rfl)); replace HB := Aside0.mk (hb); replace HI0 := Aside0.mk (hi); (try clear hb); (try clear hb2); (try clear hk); (try clear hi); (try clear hgw_)))
                 replace HO_12 := Aside0.mk (Kd.R_drew HO_12.out); replace HI0 := Aside0.mk (IsS61.drew HI0.out); replace HK := Aside0.mk (keep_drew HK.out); replace HB := Aside0.mk (below_drew1 HB.out); obtain ⟨Ao83, co83, eo83⟩ := Kd.R_slice HO_12.out
                 (first | subst eo83 | (injection eo83 with f1_ f2_ f3_; have f4_ := f1_.symm; have f5_ := f3_.symm; clear f1_ f2_ f3_; subst f4_; subst f5_))
                 have p709 : 0 ≤ (t704 : Int) := of_decide_eq_true (by first | (with_reducible assumption) | assumption)
                 have q709 : t704 < (x12_3.length : Int) := of_decide_eq_true (by first | (with_reducible assumption) | assumption)
                 obtain ⟨ad709, e709, hx709_0⟩ := Kd.at_int (Kd.R_reads' HO_12.out).2.2 t704 p709 q709; cases e709; replace p709 := eq_true p709; replace q709 := eq_true q709
                 refine start_ (n := 18) (S := fun w' => w'.cell? (ad709.add (t704).toNat) = some (.int .i64 (rd x12_3 t704))) (ds := [17]) #[false, false, false, false, false, false, false, false, false, false, false, false, false, false, false, false, false, false] (by kernel_rfl) rfl rfl (hx709_0) (fun hHeld => ?_); refine with_tabW spec_l01Order.tab25 spec_l01Order.bits25 (fun HT_ HW_ => ?_)
                 generalize w81.drew = w82 at HO_12 HI0 HK HB hx709_0 hHeld ⊢
                 refine pure_ (i := 0) (N := some 117) (v := ?_) (a' := ?_) #[true, false, false, false, false, false, false, false, false, false, false, false, false, false, false, false, false, false] rfl rfl (any_of HT_.out (by kernel_rfl)) (fun _ _ _ h => h) (Or.inl ⟨by rfl, ?_⟩) ?_ ?_
                 rotate_left
                 ·intro w'
                  go_simp
                  with_reducible rfl
                 rotate_left
                 ·simp only [Act.put, s1, s2, s3, i64_w, i32_w]
                  rfl
                 refine pure_ (i := 1) (N := some 118) (v := ?_) (a' := ?_) #[true, true, false, false, false, false, false, false, false, false, false, false, false, false, false, false, false, false] rfl rfl (any_of HT_.out (by kernel_rfl)) (fun _ _ _ h => h) (Or.inl ⟨by rfl, ?_⟩) ?_ ?_
                 rotate_left
                 ·intro w'
                  go_simp
                  with_reducible rfl
                 rotate_left
                 ·simp only [Act.put, s1, s2, s3, i64_w, i32_w]
                  rfl
                 refine pure_ (i := 2) (N := some 119) (v := ?_) (a' := ?_) #[true, true, true, false, false, false, false, false, false, false, false, false, false, false, false, false, false, false] rfl rfl (any_of HT_.out (by kernel_rfl)) (fun _ _ _ h => h) (Or.inl ⟨by rfl, ?_⟩) ?_ ?_
                 rotate_left
                 ·intro w'
                  go_simp
                  with_reducible rfl
                 rotate_left
                 ·simp only [Act.put, s1, s2, s3, i64_w, i32_w]
                  rfl
                 refine pure_ (i := 3) (N := some 120) (v := ?_) (a' := ?_) #[true, true, true, true, false, false, false, false, false, false, false, false, false, false, false, false, false, false] rfl rfl (any_of HT_.out (by kernel_rfl)) (fun _ _ _ h => h) (Or.inl ⟨by rfl, ?_⟩) ?_ ?_
                 rotate_left
                 ·intro w'
                  go_simp
                  with_reducible rfl
                 rotate_left
                 ·simp only [Act.put, s1, s2, s3, i64_w, i32_w]
                  rfl
                 refine pure_ (i := 5) (N := some 122) (v := ?_) (a' := ?_) #[true, true, true, true, false, true, false, false, false, false, false, false, false, false, false, false, false, false] rfl rfl (any_of HT_.out (by kernel_rfl)) (fun _ _ _ h => h) (Or.inl ⟨by rfl, ?_⟩) ?_ ?_
                 rotate_left
                 ·intro w'
                  go_simp
                  with_reducible rfl
                 rotate_left
                 ·simp only [Act.put, s1, s2, s3, i64_w, i32_w]
                  rfl
                 refine pure_ (i := 7) (N := some 124) (v := ?_) (a' := ?_) #[true, true, true, true, false, true, false, true, false, false, false, false, false, false, false, false, false, false] rfl rfl (any_of HT_.out (by kernel_rfl)) (fun _ _ _ h => h) (Or.inl ⟨by rfl, ?_⟩) ?_ ?_
                 rotate_left
                 ·intro w'
                  go_simp
                  with_reducible rfl
                 rotate_left
                 ·simp only [Act.put, s1, s2, s3, i64_w, i32_w]
                  rfl
                 refine pure_ (i := 8) (N := some 125) (v := ?_) (a' := ?_) #[true, true, true, true, false, true, false, true, true, false, false, false, false, false, false, false, false, false] rfl rfl (any_of HT_.out (by kernel_rfl)) (fun _ _ _ h => h) (Or.inl ⟨by rfl, ?_⟩) ?_ ?_
                 rotate_left
                 ·intro w'
                  go_simp
                  with_reducible rfl
                 rotate_left
                 ·simp only [Act.put, s1, s2, s3, i64_w, i32_w]
                  rfl
                 refine pure_ (i := 9) (N := some 126) (v := ?_) (a' := ?_) #[true, true, true, true, false, true, false, true, true, true, false, false, false, false, false, false, false, false] rfl rfl (any_of HT_.out (by kernel_rfl)) (fun _ _ _ h => h) (Or.inl ⟨by rfl, ?_⟩) ?_ ?_
                 rotate_left
                 ·intro w'
                  go_simp
                  with_reducible rfl
                 rotate_left
                 ·simp only [Act.put, s1, s2, s3, i64_w, i32_w]
                  rfl
                 refine pure_ (i := 11) (N := some 128) (v := ?_) (a' := ?_) #[true, true, true, true, false, true, false, true, true, true, false, true, false, false, false, false, false, false] rfl rfl (any_of HT_.out (by kernel_rfl)) (fun _ _ _ h => h) (Or.inl ⟨by rfl, ?_⟩) ?_ ?_
                 rotate_left
                 ·intro w'
                  go_simp
                  with_reducible rfl
                 rotate_left
                 ·simp only [Act.put, s1, s2, s3, i64_w, i32_w]
                  rfl
                 refine take_ (i := 10) (N := some 127) (v := ?_) (a' := ?_) #[true, true, true, true, false, true, false, true, true, true, true, true, false, false, false, false, false, false] rfl rfl (take_ofW HT_.out HW_.out (by kernel_rfl)) (fun _ _ _ h => h) (Or.inl ⟨by rfl, ?_⟩) hHeld ?_ ?_
                 rotate_left
                 ·intro w' s0
                  go_simp
                  with_reducible rfl
                 rotate_left
                 ·simp only [Act.put, s1, s2, s3, i64_w, i32_w]
                  rfl
                 refine one_ (i := 4) (N := some 121) #[true, true, true, true, true, true, false, true, true, true, true, true, false, false, false, false, false, false] rfl rfl (one_of HT_.out (by kernel_rfl)) (by decide) (fun K hK => ?_)
                 refine goes_ Tryd.func69 (by kernel_rfl) rfl #[.int .i64 t644] (by rfl) rfl rfl lz ?_
                 with_reducible refine (spec_l01Full.calls t644 t707 _ A74.out).mono ?_
                 rintro e w' ⟨rfl, ⟨nd, rfl⟩⟩
                 refine ⟨_, rfl, ?_⟩
                 refine hK.out _ _ (hHeld) (fun hHeld => ?_)
                 clear hK K
                 refine norm_ (a' := ?_) ?_ ?_
                 rotate_left
                 ·show Act.put _ (some 121) _ = _
                  simp only [Act.put, s1, s2, s3, i64_w, i32_w]
                  rfl
                 refine one_ (i := 6) (N := some 123) #[true, true, true, true, true, true, true, true, true, true, true, true, false, false, false, false, false, false] rfl rfl (one_of HT_.out (by kernel_rfl)) (by decide) (fun K hK => ?_)
                 refine goes_ Tryd.func47 (by kernel_rfl) rfl #[.int .i64 t644] (by rfl) rfl rfl lz ?_
                 with_reducible refine (spec_l01One.calls t644 t708 _ A75.out).mono ?_
                 rintro e w' ⟨rfl, ⟨nd, rfl⟩⟩
                 refine ⟨_, rfl, ?_⟩
                 refine hK.out _ _ (hHeld) (fun hHeld => ?_)
                 clear hK K
                 refine norm_ (a' := ?_) ?_ ?_
                 rotate_left
                 ·show Act.put _ (some 123) _ = _
                  simp only [Act.put, s1, s2, s3, i64_w, i32_w]
                  rfl
                 refine one_ (i := 12) (N := some 129) #[true, true, true, true, true, true, true, true, true, true, true, true, true, false, false, false, false, false] rfl rfl (one_of HT_.out (by kernel_rfl)) (by decide) (fun K hK => ?_)
                 refine goes_ Tryd.func47 (by kernel_rfl) rfl #[.int .i64 t704] (by rfl) rfl rfl lz ?_
                 with_reducible refine (spec_l01One.calls t704 t710 _ A78.out).mono ?_
                 rintro e w' ⟨rfl, ⟨nd, rfl⟩⟩
                 refine ⟨_, rfl, ?_⟩
                 refine hK.out _ _ (hHeld) (fun hHeld => ?_)
                 clear hK K
                 refine norm_ (a' := ?_) ?_ ?_
                 rotate_left
                 ·show Act.put _ (some 129) _ = _
                  simp only [Act.put, s1, s2, s3, i64_w, i32_w]
                  rfl
                 refine pure_ (i := 13) (N := some 130) (v := ?_) (a' := ?_) #[true, true, true, true, true, true, true, true, true, true, true, true, true, true, false, false, false, false] rfl rfl (any_of HT_.out (by kernel_rfl)) (fun _ _ _ h => h) (Or.inl ⟨by rfl, ?_⟩) ?_ ?_
                 rotate_left
                 ·intro w'
                  go_simp
                  with_reducible rfl
                 rotate_left
                 ·simp only [Act.put, s1, s2, s3, i64_w, i32_w]
                  rfl
                 refine one_ (i := 14) (N := some 131) #[true, true, true, true, true, true, true, true, true, true, true, true, true, true, true, false, false, false] rfl rfl (one_of HT_.out (by kernel_rfl)) (by decide) (fun K hK => ?_)
                 refine Kd.R_lit_step (Kd.int .i64) _ 2 ?hg (N := 131) ?hd (xs := ([0, t707, t708, wrap64 ((rd x12_3 t704) - t710)] : List Int)) (inner := [.int .i64 0, .int .i64 t707, .int .i64 t708, .int .i64 (wrap64 ((rd x12_3 t704) - t710))]) (ok := fun _ => True) (okp := fun _ => True) ?hr ?hp (fun _ hk => hk) trivial (Below.refl _ _) (Nat.le_refl _) (by simp) ?_; (case hd => rfl); (case hg => rfl); (case hr => first | (go_simp; done) | (go_simp; rfl)); (case hp => exact (Reps.one (show Kd.M (Kd.int .i64) _ _ _ 0 [.int .i64 0] from rfl) (Reps.one (show Kd.M (Kd.int .i64) _ _ _ t707 [.int .i64 t707] from rfl) (Reps.one (show Kd.M (Kd.int .i64) _ _ _ t708 [.int .i64 t708] from rfl) (Reps.one (show Kd.M (Kd.int .i64) _ _ _ (wrap64 ((rd x12_3 t704) - t710)) [.int .i64 (wrap64 ((rd x12_3 t704) - t710))] from rfl) (Reps.none _ _))))))
                 intro v712 w84 ho85 hb hg_ hnew_
                 have HS0_ := (hb.cell (World.block_lt_of_cell? _ _ (hHeld))).trans (hHeld); clear hg_ hnew_
                 (first | rw [← Ny711.out] at ho85 | (simp only [Int.reduceToNat] at ho85; rw [← Ny711.out] at ho85))
                 have HO713 := Aside0.mk (Kd.R_lower (Kd.R_new' ho85 (Kd.R_lt (kdQ HO_12))) (keep_size (w := w) (g := g) (row := none) (zQ09bx2)))
                 replace HO_12 := Aside0.mk (Kd.R_elder' (kdQ HO_12) (Kd.R_base ho85) hb)
                 replace HK := Aside0.mk (KeepBut.trans (zQ09bx2) (KeepBut.of_below hb g none) (.inl rfl))
                 replace HB := Aside0.mk (below_step (zQ09bx1) hb)
                 replace HI0 := Aside0.mk (IsS61.below (zQ09bx0) hb)
                 clear hb ho85; obtain ⟨Ao86, co86, eo86⟩ := Kd.R_slice HO713.out
                 (first | subst eo86 | (injection eo86 with f1_ f2_ f3_; have f4_ := f1_.symm; have f5_ := f3_.symm; clear f1_ f2_ f3_; subst f4_; subst f5_))
                 refine hK.out _ _ (HS0_) (fun hHeld => ?_)
                 clear hK K
                 refine norm_ (a' := ?_) ?_ ?_
                 rotate_left
                 ·show Act.put _ (some 131) _ = _
                  simp only [Act.put, s1, s2, s3, i64_w, i32_w]
                  rfl
                 refine one_ (i := 15) (N := some 132) #[true, true, true, true, true, true, true, true, true, true, true, true, true, true, true, true, false, false] rfl rfl (one_of HT_.out (by kernel_rfl)) (by decide) (fun K hK => ?_)
                 refine goes_ Tryd.func46 (by kernel_rfl) rfl #[.pointer (some ⟨g, 0, none⟩), .slice Ao86 y711.length co86] (by rfl) rfl rfl lz ?_
                 with_reducible refine (spec_l01Pick.calls g s0_0 t705 t706 _ _ y711 t714 t715 t716 w0 _ ?side1 ?side2 ?side3 ?side4 ?side5 A79.out).mono ?_
                 (case side1 => exact zQ09bx0)
                 (case side2 => exact zQ09bx1)
                 (case side3 => have q_ := Aside0.mk (Kd.R_reads' HO713.out).2.2; exact cQ q_)
                 (case side4 => exact (Kd.R_reads' HO713.out).2.1)
                 (case side5 => exact far_slice (IsS61.own_ne HI0.out HO713.out (by decide)))
                 rintro e w87 ⟨rfl, hi, hb, hk⟩
                 have HS0_ := keep_cell hk (hHeld) (by first | (rw [add_block]; exact Kd.own_blk (IsS61.own_ne HI0.out HO_12.out (by decide))) | (show (Addr.add _ _).block ≠ _; rw [add_block]; exact Kd.own_blk (IsS61.own_ne HI0.out HO_12.out (by decide))) | exact Kd.own_blk (IsS61.own_ne HI0.out HO_12.out (by decide)))
                 refine ⟨_, rfl, ?_⟩
                 replace HO_12 := Aside0.mk (Kd.R_mono (Kd.R_keep (IsS61.apart (show IsS61 w0 _ g s0_0 t705 t706 from zQ09bx0) (kdQ HO_12) (by decide)) hk (fun _ h => h.2)) (fun _ h => h.1))
                 replace HO713 := Aside0.mk (Kd.R_mono (Kd.R_keep (IsS61.apart (show IsS61 w0 _ g s0_0 t705 t706 from zQ09bx0) (kdQ HO713) (by decide)) hk (fun _ h => h.2)) (fun _ h => h.1))
                 replace HK := Aside0.mk (KeepBut.trans (zQ09bx2) hk (.inl rfl))
                 replace HB := Aside0.mk (hb); replace HI0 := Aside0.mk (hi)
                 (try clear hb)
                 (try clear hb2)
                 (try clear hk)
                 (try clear hi)
                 (try clear hgw_)
                 have p80 : 0 ≤ (t704 : Int) := of_decide_eq_true (by first | (with_reducible assumption) | assumption)
                 have q80 : (t704 : Int) < ((x12_3.length : Int) : Int) := of_decide_eq_true (by first | (with_reducible assumption) | assumption)
                 obtain ⟨go80, co80, eo80, gb80, gl80, cl80, HG80⟩ := Kd.R_form HO_12.out (by omega)
                 (first | cases eo80 | (injection eo80 with ea_ en_ ec_; (first | subst ea_ | (injection ea_ with ea_; subst ea_)); subst ec_; clear en_))
                 have GB80 := Aside0.mk gb80; have GG80 := Aside0.mk HG80; clear gb80 gl80 HG80
                 (first | simp only [add_plain] at hx709_0 | skip)
                 obtain ⟨hx80_0, hf80_0⟩ := Kd.R_celln 0 HO_12.out (t704 : Int) p80 q80; replace p80 := eq_true p80; replace q80 := eq_true q80
                 have HN0_go80 := Aside0.mk (show g ≠ go80 from by have h_ := IsS61.own_ne HI0.out HO_12.out (by decide); intro e_; exact h_ (by rw [e_]; rfl))
                 have HP88 := Kd.R_putn HO_12.out (t704 : Int) t714; rw [← Ny717.out] at HP88; have HQ88 := Aside0.mk HP88; clear HP88
                 refine hK.out _ _ (HS0_) (fun hHeld => ?_)
                 clear hK K
                 refine norm_ (a' := ?_) ?_ ?_
                 rotate_left
                 ·show Act.put _ (some 132) _ = _
                  simp only [Act.put, s1, s2, s3, i64_w, i32_w]
                  rfl
                 refine pure_ (i := 16) (N := some 133) (v := ?_) (a' := ?_) #[true, true, true, true, true, true, true, true, true, true, true, true, true, true, true, true, true, false] rfl rfl (any_of HT_.out (by kernel_rfl)) (fun _ _ _ h => h) (Or.inl ⟨by rfl, ?_⟩) ?_ ?_
                 rotate_left
                 ·intro w'
                  go_simp
                  with_reducible rfl
                 rotate_left
                 ·simp only [Act.put, s1, s2, s3, i64_w, i32_w]
                  rfl
                 refine last_ (i := 17) (N := none) #[true, true, true, true, true, true, true, true, true, true, true, true, true, true, true, true, true, true] rfl rfl (one_of HT_.out (by kernel_rfl)) (by decide) (fun K hK => ?_)
                 refine skip_ (w1 := ?_) (by rfl) rfl ?_ ?_
                 rotate_left
                 ·go_simp
                  rfl
                 refine hK.out _ _ ?_
                 clear hK K
                 refine done_ (done_of HT_.out (by kernel_rfl)) ?_
                 try go_wp2
                 go_ret
                 exact ⟨_, rz, by (with_reducible repeat (first | apply Kd.R_alloc | apply Kd.R_drewN | apply Kd.R_drew)); exact Kd.R_mono HQ88.out (fun _ hk => trivial), by repeat (first | (with_reducible first | exact HI0.out | apply IsS61.alloc | apply IsS61.drewN | apply IsS61.drew | apply IsS61.set_1 | apply IsS61.set_2 | refine IsS61.far ?_ HN0_go80.out _) | exact HI0.out), by repeat (first | (with_reducible first | exact HB.out | apply below_alloc | apply pw_below_drewN | apply below_drew1 | refine below_set ?_ (Nat.le_trans HL.out GB80.out) | refine below_set ?_ (IsS61.ge HI0.out)) | exact HB.out), by repeat (first | (with_reducible first | exact HK.out | apply KeepBut.set_ | apply keep_drewN | apply keep_drew | apply keep_alloc | refine keep_far ?_ GB80.out _) | exact HK.out)⟩
                ·rw [if_neg c77] at H
                 exact absurd H (by simp)
               ·rw [if_neg c76] at H
                exact absurd H (by simp)
              ·replace c72 := Bool.eq_false_iff.mpr c72
               subst c72
               have H1 : (some (x12_3, x1001_67, x1002_67)) = some (r1, r2, r3) := by rw [if_neg (show ¬ (false = true) by decide)] at H; exact H
               clear H; have H := H1; clear H1
               simp only [Option.some.injEq, Prod.mk.injEq] at H
               obtain ⟨rfl, rfl, rfl⟩ := H
               go_wp2
               go_ret
               exact ⟨_, rz, kdQ HO_12, zQ09bx0, zQ09bx1, zQ09bx2⟩
     ·rw [if_neg c29] at H
      exact absurd H (by simp)
    ·rw [if_neg c28] at H
     exact absurd H (by simp)
end Go.Proofs.YtjckfnaohikmbaaDoor.G
