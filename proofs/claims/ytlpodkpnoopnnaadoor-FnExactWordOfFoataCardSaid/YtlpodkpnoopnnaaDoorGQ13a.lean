/- How the program's functions compute, function by function: each is told by a plain Lean function of the same answers, under the condition that this one answers. Written by a program of this project over the seat's translation; Lean checks it. -/
import Derived.Test.YtlpodkpnoopnnaaDoorG0
import Derived.Test.YtlpodkpnoopnnaaDoorGQ01a
import Derived.Test.YtlpodkpnoopnnaaDoorGQ01b
import Derived.Test.YtlpodkpnoopnnaaDoorGQ09b
namespace Go.Proofs.YtlpodkpnoopnnaaDoor.G
open Go.RowKit Go.Proofs.YtlpodkpnoopnnaaDoorW.PrintWords Go.Proofs.YtlpodkpnoopnnaaDoorW.PrintLast Go.Proofs.YtlpodkpnoopnnaaDoorW.PrintMore
attribute [local go_sem] max2_int min2_int max_two min_two max_three min_three max_four min_four   -- for this text's walks alone
set_option linter.unusedVariables false
set_option linter.unusedSimpArgs false

/-! ### spec_l01List: function 110 -/
def spec_l01List.l0 : Nat → Int → List Int → Int → Option (List Int)
 | 0, _, _, _ => none
 | k + 1, x0, x3, x4 => if x0 > 0 then (if (Int.tmod x0 2) = 1 then (if x3.length < 17592186044416 then (spec_l01List.l0 k (wrap64 (Int.tdiv x0 2)) (x3 ++ [x4]) (wrap64 (x4 + 1))) else (none)) else (spec_l01List.l0 k (wrap64 (Int.tdiv x0 2)) x3 (wrap64 (x4 + 1)))) else (some x3)
def spec_l01List.f (k : Nat) (a0 : Int) : Option (List Int) := spec_l01List.l0 k a0 (([] : List Int)) 0
theorem spec_l01List.mono_l : ∀ k, (∀ y0 y1 y2, LeO (spec_l01List.l0 k y0 y1 y2) (spec_l01List.l0 (k + 1) y0 y1 y2))
 | 0 => fun _ _ _ r h => by simp [spec_l01List.l0] at h
 | k + 1 => by
  have ih0 := spec_l01List.mono_l k
  ·intro y0 y1 y2
   unfold spec_l01List.l0
   repeat' first
   | (with_reducible exact ih0 _ _ _)
   | (with_reducible exact LeO.refl _)
   | (with_reducible exact LeO.none _)
   | (with_reducible refine LeO.ite ?_ ?_)
   | (with_reducible refine LeO.bind ?_ (fun _ => ?_))
   | exact ih0 _ _ _
   | exact LeO.none _
   | refine LeO.ite ?_ ?_
   | refine LeO.bind ?_ (fun _ => ?_)
theorem spec_l01List.mono : ∀ a0 k, LeO (spec_l01List.f k a0) (spec_l01List.f (k + 1) a0) := by
 intro a0 k
 have ih0 := spec_l01List.mono_l k
 unfold spec_l01List.f
 repeat' first
   | (with_reducible exact ih0 _ _ _)
   | (with_reducible exact LeO.refl _)
   | (with_reducible exact LeO.none _)
   | (with_reducible refine LeO.ite ?_ ?_)
   | (with_reducible refine LeO.bind ?_ (fun _ => ?_))
   | exact ih0 _ _ _
   | exact LeO.none _
   | refine LeO.ite ?_ ?_
   | refine LeO.bind ?_ (fun _ => ?_)
set_option maxHeartbeats 8000000 in
set_option maxRecDepth 100000 in
theorem spec_l01List.calls (k : Nat) (a0 : Int) (r : List Int) (w : World) (h : spec_l01List.f k a0 = some r) :
  Calls Tryd.prog 110 #[.int .i64 a0] w fun e w' => ∃ v0_ : Value, e = .returned (v0_) ∧ Kd.R (Kd.int .i64) 2 w' w.heap.size (fun _ => True) v0_ r ∧ Below w.heap.size w w' := by
 have HB := Aside0.mk (Below.refl w.heap.size w)
 have H : (spec_l01List.l0 k a0 (([] : List Int)) 0) = some r := h
 clear h
 obtain ⟨y433, hy433⟩ : ∃ y_ : List Int, y_ = (([] : List Int)) := ⟨_, rfl⟩
 replace H : (spec_l01List.l0 k a0 y433 0) = some r := by first | (rw [hy433]; with_reducible exact H) | (have H2_ := (Option.bind_some _ _).symm.trans H; rw [hy433]; with_reducible exact H2_) | (have H2_ := (Option.bind_some _ _).symm.trans H; with_reducible exact H2_) | with_reducible exact H | (rw [hy433]; exact H) | exact H
 have Ny433 := Aside0.mk hy433; clear hy433
 have H' := Aside0.mk H
 clear H
 go_enter Tryd.func110, Tryd.ntmps110
 go_wp2_with (first | ((with_reducible refine gate_dst (N := 5) rfl ?_); refine Kd.R_lit (Kd.int .i64) _ 2 ?hg (N := 5) ?hd (xs := ([] : List Int)) (inner := []) (ok := fun _ => True) (okp := fun _ => True) ?hr ?hp (fun _ hk => hk) trivial (Below.refl _ _) (Nat.le_refl _) (by simp) ?_; (case hd => rfl); (case hg => rfl); (case hr => first | (go_simp; done) | (go_simp; rfl)); (case hp => exact (Reps.none _ _)); intro v434 w2 ho3 hb hg_ hnew_; clear hg_ hnew_; (first | rw [← Ny433.out] at ho3 | (simp only [Int.reduceToNat] at ho3; rw [← Ny433.out] at ho3)); have HO435 := Aside0.mk (Kd.R_lower ho3 (below_size (beQ HB))); replace HB := Aside0.mk (below_step (beQ HB) hb); clear hb ho3))
 go_loopg [0, 3, 4] k (fun kq v0 v3 v4 w' => ∃ (x0_1 : Int) (x3_1 : List Int) (x4_1 : Int), v0 = .int .i64 x0_1 ∧ v4 = .int .i64 x4_1 ∧ Aside0 (spec_l01List.l0 kq x0_1 x3_1 x4_1 = some r) ∧ Aside0 (kq ≤ k) ∧ Aside0 (Kd.R (Kd.int .i64) 2 w' w.heap.size (fun _ => True) v3 x3_1) ∧ Aside0 (Below w.heap.size w w'))
 case atStart => exact ⟨(a0), (y433), (0), sz, sz, H', ⟨Nat.le_refl _⟩, ⟨kdQ HO435⟩, ⟨beQ HB⟩⟩
 case round =>
  clear H'
  try clear c1
  try clear p2
  obtain ⟨x0_1, x3_1, x4_1, rfl, rfl, HA, HK1, HO_3, HB⟩ := hrel
  cases gk with
  | zero => exact absurd HA.out (by simp [spec_l01List.l0])
  | succ k1 =>
   have H := HA.out; clear HA
   simp only [spec_l01List.l0] at H
   by_cases c4 : x0_1 > 0
   ·rw [if_pos c4] at H
    have c4b0 : decide (0 < x0_1) = true := decide_eq_true c4
    clear c4
    by_cases c5 : (Int.tmod x0_1 2) = 1
    ·rw [if_pos c5] at H
     have c5b0 : ((Int.tmod x0_1 2) == 1) = true := beq_iff_eq.mpr c5
     have c5b1 : ((Int.tmod x0_1 2) != 1) = false := bne_eq_false_iff_eq.mpr c5
     clear c5
     by_cases c6 : x3_1.length < 17592186044416
     ·rw [if_pos c6] at H
      have LMc6 := Aside0.mk c6; clear c6
      obtain ⟨y436, hy436⟩ : ∃ y_ : List Int, y_ = (x3_1 ++ [x4_1]) := ⟨_, rfl⟩
      replace H : (spec_l01List.l0 k1 (wrap64 (Int.tdiv x0_1 2)) y436 (wrap64 (x4_1 + 1))) = some r := by first | (rw [hy436]; with_reducible exact H) | (have H2_ := (Option.bind_some _ _).symm.trans H; rw [hy436]; with_reducible exact H2_) | (have H2_ := (Option.bind_some _ _).symm.trans H; with_reducible exact H2_) | with_reducible exact H | (rw [hy436]; exact H) | exact H
      have Ny436 := Aside0.mk hy436; clear hy436
      have H' := Aside0.mk H
      clear H
      go_wp2_with (first | ((with_reducible refine gate_builtin (b := .append) (xs := #[.tmp 13, .tmp 15]) rfl ?_); at_builtin; refine Kd.R_append (Kd.int .i64) (w0 := w) w.heap.size rfl (.tmp 13) (.tmp 15) 22 2 (.int .i64 0) 8 rfl Tryd.underlying22 info2 rfl (by decide) (by omega) u3 x3_1 x4_1 [.int .i64 x4_1] (fun _ => True) (fun _ => False) rfl rfl ?aP (fun _ hk => hk.elim) ?aF ?aO ?aB ?aS ?aL ?_; (case aP => exact rfl); (case aB => exact (beQ HB)); (case aF => exact (fun _ _ => trivial)); (case aO => exact (kdQ HO_3)); (case aS => exact (below_size (beQ HB))); (case aL => have := LMc6.out; omega); intro v437 w7 ho hb hg hat; rw [← Ny436.out] at ho; have n0_ := Aside0.mk (hb); have n1_ := Aside0.mk (ho); clear HB; clear HO_3; have HB := n0_; have HO438 := n1_; clear n0_ n1_; clear ho hb hg hat))
      go_roundg k1
      case measure => have := HK1.out; omega
      case rel => exact ⟨(wrap64 (Int.tdiv x0_1 2)), (y436), (wrap64 (x4_1 + 1)), sz, sz, H', ⟨by have := HK1.out; omega⟩, ⟨kdQ HO438⟩, ⟨beQ HB⟩⟩
     ·rw [if_neg c6] at H
      exact absurd H (by simp)
    ·rw [if_neg c5] at H
     have c5b0 : ((Int.tmod x0_1 2) == 1) = false := beq_eq_false_iff_ne.mpr c5
     have c5b1 : ((Int.tmod x0_1 2) != 1) = true := bne_iff_ne.mpr c5
     have H' := Aside0.mk H
     clear H
     go_wp2
     go_roundg k1
     case measure => have := HK1.out; omega
     case rel => exact ⟨(wrap64 (Int.tdiv x0_1 2)), (x3_1), (wrap64 (x4_1 + 1)), sz, sz, H', ⟨by have := HK1.out; omega⟩, ⟨kdQ HO_3⟩, ⟨beQ HB⟩⟩
   ·rw [if_neg c4] at H
    have c4b0 : decide (0 < x0_1) = false := decide_eq_false c4
    clear c4
    obtain rfl := Option.some.inj H
    go_wp2
    go_ret
    exact ⟨_, rz, kdQ HO_3, beQ HB⟩

/-! ### spec_l03Steps: function 84 -/
def spec_l03Steps.l0 : Nat → List Int → List Int → Int → Option (List Int)
 | 0, _, _, _ => none
 | k + 1, x0, x3, x4 => if x4 < (x0.length : Int) then (if 0 ≤ x4 then ((spec_l01List.f k (rd x0 x4)).bind fun t443 => (if x3.length + t443.length < 17592186044416 then (spec_l03Steps.l0 k x0 (x3 ++ t443) (wrap64 (x4 + 1))) else (none))) else (none)) else (some x3)
def spec_l03Steps.f (k : Nat) (l0 : List Int) : Option (List Int) := spec_l03Steps.l0 k l0 (([] : List Int)) 0
theorem spec_l03Steps.mono_l : ∀ k, (∀ y0 y1 y2, LeO (spec_l03Steps.l0 k y0 y1 y2) (spec_l03Steps.l0 (k + 1) y0 y1 y2))
 | 0 => fun _ _ _ r h => by simp [spec_l03Steps.l0] at h
 | k + 1 => by
  have ih0 := spec_l03Steps.mono_l k
  ·intro y0 y1 y2
   unfold spec_l03Steps.l0
   repeat' first
   | (with_reducible exact ih0 _ _ _)
   | (with_reducible exact spec_l01List.mono _ _)
   | (with_reducible exact LeO.refl _)
   | (with_reducible exact LeO.none _)
   | (with_reducible refine LeO.ite ?_ ?_)
   | (with_reducible refine LeO.bind ?_ (fun _ => ?_))
   | exact ih0 _ _ _
   | exact spec_l01List.mono _ _
   | exact LeO.none _
   | refine LeO.ite ?_ ?_
   | refine LeO.bind ?_ (fun _ => ?_)
theorem spec_l03Steps.mono : ∀ a0 k, LeO (spec_l03Steps.f k a0) (spec_l03Steps.f (k + 1) a0) := by
 intro a0 k
 have ih0 := spec_l03Steps.mono_l k
 unfold spec_l03Steps.f
 repeat' first
   | (with_reducible exact ih0 _ _ _)
   | (with_reducible exact spec_l01List.mono _ _)
   | (with_reducible exact LeO.refl _)
   | (with_reducible exact LeO.none _)
   | (with_reducible refine LeO.ite ?_ ?_)
   | (with_reducible refine LeO.bind ?_ (fun _ => ?_))
   | exact ih0 _ _ _
   | exact spec_l01List.mono _ _
   | exact LeO.none _
   | refine LeO.ite ?_ ?_
   | refine LeO.bind ?_ (fun _ => ?_)
set_option maxHeartbeats 8000000 in
set_option maxRecDepth 100000 in
theorem spec_l03Steps.calls (k : Nat) (A0 : Option Addr) (c0 : Nat) (l0 : List Int) (r : List Int) (w : World) (hr0 : Kd.C (Kd.int .i64) w A0 l0.length l0) (hc0 : l0.length ≤ c0) (h : spec_l03Steps.f k l0 = some r) :
  Calls Tryd.prog 84 #[.slice A0 l0.length c0] w fun e w' => ∃ v0_ : Value, e = .returned (v0_) ∧ Kd.R (Kd.int .i64) 2 w' w.heap.size (fun _ => True) v0_ r ∧ Below w.heap.size w w' := by
 have HR0 := Aside0.mk hr0; have HC0 := Aside0.mk hc0; clear hr0 hc0; have HB := Aside0.mk (Below.refl w.heap.size w)
 have H : (spec_l03Steps.l0 k l0 (([] : List Int)) 0) = some r := h
 clear h
 obtain ⟨y439, hy439⟩ : ∃ y_ : List Int, y_ = (([] : List Int)) := ⟨_, rfl⟩
 replace H : (spec_l03Steps.l0 k l0 y439 0) = some r := by first | (rw [hy439]; with_reducible exact H) | (have H2_ := (Option.bind_some _ _).symm.trans H; rw [hy439]; with_reducible exact H2_) | (have H2_ := (Option.bind_some _ _).symm.trans H; with_reducible exact H2_) | with_reducible exact H | (rw [hy439]; exact H) | exact H
 have Ny439 := Aside0.mk hy439; clear hy439
 have H' := Aside0.mk H
 clear H
 go_enter Tryd.func84, Tryd.ntmps84
 go_wp2_with (first | ((with_reducible refine gate_dst (N := 5) rfl ?_); refine Kd.R_lit (Kd.int .i64) _ 2 ?hg (N := 5) ?hd (xs := ([] : List Int)) (inner := []) (ok := fun _ => True) (okp := fun _ => True) ?hr ?hp (fun _ hk => hk) trivial (Below.refl _ _) (Nat.le_refl _) (by simp) ?_; (case hd => rfl); (case hg => rfl); (case hr => first | (go_simp; done) | (go_simp; rfl)); (case hp => exact (Reps.none _ _)); intro v440 w2 ho3 hb hg_ hnew_; clear hg_ hnew_; (first | rw [← Ny439.out] at ho3 | (simp only [Int.reduceToNat] at ho3; rw [← Ny439.out] at ho3)); have HO441 := Aside0.mk (Kd.R_lower ho3 (below_size (beQ HB))); replace HB := Aside0.mk (below_step (beQ HB) hb); clear hb ho3))
 go_loopg [3, 4] k (fun kq v3 v4 w' => ∃ (x3_1 : List Int) (x4_1 : Int), v4 = .int .i64 x4_1 ∧ Aside0 (spec_l03Steps.l0 kq l0 x3_1 x4_1 = some r) ∧ Aside0 (kq ≤ k) ∧ Aside0 (Kd.R (Kd.int .i64) 2 w' w.heap.size (fun _ => True) v3 x3_1) ∧ Aside0 (Below w.heap.size w w'))
 case atStart => exact ⟨(y439), (0), sz, H', ⟨Nat.le_refl _⟩, ⟨kdQ HO441⟩, ⟨beQ HB⟩⟩
 case round =>
  clear H'
  try clear p2
  obtain ⟨x3_1, x4_1, rfl, HA, HK1, HO_3, HB⟩ := hrel
  cases gk with
  | zero => exact absurd HA.out (by simp [spec_l03Steps.l0])
  | succ k1 =>
   have H := HA.out; clear HA
   simp only [spec_l03Steps.l0] at H
   by_cases c4 : x4_1 < (l0.length : Int)
   ·rw [if_pos c4] at H
    have c4b0 : decide (x4_1 < (l0.length : Int)) = true := decide_eq_true c4
    clear c4
    by_cases c5 : 0 ≤ x4_1
    ·rw [if_pos c5] at H
     have c5b0 : decide (0 ≤ x4_1) = true := decide_eq_true c5
     clear c5; replace H := Option.bind_eq_some_iff.mp H; obtain ⟨t443, A60, H⟩ := H
     replace H : (if x3_1.length + t443.length < 17592186044416 then (spec_l03Steps.l0 k1 l0 (x3_1 ++ t443) (wrap64 (x4_1 + 1))) else (none)) = some r := H
     have A6 := Aside0.mk A60; clear A60
     by_cases c7 : x3_1.length + t443.length < 17592186044416
     ·rw [if_pos c7] at H
      have LMc7 := Aside0.mk c7; clear c7
      obtain ⟨y446, hy446⟩ : ∃ y_ : List Int, y_ = (x3_1 ++ t443) := ⟨_, rfl⟩
      replace H : (spec_l03Steps.l0 k1 l0 y446 (wrap64 (x4_1 + 1))) = some r := by first | (rw [hy446]; with_reducible exact H) | (have H2_ := (Option.bind_some _ _).symm.trans H; rw [hy446]; with_reducible exact H2_) | (have H2_ := (Option.bind_some _ _).symm.trans H; with_reducible exact H2_) | with_reducible exact H | (rw [hy446]; exact H) | exact H
      have Ny446 := Aside0.mk hy446; clear hy446
      have H' := Aside0.mk H
      clear H
      have p442 : 0 ≤ (x4_1 : Int) := of_decide_eq_true (by first | (with_reducible assumption) | assumption)
      have q442 : x4_1 < (l0.length : Int) := of_decide_eq_true (by first | (with_reducible assumption) | assumption)
      obtain ⟨ad442, e442, hx442_0⟩ := Kd.at_int HR0.out x4_1 p442 q442; cases e442; replace hx442_0 := (HB.out.cell (World.block_lt_of_cell? w _ hx442_0)).trans hx442_0; replace p442 := eq_true p442; replace q442 := eq_true q442
      go_wp2_with (first | ((with_reducible refine gate_callee (f := 110) rfl ?_); refine goesL_ (some 17) rfl rfl Tryd.func110 (by kernel_rfl) rfl #[.int .i64 (rd l0 x4_1)] rfl lz ?_; (with_reducible refine (spec_l01List.calls k1 (rd l0 x4_1) t443 _ A6.out).mono ?_); rintro e w8 ⟨v444, rfl, ho0, hb⟩; refine ⟨_, rfl, ?_⟩; have HO445 := Aside0.mk (Kd.R_lower (Kd.R_new' ho0 (Kd.R_lt (kdQ HO_3))) (below_size (beQ HB))); replace HO_3 := Aside0.mk (Kd.R_elder' (kdQ HO_3) (Kd.R_base ho0) hb); replace HB := Aside0.mk (below_step (beQ HB) hb); (try clear hb); (try clear hb2); (try clear hk); (try clear hi); (try clear ho0); obtain ⟨Ao10, co10, eo10⟩ := Kd.R_slice HO445.out; subst eo10) | ((with_reducible refine gate_builtin (b := .append) (xs := #[.tmp 12, .tmp 17]) rfl ?_); at_builtin; refine Kd.R_append_rows (Kd.int .i64) (w0 := w) w.heap.size rfl (.tmp 12) (.tmp 17) 22 2 (.int .i64 0) 8 rfl Tryd.underlying22 info2 rfl (by decide) (by omega) u3 x3_1 t443 _ _ _ (fun k_ => some k_ ≠ (.slice Ao10 t443.length co10 : Value).ownBlock) (fun _ => False) rfl rfl ?aO ?aR (fun _ _ h => h) (fun _ h => h.elim) ?aF ?aB ?aS ?aL ?_; (case aR => repeat (first | exact (Kd.R_reads' HO445.out).2.2 | (with_reducible refine Kd.C_alloc ?_ _) | (with_reducible refine Kd.C_drewN ?_ _) | (with_reducible refine Kd.C_drew ?_))); (case aB => exact (beQ HB)); (case aF => exact (fun k_ hk => Kd.fresh' (Kd.R_lt (kdQ HO445)) k_ hk)); (case aO => exact (by (with_reducible repeat (first | apply Kd.R_alloc | apply Kd.R_drewN | apply Kd.R_drew)); exact Kd.R_mono HO_3.out (fun _ hk => hk.2))); (case aS => exact (below_size (beQ HB))); (case aL => have := LMc7.out; omega); intro v447 w9 ho hb hg hat; rw [← Ny446.out] at ho; have n0_ := Aside0.mk (Kd.R_after (ok := (fun _ => True)) (kdQ HO445) hg hat); have n1_ := Aside0.mk (hb); have n2_ := Aside0.mk (ho); clear HO445; clear HB; clear HO_3; have HO445 := n0_; have HB := n1_; have HO448 := n2_; clear n0_ n1_ n2_; clear ho hb hg hat))
      go_roundg k1
      case measure => have := HK1.out; omega
      case rel => exact ⟨(y446), (wrap64 (x4_1 + 1)), sz, H', ⟨by have := HK1.out; omega⟩, ⟨by (with_reducible repeat (first | apply Kd.R_alloc | apply Kd.R_drewN | apply Kd.R_drew)); exact Kd.R_mono HO448.out (fun _ hk => trivial)⟩, ⟨beQ HB⟩⟩
     ·rw [if_neg c7] at H
      exact absurd H (by simp)
    ·rw [if_neg c5] at H
     exact absurd H (by simp)
   ·rw [if_neg c4] at H
    have c4b0 : decide (x4_1 < (l0.length : Int)) = false := decide_eq_false c4
    clear c4
    obtain rfl := Option.some.inj H
    go_wp2
    go_ret
    exact ⟨_, rz, kdQ HO_3, beQ HB⟩

/-! ### spec_l01Same: function 94 -/
def spec_l01Same.l0 : Nat → List Int → List Int → Int → Option (Bool)
 | 0, _, _, _ => none
 | k + 1, x0, x1, x5 => if x5 < (x0.length : Int) then (if 0 ≤ x5 then (if x5 < (x1.length : Int) then (if (rd x0 x5) = (rd x1 x5) then (spec_l01Same.l0 k x0 x1 (wrap64 (x5 + 1))) else (some false)) else (none)) else (none)) else (some true)
def spec_l01Same.f (k : Nat) (l0 : List Int) (l1 : List Int) : Option (Bool) := if (l0.length : Int) = (l1.length : Int) then (spec_l01Same.l0 k l0 l1 0) else (some false)
theorem spec_l01Same.mono_l : ∀ k, (∀ y0 y1 y2, LeO (spec_l01Same.l0 k y0 y1 y2) (spec_l01Same.l0 (k + 1) y0 y1 y2))
 | 0 => fun _ _ _ r h => by simp [spec_l01Same.l0] at h
 | k + 1 => by
  have ih0 := spec_l01Same.mono_l k
  ·intro y0 y1 y2
   unfold spec_l01Same.l0
   repeat' first
   | (with_reducible exact ih0 _ _ _)
   | (with_reducible exact LeO.refl _)
   | (with_reducible exact LeO.none _)
   | (with_reducible refine LeO.ite ?_ ?_)
   | (with_reducible refine LeO.bind ?_ (fun _ => ?_))
   | exact ih0 _ _ _
   | exact LeO.none _
   | refine LeO.ite ?_ ?_
   | refine LeO.bind ?_ (fun _ => ?_)
theorem spec_l01Same.mono : ∀ a0 a1 k, LeO (spec_l01Same.f k a0 a1) (spec_l01Same.f (k + 1) a0 a1) := by
 intro a0 a1 k
 have ih0 := spec_l01Same.mono_l k
 unfold spec_l01Same.f
 repeat' first
   | (with_reducible exact ih0 _ _ _)
   | (with_reducible exact LeO.refl _)
   | (with_reducible exact LeO.none _)
   | (with_reducible refine LeO.ite ?_ ?_)
   | (with_reducible refine LeO.bind ?_ (fun _ => ?_))
   | exact ih0 _ _ _
   | exact LeO.none _
   | refine LeO.ite ?_ ?_
   | refine LeO.bind ?_ (fun _ => ?_)
set_option maxHeartbeats 8000000 in
set_option maxRecDepth 100000 in
theorem spec_l01Same.calls (k : Nat) (A0 : Option Addr) (c0 : Nat) (l0 : List Int) (A1 : Option Addr) (c1 : Nat) (l1 : List Int) (r : Bool) (w : World) (hr0 : Kd.C (Kd.int .i64) w A0 l0.length l0) (hc0 : l0.length ≤ c0) (hr1 : Kd.C (Kd.int .i64) w A1 l1.length l1) (hc1 : l1.length ≤ c1) (h : spec_l01Same.f k l0 l1 = some r) :
  Calls Tryd.prog 94 #[.slice A0 l0.length c0, .slice A1 l1.length c1] w fun e w' => e = .returned (.bool r) ∧ Drawn0 w w' := by
 have HR0 := Aside0.mk hr0; have HC0 := Aside0.mk hc0; clear hr0 hc0; have HR1 := Aside0.mk hr1; have HC1 := Aside0.mk hc1; clear hr1 hc1
 have H : (if (l0.length : Int) = (l1.length : Int) then (spec_l01Same.l0 k l0 l1 0) else (some false)) = some r := h
 clear h
 by_cases c3 : (l0.length : Int) = (l1.length : Int)
 ·rw [if_pos c3] at H
  have c3b0 : ((l0.length : Int) == (l1.length : Int)) = true := beq_iff_eq.mpr c3
  have c3b1 : ((l0.length : Int) != (l1.length : Int)) = false := bne_eq_false_iff_eq.mpr c3
  have c3b2 : (l0.length == l1.length) = true := by first | simpa using c3 | (simp at c3 ⊢; omega)
  clear c3
  have H' := Aside0.mk H
  clear H
  go_enter Tryd.func94, Tryd.ntmps94
  go_wp2
  repeat (go_quiet (fail); try go_wp2)
  go_loopg [5] k (fun kq v5 w' => ∃ (x5_1 : Int), v5 = .int .i64 x5_1 ∧ Aside0 (spec_l01Same.l0 kq l0 l1 x5_1 = some r) ∧ Aside0 (kq ≤ k) ∧ Drawn0 w w')
  case atStart => exact ⟨(0), sz, H', ⟨Nat.le_refl _⟩, by repeat (first | exact Drawn0.refl _ | apply Drawn0.step)⟩
  case round =>
   clear H'
   try clear c1
   try clear p2
   try clear c3
   try clear c3b0
   try clear c3b1
   try clear c3b2
   obtain ⟨x5_1, rfl, HA, HK1, ⟨m1, rfl⟩⟩ := hrel
   cases gk with
   | zero => exact absurd HA.out (by simp [spec_l01Same.l0])
   | succ k1 =>
    have H := HA.out; clear HA
    simp only [spec_l01Same.l0] at H
    by_cases c4 : x5_1 < (l0.length : Int)
    ·rw [if_pos c4] at H
     have c4b0 : decide (x5_1 < (l0.length : Int)) = true := decide_eq_true c4
     clear c4
     by_cases c5 : 0 ≤ x5_1
     ·rw [if_pos c5] at H
      have c5b0 : decide (0 ≤ x5_1) = true := decide_eq_true c5
      clear c5
      by_cases c6 : x5_1 < (l1.length : Int)
      ·rw [if_pos c6] at H
       have c6b0 : decide (x5_1 < (l1.length : Int)) = true := decide_eq_true c6
       clear c6
       by_cases c7 : (rd l0 x5_1) = (rd l1 x5_1)
       ·rw [if_pos c7] at H
        have c7b0 : ((rd l0 x5_1) == (rd l1 x5_1)) = true := beq_iff_eq.mpr c7
        have c7b1 : ((rd l0 x5_1) != (rd l1 x5_1)) = false := bne_eq_false_iff_eq.mpr c7
        clear c7
        have H' := Aside0.mk H
        clear H
        have p449 : 0 ≤ (x5_1 : Int) := of_decide_eq_true (by first | (with_reducible assumption) | assumption)
        have q449 : x5_1 < (l0.length : Int) := of_decide_eq_true (by first | (with_reducible assumption) | assumption)
        obtain ⟨ad449, e449, hx449_0⟩ := Kd.at_int HR0.out x5_1 p449 q449; cases e449; replace p449 := eq_true p449; replace q449 := eq_true q449
        have p450 : 0 ≤ (x5_1 : Int) := of_decide_eq_true (by first | (with_reducible assumption) | assumption)
        have q450 : x5_1 < (l1.length : Int) := of_decide_eq_true (by first | (with_reducible assumption) | assumption)
        obtain ⟨ad450, e450, hx450_0⟩ := Kd.at_int HR1.out x5_1 p450 q450; cases e450; replace p450 := eq_true p450; replace q450 := eq_true q450
        go_wp2
        repeat (go_quiet (fail); try go_wp2)
        go_roundg k1
        case measure => have := HK1.out; omega
        case rel => exact ⟨(wrap64 (x5_1 + 1)), sz, H', ⟨by have := HK1.out; omega⟩, by repeat (first | exact Drawn0.refl _ | apply Drawn0.step)⟩
       ·rw [if_neg c7] at H
        have c7b0 : ((rd l0 x5_1) == (rd l1 x5_1)) = false := beq_eq_false_iff_ne.mpr c7
        have c7b1 : ((rd l0 x5_1) != (rd l1 x5_1)) = true := bne_iff_ne.mpr c7
        obtain rfl := Option.some.inj H
        have p449 : 0 ≤ (x5_1 : Int) := of_decide_eq_true (by first | (with_reducible assumption) | assumption)
        have q449 : x5_1 < (l0.length : Int) := of_decide_eq_true (by first | (with_reducible assumption) | assumption)
        obtain ⟨ad449, e449, hx449_0⟩ := Kd.at_int HR0.out x5_1 p449 q449; cases e449; replace p449 := eq_true p449; replace q449 := eq_true q449
        have p450 : 0 ≤ (x5_1 : Int) := of_decide_eq_true (by first | (with_reducible assumption) | assumption)
        have q450 : x5_1 < (l1.length : Int) := of_decide_eq_true (by first | (with_reducible assumption) | assumption)
        obtain ⟨ad450, e450, hx450_0⟩ := Kd.at_int HR1.out x5_1 p450 q450; cases e450; replace p450 := eq_true p450; replace q450 := eq_true q450
        go_wp2
        repeat (go_quiet (fail); try go_wp2)
        go_ret
        exact ⟨by first | rfl | (simp; done) | (simp [*]; done), by repeat (first | exact Drawn0.refl _ | apply Drawn0.step)⟩
      ·rw [if_neg c6] at H
       exact absurd H (by simp)
     ·rw [if_neg c5] at H
      exact absurd H (by simp)
    ·rw [if_neg c4] at H
     have c4b0 : decide (x5_1 < (l0.length : Int)) = false := decide_eq_false c4
     clear c4
     obtain rfl := Option.some.inj H
     go_wp2
     repeat (go_quiet (fail); try go_wp2)
     go_ret
     exact ⟨by first | rfl | (simp; done) | (simp [*]; done), by repeat (first | exact Drawn0.refl _ | apply Drawn0.step)⟩
 ·rw [if_neg c3] at H
  have c3b0 : ((l0.length : Int) == (l1.length : Int)) = false := beq_eq_false_iff_ne.mpr c3
  have c3b1 : ((l0.length : Int) != (l1.length : Int)) = true := bne_iff_ne.mpr c3
  have c3b2 : (l0.length == l1.length) = false := by first | simpa using c3 | (simp at c3 ⊢; omega)
  obtain rfl := Option.some.inj H
  go_enter Tryd.func94, Tryd.ntmps94
  go_wp2
  repeat (go_quiet (fail); try go_wp2)
  go_ret
  exact ⟨by first | rfl | (simp; done) | (simp [*]; done), by repeat (first | exact Drawn0.refl _ | apply Drawn0.step)⟩

/-! ### spec_l03IsFoata: function 62 -/
def spec_l03IsFoata.j0 : Nat → List Int → Bool → Int → List Int → Option (Bool)
 | 0, _, _, _, _ => none
 | k + 1, x1, x15, x452000, x452001 => if x15 = true then (some false) else ((spec_l03Steps.f k x1).bind fun t453 => ((spec_l03Word.f k x452000 t453).bind fun t456 => (if t456 = true then ((spec_l03Foata.f k x452000 x452001 t453).bind fun t457 => ((spec_l01Same.f k t457 x1).bind fun t460 => (some t460))) else (some false))))
def spec_l03IsFoata.f (k : Nat) (a0_0 : Int) (l0_1 : List Int) (l1 : List Int) : Option (Bool) := if (l1.length : Int) > 24 then (spec_l03IsFoata.j0 k l1 true a0_0 l0_1) else ((spec_l01Masks.f k a0_0 l1).bind fun t452 => (spec_l03IsFoata.j0 k l1 (!t452) a0_0 l0_1))
theorem spec_l03IsFoata.mono_l : ∀ k, (∀ y0 y1 y2 y3, LeO (spec_l03IsFoata.j0 k y0 y1 y2 y3) (spec_l03IsFoata.j0 (k + 1) y0 y1 y2 y3))
 | 0 => fun _ _ _ _ r h => by simp [spec_l03IsFoata.j0] at h
 | k + 1 => by
  have ih0 := spec_l03IsFoata.mono_l k
  ·intro y0 y1 y2 y3
   unfold spec_l03IsFoata.j0
   repeat' first
   | (with_reducible exact ih0 _ _ _ _)
   | (with_reducible exact spec_l01Masks.mono _ _ _)
   | (with_reducible exact spec_l01Same.mono _ _ _)
   | (with_reducible exact spec_l03Foata.mono _ _ _ _)
   | (with_reducible exact spec_l03Steps.mono _ _)
   | (with_reducible exact spec_l03Word.mono _ _ _)
   | (with_reducible exact LeO.refl _)
   | (with_reducible exact LeO.none _)
   | (with_reducible refine LeO.ite ?_ ?_)
   | (with_reducible refine LeO.bind ?_ (fun _ => ?_))
   | exact ih0 _ _ _ _
   | exact spec_l01Masks.mono _ _ _
   | exact spec_l01Same.mono _ _ _
   | exact spec_l03Foata.mono _ _ _ _
   | exact spec_l03Steps.mono _ _
   | exact spec_l03Word.mono _ _ _
   | exact LeO.none _
   | refine LeO.ite ?_ ?_
   | refine LeO.bind ?_ (fun _ => ?_)
theorem spec_l03IsFoata.mono : ∀ a0 a1 a2 k, LeO (spec_l03IsFoata.f k a0 a1 a2) (spec_l03IsFoata.f (k + 1) a0 a1 a2) := by
 intro a0 a1 a2 k
 have ih0 := spec_l03IsFoata.mono_l k
 unfold spec_l03IsFoata.f
 repeat' first
   | (with_reducible exact ih0 _ _ _ _)
   | (with_reducible exact spec_l01Masks.mono _ _ _)
   | (with_reducible exact spec_l01Same.mono _ _ _)
   | (with_reducible exact spec_l03Foata.mono _ _ _ _)
   | (with_reducible exact spec_l03Steps.mono _ _)
   | (with_reducible exact spec_l03Word.mono _ _ _)
   | (with_reducible exact LeO.refl _)
   | (with_reducible exact LeO.none _)
   | (with_reducible refine LeO.ite ?_ ?_)
   | (with_reducible refine LeO.bind ?_ (fun _ => ?_))
   | exact ih0 _ _ _ _
   | exact spec_l01Masks.mono _ _ _
   | exact spec_l01Same.mono _ _ _
   | exact spec_l03Foata.mono _ _ _ _
   | exact spec_l03Steps.mono _ _
   | exact spec_l03Word.mono _ _ _
   | exact LeO.none _
   | refine LeO.ite ?_ ?_
   | refine LeO.bind ?_ (fun _ => ?_)
set_option maxHeartbeats 8000000 in
set_option maxRecDepth 100000 in
theorem spec_l03IsFoata.calls (k : Nat) (a0_0 : Int) (A0_1 : Option Addr) (c0_1 : Nat) (l0_1 : List Int) (A1 : Option Addr) (c1 : Nat) (l1 : List Int) (r : Bool) (w : World) (hr0_1 : Kd.C (Kd.int .i64) w A0_1 l0_1.length l0_1) (hc0_1 : l0_1.length ≤ c0_1) (hr1 : Kd.C (Kd.int .i64) w A1 l1.length l1) (hc1 : l1.length ≤ c1) (h : spec_l03IsFoata.f k a0_0 l0_1 l1 = some r) :
  Calls Tryd.prog 62 #[.agg #[.int .i64 a0_0, .slice A0_1 l0_1.length c0_1], .slice A1 l1.length c1] w fun e w' => e = .returned (.bool r) ∧ Below w.heap.size w w' := by
 have hu28 := Tryd.underlying28; have HR0_1 := Aside0.mk hr0_1; have HC0_1 := Aside0.mk hc0_1; clear hr0_1 hc0_1; have HR1 := Aside0.mk hr1; have HC1 := Aside0.mk hc1; clear hr1 hc1; have HB := Aside0.mk (Below.refl w.heap.size w)
 have H : (if (l1.length : Int) > 24 then (spec_l03IsFoata.j0 k l1 true a0_0 l0_1) else ((spec_l01Masks.f k a0_0 l1).bind fun t452 => (spec_l03IsFoata.j0 k l1 (!t452) a0_0 l0_1))) = some r := h
 clear h; have HC3 := Aside0.mk H; clear H
 go_enter Tryd.func62, Tryd.ntmps62
 go_upto_region 1 with (first | ((with_reducible refine gate_dst (N := 2) rfl ?_); refine box_event ?hg (N := 2) ?hd (cs := #[.int .i64 a0_0, .slice A0_1 l0_1.length c0_1]) (t := 28) ?hr ?_; (case hd => rfl); (case hg => rfl); (case hr => first | (go_simp; done) | (go_simp; rfl)); intro gb451 hg w4 hbox hb; have BK451 := Aside0.mk (hbox); have GW451 := Aside0.mk ((by rw [hg]; exact (below_size (beQ HB)) : w.heap.size ≤ gb451)); have GE451 := Aside0.mk ((by rw [hg]; exact (below_size (beQ HB)) : w.heap.size ≤ gb451)); replace HB := Aside0.mk (below_step (beQ HB) hb); clear hb hbox hg))
 (try simp only [Act.put, List.setIfInBounds_toArray, List.set_cons_zero, List.set_cons_succ])
 go_cut [15] (fun v15 wc => ∃ (kq : Nat) (x15_2 : Bool), v15 = .bool x15_2 ∧ Aside0 (spec_l03IsFoata.j0 kq l1 x15_2 a0_0 l0_1 = some r) ∧ Aside0 (kq ≤ k) ∧ Aside0 (wc.heap[gb451]? = some (.cells #[.int .i64 a0_0, (.slice A0_1 l0_1.length c0_1)] 28 (0, 0))) ∧ Aside0 (Below w.heap.size w wc))
 case first =>
  have H := HC3.out; clear HC3
  by_cases c5 : (l1.length : Int) > 24
  ·rw [if_pos c5] at H
   have c5b0 : decide (24 < (l1.length : Int)) = true := decide_eq_true c5
   have c5b1 : decide (24 < l1.length) = true := decide_eq_true (by omega)
   clear c5
   (first | rw [c5b0] | (simp only [i64_w, i32_w]; rw [c5b0]) | skip)
   have H' := Aside0.mk H
   clear H
   go_wp2
   go_meet
   case rel => exact ⟨_, (true), sz, H', ⟨by first | omega | exact Nat.le_refl _⟩, ⟨blkQ BK451⟩, ⟨beQ HB⟩⟩
  ·rw [if_neg c5] at H
   have c5b0 : decide (24 < (l1.length : Int)) = false := decide_eq_false c5
   have c5b1 : decide (24 < l1.length) = false := decide_eq_false (by omega)
   clear c5
   (first | rw [c5b0] | (simp only [i64_w, i32_w]; rw [c5b0]) | skip)
   replace H := Option.bind_eq_some_iff.mp H; obtain ⟨t452, A60, H⟩ := H
   replace H : (spec_l03IsFoata.j0 k l1 (!t452) a0_0 l0_1) = some r := H
   have A6 := Aside0.mk A60; clear A60
   have H' := Aside0.mk H
   clear H
   have hcz7_0 : w4.cell? ⟨gb451, 0, none⟩ = some (.int .i64 a0_0) := bc BK451 0
   have hcz7_1 : w4.cell? ⟨gb451, 1, none⟩ = some (.slice A0_1 l0_1.length c0_1) := bc BK451 1
   have hfz7_0 := blk_frozen BK451.out 0; have hfz7_1 := blk_frozen BK451.out 1
   go_wp2_with (first | (go_at_call 92; (with_reducible refine (spec_l01Masks.calls k a0_0 _ _ l1 t452 _ ?side1 ?side2 A6.out).mono ?_); (case side1 => have q_ := Aside0.mk (Kd.C_below HR1.out HB.out); exact cQ q_); (case side2 => exact HC1.out); rintro e w' ⟨rfl, ⟨nd, rfl⟩⟩))
   go_meet
   case rel => exact ⟨_, (!t452), sz, H', ⟨by first | omega | exact Nat.le_refl _⟩, ⟨blkQ BK451⟩, ⟨beQ HB⟩⟩
 case rest =>
  clear HC3
  try clear c1
  try clear p2
  try clear c5
  try clear c5b0
  try clear c5b1
  try clear c6
  try clear hcz7_0
  try clear hcz7_1
  try clear hfz7_0
  try clear hfz7_1
  obtain ⟨kq, x15_2, rfl, HA, HJ2, BK451, HB⟩ := hcut
  cases kq with
  | zero => exact absurd HA.out (by simp [spec_l03IsFoata.j0])
  | succ kj2 =>
   have H := HA.out; clear HA
   simp only [spec_l03IsFoata.j0] at H
   by_cases c8 : x15_2 = true
   ·subst c8
    have H1 : (some false) = some r := by rw [if_pos rfl] at H; exact H
    clear H; have H := H1; clear H1
    obtain rfl := Option.some.inj H
    go_wp2
    go_ret
    exact ⟨rz, beQ HB⟩
   ·replace c8 := Bool.eq_false_iff.mpr c8
    subst c8
    have H1 : ((spec_l03Steps.f kj2 l1).bind fun t453 => ((spec_l03Word.f kj2 a0_0 t453).bind fun t456 => (if t456 = true then ((spec_l03Foata.f kj2 a0_0 l0_1 t453).bind fun t457 => ((spec_l01Same.f kj2 t457 l1).bind fun t460 => (some t460))) else (some false)))) = some r := by rw [if_neg (show ¬ (false = true) by decide)] at H; exact H
    clear H; have H := H1; clear H1; replace H := Option.bind_eq_some_iff.mp H; obtain ⟨t453, A90, H⟩ := H
    replace H : ((spec_l03Word.f kj2 a0_0 t453).bind fun t456 => (if t456 = true then ((spec_l03Foata.f kj2 a0_0 l0_1 t453).bind fun t457 => ((spec_l01Same.f kj2 t457 l1).bind fun t460 => (some t460))) else (some false))) = some r := H
    have A9 := Aside0.mk A90; clear A90; replace H := Option.bind_eq_some_iff.mp H; obtain ⟨t456, A100, H⟩ := H
    replace H : (if t456 = true then ((spec_l03Foata.f kj2 a0_0 l0_1 t453).bind fun t457 => ((spec_l01Same.f kj2 t457 l1).bind fun t460 => (some t460))) else (some false)) = some r := H
    have A10 := Aside0.mk A100; clear A100
    by_cases c11 : t456 = true
    ·subst c11
     have H1 : ((spec_l03Foata.f kj2 a0_0 l0_1 t453).bind fun t457 => ((spec_l01Same.f kj2 t457 l1).bind fun t460 => (some t460))) = some r := by rw [if_pos rfl] at H; exact H
     clear H; have H := H1; clear H1; replace H := Option.bind_eq_some_iff.mp H; obtain ⟨t457, A120, H⟩ := H
     replace H : ((spec_l01Same.f kj2 t457 l1).bind fun t460 => (some t460)) = some r := H
     have A12 := Aside0.mk A120; clear A120; replace H := Option.bind_eq_some_iff.mp H; obtain ⟨t460, A130, H⟩ := H
     replace H : (some t460) = some r := H
     have A13 := Aside0.mk A130; clear A130
     obtain rfl := Option.some.inj H
     go_wp2_with (first | ((with_reducible refine gate_callee (f := 84) rfl ?_); refine goesL_ (some 17) rfl rfl Tryd.func84 (by kernel_rfl) rfl #[.slice A1 l1.length c1] rfl lz ?_; (with_reducible refine (spec_l03Steps.calls kj2 _ _ l1 t453 _ ?side1 ?side2 A9.out).mono ?_); (case side1 => have q_ := Aside0.mk (Kd.C_below HR1.out HB.out); exact cQ q_); (case side2 => exact HC1.out); rintro e w14 ⟨v454, rfl, ho0, hb⟩; refine ⟨_, rfl, ?_⟩; have HO455 := Aside0.mk (Kd.R_lower ho0 (below_size (beQ HB))); replace BK451 := bb BK451 hb; replace HB := Aside0.mk (below_step (beQ HB) hb); (try clear hb); (try clear hb2); (try clear hk); (try clear hi); (try clear ho0); have hcz15_0 : w14.cell? ⟨gb451, 0, none⟩ = some (.int .i64 a0_0) := bc BK451 0; have hcz15_1 : w14.cell? ⟨gb451, 1, none⟩ = some (.slice A0_1 l0_1.length c0_1) := bc BK451 1; have hfz15_0 := blk_frozen BK451.out 0; have hfz15_1 := blk_frozen BK451.out 1; obtain ⟨Ao16, co16, eo16⟩ := Kd.R_slice HO455.out; subst eo16) | ((with_reducible refine gate_callee (f := 85) rfl ?_); refine goesL_ (some 21) rfl rfl Tryd.func85 (by kernel_rfl) rfl #[.int .i64 a0_0, .slice Ao16 t453.length co16] rfl lz ?_; (with_reducible refine (spec_l03Word.calls kj2 a0_0 _ _ t453 true _ ?side1 ?side2 A10.out).mono ?_); (case side1 => have q_ := Aside0.mk (Kd.R_reads' HO455.out).2.2; exact cQ q_); (case side2 => exact (Kd.R_reads' HO455.out).2.1); rintro e w' ⟨rfl, ⟨nd, rfl⟩⟩; refine ⟨_, rfl, ?_⟩) | (go_at_call 59; (with_reducible refine (spec_l03Foata.calls kj2 a0_0 _ _ l0_1 _ _ t453 t457 _ ?side1 ?side2 ?side3 ?side4 A12.out).mono ?_); (case side1 => have q_ := Aside0.mk (Kd.C_below HR0_1.out (beQ HB)); exact cQ q_); (case side2 => exact HC0_1.out); (case side3 => have q_ := Aside0.mk (Kd.R_reads' HO455.out).2.2; exact cQ q_); (case side4 => exact (Kd.R_reads' HO455.out).2.1); rintro e w17 ⟨v458, rfl, ho0, hb⟩; have HO459 := Aside0.mk (Kd.R_lower (Kd.R_new' ho0 (Kd.R_lt (kdQ HO455))) (below_size (beQ HB))); replace HO455 := Aside0.mk (Kd.R_elder' (kdQ HO455) (Kd.R_base ho0) hb); replace BK451 := bb BK451 hb; replace HB := Aside0.mk (below_step (beQ HB) hb); (try clear hb); (try clear hb2); (try clear hk); (try clear hi); (try clear ho0); obtain ⟨Ao18, co18, eo18⟩ := Kd.R_slice HO459.out; subst eo18) | (go_at_call 94; (with_reducible refine (spec_l01Same.calls kj2 _ _ t457 _ _ l1 t460 _ ?side1 ?side2 ?side3 ?side4 A13.out).mono ?_); (case side1 => have q_ := Aside0.mk (Kd.R_reads' HO459.out).2.2; exact cQ q_); (case side2 => exact (Kd.R_reads' HO459.out).2.1); (case side3 => have q_ := Aside0.mk (Kd.C_below HR1.out HB.out); exact cQ q_); (case side4 => exact HC1.out); rintro e w' ⟨rfl, ⟨nd, rfl⟩⟩))
     go_ret
     exact ⟨rz, beQ HB⟩
    ·replace c11 := Bool.eq_false_iff.mpr c11
     subst c11
     have H1 : (some false) = some r := by rw [if_neg (show ¬ (false = true) by decide)] at H; exact H
     clear H; have H := H1; clear H1
     obtain rfl := Option.some.inj H
     go_wp2_with (first | ((with_reducible refine gate_callee (f := 84) rfl ?_); refine goesL_ (some 17) rfl rfl Tryd.func84 (by kernel_rfl) rfl #[.slice A1 l1.length c1] rfl lz ?_; (with_reducible refine (spec_l03Steps.calls kj2 _ _ l1 t453 _ ?side1 ?side2 A9.out).mono ?_); (case side1 => have q_ := Aside0.mk (Kd.C_below HR1.out HB.out); exact cQ q_); (case side2 => exact HC1.out); rintro e w19 ⟨v454, rfl, ho0, hb⟩; refine ⟨_, rfl, ?_⟩; have HO455 := Aside0.mk (Kd.R_lower ho0 (below_size (beQ HB))); replace BK451 := bb BK451 hb; replace HB := Aside0.mk (below_step (beQ HB) hb); (try clear hb); (try clear hb2); (try clear hk); (try clear hi); (try clear ho0); have hcz20_0 : w19.cell? ⟨gb451, 0, none⟩ = some (.int .i64 a0_0) := bc BK451 0; have hcz20_1 : w19.cell? ⟨gb451, 1, none⟩ = some (.slice A0_1 l0_1.length c0_1) := bc BK451 1; have hfz20_0 := blk_frozen BK451.out 0; have hfz20_1 := blk_frozen BK451.out 1; obtain ⟨Ao21, co21, eo21⟩ := Kd.R_slice HO455.out; subst eo21) | ((with_reducible refine gate_callee (f := 85) rfl ?_); refine goesL_ (some 21) rfl rfl Tryd.func85 (by kernel_rfl) rfl #[.int .i64 a0_0, .slice Ao21 t453.length co21] rfl lz ?_; (with_reducible refine (spec_l03Word.calls kj2 a0_0 _ _ t453 false _ ?side1 ?side2 A10.out).mono ?_); (case side1 => have q_ := Aside0.mk (Kd.R_reads' HO455.out).2.2; exact cQ q_); (case side2 => exact (Kd.R_reads' HO455.out).2.1); rintro e w' ⟨rfl, ⟨nd, rfl⟩⟩; refine ⟨_, rfl, ?_⟩))
     go_ret
     exact ⟨rz, beQ HB⟩

/-! ### impl_allLetters: function 65 -/
def impl_allLetters.f (a0_0 : Int) (l0_1 : List Int) : Option (Int) := (impl_one.f a0_0).bind fun t465 => (some (wrap64 (t465 - 1)))
set_option maxHeartbeats 8000000 in
set_option maxRecDepth 100000 in
theorem impl_allLetters.calls (a0_0 : Int) (A0_1 : Option Addr) (c0_1 : Nat) (l0_1 : List Int) (r : Int) (w : World) (hr0_1 : Kd.C (Kd.int .i64) w A0_1 l0_1.length l0_1) (hc0_1 : l0_1.length ≤ c0_1) (h : impl_allLetters.f a0_0 l0_1 = some r) :
  Calls Tryd.prog 65 #[.agg #[.int .i64 a0_0, .slice A0_1 l0_1.length c0_1]] w fun e w' => e = .returned (.int .i64 r) ∧ Below w.heap.size w w' := by
 have hu28 := Tryd.underlying28; have HR0_1 := Aside0.mk hr0_1; have HC0_1 := Aside0.mk hc0_1; clear hr0_1 hc0_1; have HB := Aside0.mk (Below.refl w.heap.size w)
 have H : ((impl_one.f a0_0).bind fun t465 => (some (wrap64 (t465 - 1)))) = some r := h
 clear h; replace H := Option.bind_eq_some_iff.mp H; obtain ⟨t465, A20, H⟩ := H
 replace H : (some (wrap64 (t465 - 1))) = some r := H
 have A2 := Aside0.mk A20; clear A20
 obtain rfl := Option.some.inj H
 go_enter Tryd.func65, Tryd.ntmps65
 go_wp2_with (first | ((with_reducible refine gate_dst (N := 1) rfl ?_); refine box_event ?hg (N := 1) ?hd (cs := #[.int .i64 a0_0, .slice A0_1 l0_1.length c0_1]) (t := 28) ?hr ?_; (case hd => rfl); (case hg => rfl); (case hr => first | (go_simp; done) | (go_simp; rfl)); intro gb464 hg w3 hbox hb; have BK464 := Aside0.mk (hbox); have GW464 := Aside0.mk ((by rw [hg]; exact (below_size (beQ HB)) : w.heap.size ≤ gb464)); have GE464 := Aside0.mk ((by rw [hg]; exact (below_size (beQ HB)) : w.heap.size ≤ gb464)); replace HB := Aside0.mk (below_step (beQ HB) hb); clear hb hbox hg; have hcz4_0 : w3.cell? ⟨gb464, 0, none⟩ = some (.int .i64 a0_0) := bc BK464 0; have hcz4_1 : w3.cell? ⟨gb464, 1, none⟩ = some (.slice A0_1 l0_1.length c0_1) := bc BK464 1; have hfz4_0 := blk_frozen BK464.out 0; have hfz4_1 := blk_frozen BK464.out 1) | ((with_reducible refine gate_callee (f := 90) rfl ?_); refine goesL_ (some 5) rfl rfl Tryd.func90 (by kernel_rfl) rfl #[.int .i64 a0_0] rfl lz ?_; (with_reducible refine (impl_one.calls a0_0 t465 _ A2.out).mono ?_); rintro e w' ⟨rfl, ⟨nd, rfl⟩⟩; refine ⟨_, rfl, ?_⟩))
 go_ret
 exact ⟨rz, beQ HB⟩

/-! ### impl_wordOfSteps: function 66 -/
def impl_wordOfSteps.l0 : Nat → List Int → List Int → Int → Int → Option (List Int)
 | 0, _, _, _, _ => none
 | k + 1, x3, x7, x8, x9 => if x9 < x8 then (if 0 ≤ x9 then (if x9 < (x7.length : Int) then ((impl_members.f k (rd x7 x9)).bind fun t470 => (if x3.length + t470.length < 17592186044416 then (impl_wordOfSteps.l0 k (x3 ++ t470) x7 x8 (wrap64 (x9 + 1))) else (none))) else (none)) else (none)) else (some x3)
def impl_wordOfSteps.f (k : Nat) (l0 : List Int) : Option (List Int) := impl_wordOfSteps.l0 k (([] : List Int)) l0 (l0.length : Int) 0
theorem impl_wordOfSteps.mono_l : ∀ k, (∀ y0 y1 y2 y3, LeO (impl_wordOfSteps.l0 k y0 y1 y2 y3) (impl_wordOfSteps.l0 (k + 1) y0 y1 y2 y3))
 | 0 => fun _ _ _ _ r h => by simp [impl_wordOfSteps.l0] at h
 | k + 1 => by
  have ih0 := impl_wordOfSteps.mono_l k
  ·intro y0 y1 y2 y3
   unfold impl_wordOfSteps.l0
   repeat' first
   | (with_reducible exact ih0 _ _ _ _)
   | (with_reducible exact impl_members.mono _ _)
   | (with_reducible exact LeO.refl _)
   | (with_reducible exact LeO.none _)
   | (with_reducible refine LeO.ite ?_ ?_)
   | (with_reducible refine LeO.bind ?_ (fun _ => ?_))
   | exact ih0 _ _ _ _
   | exact impl_members.mono _ _
   | exact LeO.none _
   | refine LeO.ite ?_ ?_
   | refine LeO.bind ?_ (fun _ => ?_)
theorem impl_wordOfSteps.mono : ∀ a0 k, LeO (impl_wordOfSteps.f k a0) (impl_wordOfSteps.f (k + 1) a0) := by
 intro a0 k
 have ih0 := impl_wordOfSteps.mono_l k
 unfold impl_wordOfSteps.f
 repeat' first
   | (with_reducible exact ih0 _ _ _ _)
   | (with_reducible exact impl_members.mono _ _)
   | (with_reducible exact LeO.refl _)
   | (with_reducible exact LeO.none _)
   | (with_reducible refine LeO.ite ?_ ?_)
   | (with_reducible refine LeO.bind ?_ (fun _ => ?_))
   | exact ih0 _ _ _ _
   | exact impl_members.mono _ _
   | exact LeO.none _
   | refine LeO.ite ?_ ?_
   | refine LeO.bind ?_ (fun _ => ?_)
set_option maxHeartbeats 8000000 in
set_option maxRecDepth 100000 in
theorem impl_wordOfSteps.calls (k : Nat) (A0 : Option Addr) (c0 : Nat) (l0 : List Int) (r : List Int) (w : World) (hr0 : Kd.C (Kd.int .i64) w A0 l0.length l0) (hc0 : l0.length ≤ c0) (hT : TabW w) (h : impl_wordOfSteps.f k l0 = some r) :
  Calls Tryd.prog 66 #[.slice A0 l0.length c0] w fun e w' => ∃ v0_ : Value, e = .returned (v0_) ∧ Kd.R (Kd.int .i64) 2 w' w.heap.size (fun _ => True) v0_ r ∧ Below w.heap.size w w' := by
 have HT := Aside0.mk hT; clear hT; have HR0 := Aside0.mk hr0; have HC0 := Aside0.mk hc0; clear hr0 hc0; have HB := Aside0.mk (Below.refl w.heap.size w)
 have H : (impl_wordOfSteps.l0 k (([] : List Int)) l0 (l0.length : Int) 0) = some r := h
 clear h
 obtain ⟨y466, hy466⟩ : ∃ y_ : List Int, y_ = (([] : List Int)) := ⟨_, rfl⟩
 replace H : (impl_wordOfSteps.l0 k y466 l0 (l0.length : Int) 0) = some r := by first | (rw [hy466]; with_reducible exact H) | (have H2_ := (Option.bind_some _ _).symm.trans H; rw [hy466]; with_reducible exact H2_) | (have H2_ := (Option.bind_some _ _).symm.trans H; with_reducible exact H2_) | with_reducible exact H | (rw [hy466]; exact H) | exact H
 have Ny466 := Aside0.mk hy466; clear hy466
 have H' := Aside0.mk H
 clear H
 go_enter Tryd.func66, Tryd.ntmps66
 go_wp2_with (first | ((with_reducible refine gate_dst (N := 6) rfl ?_); refine Kd.R_lit (Kd.int .i64) _ 2 ?hg (N := 6) ?hd (xs := ([] : List Int)) (inner := []) (ok := fun _ => True) (okp := fun _ => True) ?hr ?hp (fun _ hk => hk) trivial (Below.refl _ _) (Nat.le_refl _) (by simp) ?_; (case hd => rfl); (case hg => rfl); (case hr => first | (go_simp; done) | (go_simp; rfl)); (case hp => exact (Reps.none _ _)); intro v467 w2 ho3 hb hg_ hnew_; clear hg_ hnew_; (first | rw [← Ny466.out] at ho3 | (simp only [Int.reduceToNat] at ho3; rw [← Ny466.out] at ho3)); have HO468 := Aside0.mk (Kd.R_lower ho3 (below_size (beQ HB))); replace HB := Aside0.mk (below_step (beQ HB) hb); clear hb ho3))
 go_loopg [3, 9] k (fun kq v3 v9 w' => ∃ (x3_1 : List Int) (x9_1 : Int), v9 = .int .i64 x9_1 ∧ Aside0 (impl_wordOfSteps.l0 kq x3_1 l0 (l0.length : Int) x9_1 = some r) ∧ Aside0 (kq ≤ k) ∧ Aside0 (Kd.R (Kd.int .i64) 2 w' w.heap.size (fun _ => True) v3 x3_1) ∧ Aside0 (Below w.heap.size w w'))
 case atStart => exact ⟨(y466), (0), sz, H', ⟨Nat.le_refl _⟩, ⟨kdQ HO468⟩, ⟨beQ HB⟩⟩
 case round =>
  clear H'
  try clear p2
  obtain ⟨x3_1, x9_1, rfl, HA, HK1, HO_3, HB⟩ := hrel
  cases gk with
  | zero => exact absurd HA.out (by simp [impl_wordOfSteps.l0])
  | succ k1 =>
   have H := HA.out; clear HA
   simp only [impl_wordOfSteps.l0] at H
   by_cases c4 : x9_1 < (l0.length : Int)
   ·rw [if_pos c4] at H
    have c4b0 : decide (x9_1 < (l0.length : Int)) = true := decide_eq_true c4
    clear c4
    by_cases c5 : 0 ≤ x9_1
    ·rw [if_pos c5] at H
     have c5b0 : decide (0 ≤ x9_1) = true := decide_eq_true c5
     clear c5
     by_cases c6 : x9_1 < (l0.length : Int)
     ·rw [if_pos c6] at H
      have c6b0 : decide (x9_1 < (l0.length : Int)) = true := decide_eq_true c6
      clear c6; replace H := Option.bind_eq_some_iff.mp H; obtain ⟨t470, A70, H⟩ := H
      replace H : (if x3_1.length + t470.length < 17592186044416 then (impl_wordOfSteps.l0 k1 (x3_1 ++ t470) l0 (l0.length : Int) (wrap64 (x9_1 + 1))) else (none)) = some r := H
      have A7 := Aside0.mk A70; clear A70
      by_cases c8 : x3_1.length + t470.length < 17592186044416
      ·rw [if_pos c8] at H
       have LMc8 := Aside0.mk c8; clear c8
       obtain ⟨y473, hy473⟩ : ∃ y_ : List Int, y_ = (x3_1 ++ t470) := ⟨_, rfl⟩
       replace H : (impl_wordOfSteps.l0 k1 y473 l0 (l0.length : Int) (wrap64 (x9_1 + 1))) = some r := by first | (rw [hy473]; with_reducible exact H) | (have H2_ := (Option.bind_some _ _).symm.trans H; rw [hy473]; with_reducible exact H2_) | (have H2_ := (Option.bind_some _ _).symm.trans H; with_reducible exact H2_) | with_reducible exact H | (rw [hy473]; exact H) | exact H
       have Ny473 := Aside0.mk hy473; clear hy473
       have H' := Aside0.mk H
       clear H
       have p469 : 0 ≤ (x9_1 : Int) := of_decide_eq_true (by first | (with_reducible assumption) | assumption)
       have q469 : x9_1 < (l0.length : Int) := of_decide_eq_true (by first | (with_reducible assumption) | assumption)
       obtain ⟨ad469, e469, hx469_0⟩ := Kd.at_int HR0.out x9_1 p469 q469; cases e469; replace hx469_0 := (HB.out.cell (World.block_lt_of_cell? w _ hx469_0)).trans hx469_0; replace p469 := eq_true p469; replace q469 := eq_true q469
       go_wp2_with (first | ((with_reducible refine gate_callee (f := 101) rfl ?_); refine goesL_ (some 15) rfl rfl Tryd.func101 (by kernel_rfl) rfl #[.int .i64 (rd l0 x9_1)] rfl lz ?_; (with_reducible refine (impl_members.calls k1 (rd l0 x9_1) t470 _ ?side1 A7.out).mono ?_); (case side1 => exact TabW.below HT.out (beQ HB)); rintro e w9 ⟨v471, rfl, ho0, hb⟩; refine ⟨_, rfl, ?_⟩; have HO472 := Aside0.mk (Kd.R_lower (Kd.R_new' ho0 (Kd.R_lt (kdQ HO_3))) (below_size (beQ HB))); replace HO_3 := Aside0.mk (Kd.R_elder' (kdQ HO_3) (Kd.R_base ho0) hb); replace HB := Aside0.mk (below_step (beQ HB) hb); (try clear hb); (try clear hb2); (try clear hk); (try clear hi); (try clear ho0); obtain ⟨Ao11, co11, eo11⟩ := Kd.R_slice HO472.out; subst eo11) | ((with_reducible refine gate_builtin (b := .append) (xs := #[.tmp 13, .tmp 15]) rfl ?_); at_builtin; refine Kd.R_append_rows (Kd.int .i64) (w0 := w) w.heap.size rfl (.tmp 13) (.tmp 15) 22 2 (.int .i64 0) 8 rfl Tryd.underlying22 info2 rfl (by decide) (by omega) u3 x3_1 t470 _ _ _ (fun k_ => some k_ ≠ (.slice Ao11 t470.length co11 : Value).ownBlock) (fun _ => False) rfl rfl ?aO ?aR (fun _ _ h => h) (fun _ h => h.elim) ?aF ?aB ?aS ?aL ?_; (case aR => repeat (first | exact (Kd.R_reads' HO472.out).2.2 | (with_reducible refine Kd.C_alloc ?_ _) | (with_reducible refine Kd.C_drewN ?_ _) | (with_reducible refine Kd.C_drew ?_))); (case aB => exact (beQ HB)); (case aF => exact (fun k_ hk => Kd.fresh' (Kd.R_lt (kdQ HO472)) k_ hk)); (case aO => exact (by (with_reducible repeat (first | apply Kd.R_alloc | apply Kd.R_drewN | apply Kd.R_drew)); exact Kd.R_mono HO_3.out (fun _ hk => hk.2))); (case aS => exact (below_size (beQ HB))); (case aL => have := LMc8.out; omega); intro v474 w10 ho hb hg hat; rw [← Ny473.out] at ho; have n0_ := Aside0.mk (Kd.R_after (ok := (fun _ => True)) (kdQ HO472) hg hat); have n1_ := Aside0.mk (hb); have n2_ := Aside0.mk (ho); clear HO472; clear HB; clear HO_3; have HO472 := n0_; have HB := n1_; have HO475 := n2_; clear n0_ n1_ n2_; clear ho hb hg hat))
       go_roundg k1
       case measure => have := HK1.out; omega
       case rel => exact ⟨(y473), (wrap64 (x9_1 + 1)), sz, H', ⟨by have := HK1.out; omega⟩, ⟨by (with_reducible repeat (first | apply Kd.R_alloc | apply Kd.R_drewN | apply Kd.R_drew)); exact Kd.R_mono HO475.out (fun _ hk => trivial)⟩, ⟨beQ HB⟩⟩
      ·rw [if_neg c8] at H
       exact absurd H (by simp)
     ·rw [if_neg c6] at H
      exact absurd H (by simp)
    ·rw [if_neg c5] at H
     exact absurd H (by simp)
   ·rw [if_neg c4] at H
    have c4b0 : decide (x9_1 < (l0.length : Int)) = false := decide_eq_false c4
    clear c4
    obtain rfl := Option.some.inj H
    go_wp2
    go_ret
    exact ⟨_, rz, kdQ HO_3, beQ HB⟩

end Go.Proofs.YtlpodkpnoopnnaaDoor.G
