/- How the program's functions compute, function by function: each is told by a plain Lean function of the same answers, under the condition that this one answers. Written by a program of this project over the seat's translation; Lean checks it. -/
import Derived.Test.YtdbdlhjhacbjoaaDoorG0
import Derived.Test.YtdbdlhjhacbjoaaDoorGQ03
import Derived.Test.YtdbdlhjhacbjoaaDoorGQ06
import Derived.Test.YtdbdlhjhacbjoaaDoorGQ11
import Derived.Test.YtdbdlhjhacbjoaaDoorGQ19a
import Derived.Test.YtdbdlhjhacbjoaaDoorGQ20
import Derived.Test.YtdbdlhjhacbjoaaDoorGQ22
namespace Go.Proofs.YtdbdlhjhacbjoaaDoor.G
open Go.RowKit Go.Proofs.YtdbdlhjhacbjoaaDoorW.PrintWords Go.Proofs.YtdbdlhjhacbjoaaDoorW.PrintLast Go.Proofs.YtdbdlhjhacbjoaaDoorW.PrintMore
attribute [local go_sem] max2_int min2_int max_two min_two max_three min_three max_four min_four   -- for this text's walks alone
set_option linter.unusedVariables false
set_option linter.unusedSimpArgs false

/-! ### spec_l02Part: function 75 -/
mutual
def spec_l02Part.l0 : Nat → List Int → Int → Int → List Int → Int → List Int → Option (Int × List Int)
 | 0, _, _, _, _, _, _ => none
 | k + 1, x1, x6, x577000, x577001, x583000, x583001 => if x6 < (x1.length : Int) then (spec_l02Part.l1 k x1 x6 0 x577000 x577001 x583000 x583001) else (some (x583000, x583001))
def spec_l02Part.l1 : Nat → List Int → Int → Int → Int → List Int → Int → List Int → Option (Int × List Int)
 | 0, _, _, _, _, _, _, _ => none
 | k + 1, x1, x6, x7, x577000, x577001, x583000, x583001 => if x7 < (x1.length : Int) then (if 0 ≤ x6 then (if x6 < (x1.length : Int) then (if 0 ≤ x7 then ((spec_l02Dep.f x577000 x577001 (rd x1 x6) (rd x1 x7)).bind fun t585 => (if t585 = true then ((spec_l02Join.f x583000 x583001 x6 x7).bind fun t586 => (spec_l02Part.l1 k x1 x6 (wrap64 (x7 + 1)) x577000 x577001 x583000 t586)) else (spec_l02Part.l1 k x1 x6 (wrap64 (x7 + 1)) x577000 x577001 x583000 x583001))) else (none)) else (none)) else (none)) else (spec_l02Part.l0 k x1 (wrap64 (x6 + 1)) x577000 x577001 x583000 x583001)
end
def spec_l02Part.f (k : Nat) (a0_0 : Int) (l0_1 : List Int) (l1 : List Int) : Option (Int × List Int) := (spec_l02Free.f k (l1.length : Int)).bind fun bt578 => (spec_l02Part.l0 k l1 0 a0_0 l0_1 bt578.1 bt578.2)
theorem spec_l02Part.mono_l : ∀ k, (∀ y0 y1 y2 y3 y4 y5, LeO (spec_l02Part.l0 k y0 y1 y2 y3 y4 y5) (spec_l02Part.l0 (k + 1) y0 y1 y2 y3 y4 y5)) ∧ (∀ y0 y1 y2 y3 y4 y5 y6, LeO (spec_l02Part.l1 k y0 y1 y2 y3 y4 y5 y6) (spec_l02Part.l1 (k + 1) y0 y1 y2 y3 y4 y5 y6))
 | 0 => ⟨fun _ _ _ _ _ _ r h => by simp [spec_l02Part.l0] at h, fun _ _ _ _ _ _ _ r h => by simp [spec_l02Part.l1] at h⟩
 | k + 1 => by
  obtain ⟨ih0, ih1⟩ := spec_l02Part.mono_l k
  refine ⟨?_, ?_⟩
  ·intro y0 y1 y2 y3 y4 y5
   unfold spec_l02Part.l0
   repeat' first
   | (with_reducible exact ih0 _ _ _ _ _ _)
   | (with_reducible exact ih1 _ _ _ _ _ _ _)
   | (with_reducible exact spec_l02Free.mono _ _)
   | (with_reducible exact LeO.refl _)
   | (with_reducible exact LeO.none _)
   | (with_reducible refine LeO.ite ?_ ?_)
   | (with_reducible refine LeO.bind ?_ (fun _ => ?_))
   | exact ih0 _ _ _ _ _ _
   | exact ih1 _ _ _ _ _ _ _
   | exact spec_l02Free.mono _ _
   | exact LeO.none _
   | refine LeO.ite ?_ ?_
   | refine LeO.bind ?_ (fun _ => ?_)
  ·intro y0 y1 y2 y3 y4 y5 y6
   unfold spec_l02Part.l1
   repeat' first
   | (with_reducible exact ih0 _ _ _ _ _ _)
   | (with_reducible exact ih1 _ _ _ _ _ _ _)
   | (with_reducible exact spec_l02Free.mono _ _)
   | (with_reducible exact LeO.refl _)
   | (with_reducible exact LeO.none _)
   | (with_reducible refine LeO.ite ?_ ?_)
   | (with_reducible refine LeO.bind ?_ (fun _ => ?_))
   | exact ih0 _ _ _ _ _ _
   | exact ih1 _ _ _ _ _ _ _
   | exact spec_l02Free.mono _ _
   | exact LeO.none _
   | refine LeO.ite ?_ ?_
   | refine LeO.bind ?_ (fun _ => ?_)
theorem spec_l02Part.mono : ∀ a0 a1 a2 k, LeO (spec_l02Part.f k a0 a1 a2) (spec_l02Part.f (k + 1) a0 a1 a2) := by
 intro a0 a1 a2 k
 obtain ⟨ih0, ih1⟩ := spec_l02Part.mono_l k
 unfold spec_l02Part.f
 repeat' first
   | (with_reducible exact ih0 _ _ _ _ _ _)
   | (with_reducible exact ih1 _ _ _ _ _ _ _)
   | (with_reducible exact spec_l02Free.mono _ _)
   | (with_reducible exact LeO.refl _)
   | (with_reducible exact LeO.none _)
   | (with_reducible refine LeO.ite ?_ ?_)
   | (with_reducible refine LeO.bind ?_ (fun _ => ?_))
   | exact ih0 _ _ _ _ _ _
   | exact ih1 _ _ _ _ _ _ _
   | exact spec_l02Free.mono _ _
   | exact LeO.none _
   | refine LeO.ite ?_ ?_
   | refine LeO.bind ?_ (fun _ => ?_)
def spec_l02Part.T8 : Bool × List (List Nat × List Nat) := (true, [([], []), ([], []), ([], []), ([1, 2], [1, 2]), ([3], [3]), ([], []), ([], []), ([5, 6], [5, 6]), ([7], [7]), ([0, 4, 8], [0, 4, 8])])
def spec_l02Part.B8 : List Nat := [0, 0, 0, 6, 14, 0, 0, 96, 224, 511]
theorem spec_l02Part.tab8 : rtab .any (opsOf Tryd.f75 8) = spec_l02Part.T8 := by kernel_rfl
theorem spec_l02Part.bits8 : waitsOk spec_l02Part.T8.2 spec_l02Part.B8 = true := by kernel_rfl
set_option maxHeartbeats 8000000 in
set_option maxRecDepth 100000 in
theorem spec_l02Part.calls (k : Nat) (a0_0 : Int) (A0_1 : Option Addr) (c0_1 : Nat) (l0_1 : List Int) (A1 : Option Addr) (c1 : Nat) (l1 : List Int) (r1 : Int) (r2 : List Int) (w : World) (hr0_1 : Kd.C (Kd.int .i64) w A0_1 l0_1.length l0_1) (hc0_1 : l0_1.length ≤ c0_1) (hr1 : Kd.C (Kd.int .i64) w A1 l1.length l1) (hc1 : l1.length ≤ c1) (h : spec_l02Part.f k a0_0 l0_1 l1 = some (r1, r2)) :
  Calls Tryd.prog 75 #[.agg #[.int .i64 a0_0, .slice A0_1 l0_1.length c0_1], .slice A1 l1.length c1] w fun e w' => ∃ v1_ : Value, e = .returned (.agg #[.int .i64 r1, v1_]) ∧ Kd.R (Kd.int .i64) 2 w' w.heap.size (fun _ => True) v1_ r2 ∧ Below w.heap.size w w' := by
 have hu38 := Tryd.underlying38; have HR0_1 := Aside0.mk hr0_1; have HC0_1 := Aside0.mk hc0_1; clear hr0_1 hc0_1; have HR1 := Aside0.mk hr1; have HC1 := Aside0.mk hc1; clear hr1 hc1; have HB := Aside0.mk (Below.refl w.heap.size w)
 have H : ((spec_l02Free.f k (l1.length : Int)).bind fun bt578 => (spec_l02Part.l0 k l1 0 a0_0 l0_1 bt578.1 bt578.2)) = some (r1, r2) := h
 clear h; replace H := Option.bind_eq_some_iff.mp H
 obtain ⟨⟨t578, t579⟩, A30, H⟩ := H
 replace H : (spec_l02Part.l0 k l1 0 a0_0 l0_1 t578 t579) = some (r1, r2) := H
 have A3 := Aside0.mk A30; clear A30
 have H' := Aside0.mk H
 clear H
 go_enter Tryd.func75, Tryd.ntmps75
 go_wp2_with (first | ((with_reducible refine gate_dst (N := 2) rfl ?_); refine box_event ?hg (N := 2) ?hd (cs := #[.int .i64 a0_0, .slice A0_1 l0_1.length c0_1]) (t := 38) ?hr ?_; (case hd => rfl); (case hg => rfl); (case hr => first | (go_simp; done) | (go_simp; rfl)); intro gb576 hg w4 hbox hb; have BK576 := Aside0.mk (hbox); have GW576 := Aside0.mk ((by rw [hg]; exact (below_size (beQ HB)) : w.heap.size ≤ gb576)); have GE576 := Aside0.mk ((by rw [hg]; exact (below_size (beQ HB)) : w.heap.size ≤ gb576)); replace HB := Aside0.mk (below_step (beQ HB) hb); clear hb hbox hg) | ((with_reducible refine gate_dst (N := 4) rfl ?_); refine box_event ?hg (N := 4) ?hd (cs := #[.int .i64 0, .slice none 0 0]) (t := 38) ?hr ?_; (case hd => rfl); (case hg => rfl); (case hr => first | (go_simp; done) | (go_simp; rfl)); intro gb577 hg w5 hbox hb; have BK577 := Aside0.mk (hbox); have GW577 := Aside0.mk ((by rw [hg]; exact (below_size (beQ HB)) : w.heap.size ≤ gb577)); have GE577 := Aside0.mk ((by rw [hg]; exact (below_size (beQ HB)) : w.heap.size ≤ gb577)); replace HB := Aside0.mk (below_step (beQ HB) hb); have NB576_577 := Aside0.mk ((by rw [hg]; exact Nat.ne_of_lt (blk_lt (blkQ BK576)) : gb576 ≠ gb577)); have NB577_576 := Aside0.mk ((by rw [hg]; exact Nat.ne_of_gt (blk_lt (blkQ BK576)) : gb577 ≠ gb576)); replace BK576 := bb BK576 hb; clear hb hbox hg) | ((with_reducible refine gate_callee (f := 59) rfl ?_); refine goesL_ (some 10) rfl rfl Tryd.func59 (by kernel_rfl) rfl #[.int .i64 (l1.length : Int)] rfl lz ?_; (with_reducible refine (spec_l02Free.calls k (l1.length : Int) t578 t579 _ A3.out).mono ?_); rintro e w6 ⟨v580, rfl, ho0, hb⟩; refine ⟨_, rfl, ?_⟩; have HO581 := Aside0.mk (Kd.R_lower ho0 (below_size (beQ HB))); replace BK576 := bb BK576 hb; replace BK577 := bb BK577 hb; replace HB := Aside0.mk (below_step (beQ HB) hb); (try clear hb); (try clear hb2); (try clear hk); (try clear hi); (try clear ho0)) | ((with_reducible refine gate_dst (N := 5) rfl ?_); refine box_event ?hg (N := 5) ?hd (cs := #[.int .i64 0, .slice none 0 0]) (t := 38) ?hr ?_; (case hd => rfl); (case hg => rfl); (case hr => first | (go_simp; done) | (go_simp; rfl)); intro gb582 hg w7 hbox hb; replace HO581 := kb HO581 hb; have BK582 := Aside0.mk (hbox); have GW582 := Aside0.mk ((by rw [hg]; exact (below_size (beQ HB)) : w.heap.size ≤ gb582)); have GE582 := Aside0.mk ((by rw [hg]; exact (below_size (beQ HB)) : w.heap.size ≤ gb582)); replace HB := Aside0.mk (below_step (beQ HB) hb); have NB576_582 := Aside0.mk ((by rw [hg]; exact Nat.ne_of_lt (blk_lt (blkQ BK576)) : gb576 ≠ gb582)); have NB582_576 := Aside0.mk ((by rw [hg]; exact Nat.ne_of_gt (blk_lt (blkQ BK576)) : gb582 ≠ gb576)); replace BK576 := bb BK576 hb; have NB577_582 := Aside0.mk ((by rw [hg]; exact Nat.ne_of_lt (blk_lt (blkQ BK577)) : gb577 ≠ gb582)); have NB582_577 := Aside0.mk ((by rw [hg]; exact Nat.ne_of_gt (blk_lt (blkQ BK577)) : gb582 ≠ gb577)); replace BK577 := bb BK577 hb; clear hb hbox hg; have hnb8 := NB582_576.out; have hnc8 := NB576_582.out; have hnb9 := NB582_577.out; have hnc9 := NB577_582.out; have hcz10_0 : w7.cell? ⟨gb582, 0, none⟩ = some (.int .i64 0) := bc BK582 0; have hcz10_1 : w7.cell? ⟨gb582, 1, none⟩ = some (.slice none 0 0) := bc BK582 1; have hfz10_0 := blk_frozen BK582.out 0; have hfz10_1 := blk_frozen BK582.out 1; obtain ⟨Ao11, co11, eo11⟩ := Kd.R_slice HO581.out; subst eo11))
 go_loopg [6] k (fun kq v6 w' => ∃ (x6_1 : Int) (x583001_1 : List Int) (u583001 : Value), v6 = .int .i64 x6_1 ∧ Aside0 (spec_l02Part.l0 kq l1 x6_1 a0_0 l0_1 t578 x583001_1 = some (r1, r2)) ∧ Aside0 (kq ≤ k) ∧ Aside0 (Kd.R (Kd.int .i64) 2 w' w.heap.size (fun _ => True) u583001 x583001_1) ∧ Aside0 (w'.heap[gb576]? = some (.cells #[.int .i64 a0_0, (.slice A0_1 l0_1.length c0_1)] 38 (0, 0))) ∧ Aside0 (w'.heap[gb577]? = some (.cells #[.int .i64 0, (.slice none 0 0)] 38 (0, 0))) ∧ Aside0 (w'.heap[gb582]? = some (.cells #[.int .i64 t578, u583001] 38 (0, 0))) ∧ Aside0 (Below w.heap.size w w'))
 case atStart => exact ⟨(0), (t579), (.slice Ao11 t579.length co11), sz, H', ⟨Nat.le_refl _⟩, ⟨by (with_reducible repeat (first | apply Kd.R_alloc | apply Kd.R_drewN | apply Kd.R_drew)); exact Kd.R_mono (Kd.R_far (p := ⟨gb582, 1, none⟩) (Kd.R_far (p := ⟨gb582, 0, none⟩) (Kd.R_types HO581.out BK582.out (by decide)) (fun _ hk => hk.2) (.int .i64 t578)) (fun _ hk => hk.2) (.slice Ao11 t579.length co11)) (fun _ hk => trivial)⟩, ⟨blkF BK576⟩, ⟨blkF BK577⟩, ⟨by (with_reducible repeat (first | refine blk_drewN ?_ _ | refine blk_drew ?_ | refine blk_alloc ?_ _)); refine blk_put (cs := #[.int .i64 t578, .slice none 0 0]) ?_ 1 _ rfl; (with_reducible repeat (first | refine blk_drewN ?_ _ | refine blk_drew ?_ | refine blk_alloc ?_ _)); refine blk_put (cs := #[.int .i64 0, .slice none 0 0]) ?_ 0 _ rfl; (with_reducible repeat (first | refine blk_drewN ?_ _ | refine blk_drew ?_ | refine blk_alloc ?_ _)); exact BK582.out⟩, ⟨beQ HB⟩⟩
 case round =>
  clear H'
  try clear c1
  try clear p2
  try clear c5
  try clear c7
  try clear c8
  try clear c9
  try clear hcz10_0
  try clear hcz10_1
  try clear hfz10_0
  try clear hfz10_1
  obtain ⟨x6_1, x583001_1, u583001, rfl, HA, HK1, HO_583001, BK576, BK577, BK582, HB⟩ := hrel
  cases gk with
  | zero => exact absurd HA.out (by simp [spec_l02Part.l0])
  | succ k1 =>
   have H := HA.out; clear HA
   simp only [spec_l02Part.l0] at H
   by_cases c12 : x6_1 < (l1.length : Int)
   ·rw [if_pos c12] at H
    have c12b0 : decide (x6_1 < (l1.length : Int)) = true := decide_eq_true c12
    clear c12
    have H' := Aside0.mk H
    clear H
    go_wp2
    go_loopg [7] k1 (fun kq v7 w' => ∃ (x7_2 : Int) (x583001_2 : List Int) (u583001 : Value), v7 = .int .i64 x7_2 ∧ Aside0 (spec_l02Part.l1 kq l1 x6_1 x7_2 a0_0 l0_1 t578 x583001_2 = some (r1, r2)) ∧ Aside0 (kq ≤ k1) ∧ Aside0 (Kd.R (Kd.int .i64) 2 w' w.heap.size (fun _ => True) u583001 x583001_2) ∧ Aside0 (w'.heap[gb576]? = some (.cells #[.int .i64 a0_0, (.slice A0_1 l0_1.length c0_1)] 38 (0, 0))) ∧ Aside0 (w'.heap[gb577]? = some (.cells #[.int .i64 0, (.slice none 0 0)] 38 (0, 0))) ∧ Aside0 (w'.heap[gb582]? = some (.cells #[.int .i64 t578, u583001] 38 (0, 0))) ∧ Aside0 (Below w.heap.size w w'))
    case atStart => exact ⟨(0), (x583001_1), (u583001), sz, H', ⟨Nat.le_refl _⟩, ⟨kdQ HO_583001⟩, ⟨blkQ BK576⟩, ⟨blkQ BK577⟩, ⟨blkQ BK582⟩, ⟨beQ HB⟩⟩
    case round =>
     clear H'
     try clear c1
     try clear p2
     try clear c5
     try clear c7
     try clear c8
     try clear c9
     try clear c12
     try clear c12b0
     try clear hcz10_0
     try clear hcz10_1
     try clear hfz10_0
     try clear hfz10_1
     try clear p2
     obtain ⟨x7_2, x583001_2, u583001, rfl, HA, HK2, HO_583001, BK576, BK577, BK582, HB⟩ := hrel
     cases gk with
     | zero => exact absurd HA.out (by simp [spec_l02Part.l1])
     | succ k2 =>
      have H := HA.out; clear HA
      simp only [spec_l02Part.l1] at H
      by_cases c13 : x7_2 < (l1.length : Int)
      ·rw [if_pos c13] at H
       have c13b0 : decide (x7_2 < (l1.length : Int)) = true := decide_eq_true c13
       clear c13
       by_cases c14 : 0 ≤ x6_1
       ·rw [if_pos c14] at H
        have c14b0 : decide (0 ≤ x6_1) = true := decide_eq_true c14
        clear c14
        by_cases c15 : x6_1 < (l1.length : Int)
        ·rw [if_pos c15] at H
         have c15b0 : decide (x6_1 < (l1.length : Int)) = true := decide_eq_true c15
         clear c15
         by_cases c16 : 0 ≤ x7_2
         ·rw [if_pos c16] at H
          have c16b0 : decide (0 ≤ x7_2) = true := decide_eq_true c16
          clear c16; replace H := Option.bind_eq_some_iff.mp H; obtain ⟨t585, A170, H⟩ := H
          replace H : (if t585 = true then ((spec_l02Join.f t578 x583001_2 x6_1 x7_2).bind fun t586 => (spec_l02Part.l1 k2 l1 x6_1 (wrap64 (x7_2 + 1)) a0_0 l0_1 t578 t586)) else (spec_l02Part.l1 k2 l1 x6_1 (wrap64 (x7_2 + 1)) a0_0 l0_1 t578 x583001_2)) = some (r1, r2) := H
          have A17 := Aside0.mk A170; clear A170
          by_cases c18 : t585 = true
          ·subst c18
           have H1 : ((spec_l02Join.f t578 x583001_2 x6_1 x7_2).bind fun t586 => (spec_l02Part.l1 k2 l1 x6_1 (wrap64 (x7_2 + 1)) a0_0 l0_1 t578 t586)) = some (r1, r2) := by rw [if_pos rfl] at H; exact H
           clear H; have H := H1; clear H1; replace H := Option.bind_eq_some_iff.mp H; obtain ⟨t586, A190, H⟩ := H
           replace H : (spec_l02Part.l1 k2 l1 x6_1 (wrap64 (x7_2 + 1)) a0_0 l0_1 t578 t586) = some (r1, r2) := H
           have A19 := Aside0.mk A190; clear A190
           have H' := Aside0.mk H
           clear H
           try go_wp2
           replace HO_583001 := Aside0.mk (Kd.R_drew HO_583001.out); replace BK576 := Aside0.mk (blk_drew BK576.out); replace BK577 := Aside0.mk (blk_drew BK577.out); replace BK582 := Aside0.mk (blk_drew BK582.out); replace HB := Aside0.mk (below_drew1 HB.out)
           have p583 : 0 ≤ (x6_1 : Int) := of_decide_eq_true (by first | (with_reducible assumption) | assumption)
           have q583 : x6_1 < (l1.length : Int) := of_decide_eq_true (by first | (with_reducible assumption) | assumption)
           obtain ⟨ad583, e583, hx583_0⟩ := Kd.at_int HR1.out x6_1 p583 q583; have hw583_0 := hx583_0; cases e583; replace hx583_0 := (HB.out.cell (World.block_lt_of_cell? w _ hx583_0)).trans hx583_0; replace p583 := eq_true p583; replace q583 := eq_true q583
           have p584 : 0 ≤ (x7_2 : Int) := of_decide_eq_true (by first | (with_reducible assumption) | assumption)
           have q584 : x7_2 < (l1.length : Int) := of_decide_eq_true (by first | (with_reducible assumption) | assumption)
           obtain ⟨ad584, e584, hx584_0⟩ := Kd.at_int HR1.out x7_2 p584 q584; have hw584_0 := hx584_0
           obtain rfl : ad583 = ad584 := (by injection e584)
           replace hx584_0 := (HB.out.cell (World.block_lt_of_cell? w _ hx584_0)).trans hx584_0; replace p584 := eq_true p584; replace q584 := eq_true q584
           refine start_ (n := 10) (S := fun w' => w'.cell? ⟨gb576, 0, none⟩ = some (.int .i64 a0_0) ∧ w'.cell? ⟨gb576, 1, none⟩ = some (.slice A0_1 l0_1.length c0_1) ∧ w'.cell? (ad583.add (x6_1).toNat) = some (.int .i64 (rd l1 x6_1)) ∧ w'.cell? (ad583.add (x7_2).toNat) = some (.int .i64 (rd l1 x7_2))) (ds := []) #[false, false, false, false, false, false, false, false, false, false] (by kernel_rfl) rfl rfl ⟨bc BK576 0, bc BK576 1, ((HB.out.cell (World.block_lt_of_cell? _ _ hw583_0)).trans hw583_0), ((HB.out.cell (World.block_lt_of_cell? _ _ hw584_0)).trans hw584_0)⟩ (fun hHeld => ?_); refine with_tabW spec_l02Part.tab8 spec_l02Part.bits8 (fun HT_ HW_ => ?_)
           generalize wr.drew = w20 at HO_583001 BK576 BK577 BK582 HB hx583_0 hx584_0 hHeld ⊢
           refine pure_ (i := 1) (N := some 24) (v := ?_) (a' := ?_) #[false, true, false, false, false, false, false, false, false, false] rfl rfl (any_of HT_.out (by kernel_rfl)) (fun _ _ _ h => h) (Or.inl ⟨by rfl, ?_⟩) ?_ ?_
           rotate_left
           ·intro w'
            go_simp
            with_reducible rfl
           rotate_left
           ·simp only [Act.put, s1, s2, s3, i64_w, i32_w]
            rfl
           refine pure_ (i := 2) (N := some 25) (v := ?_) (a' := ?_) #[false, true, true, false, false, false, false, false, false, false] rfl rfl (any_of HT_.out (by kernel_rfl)) (fun _ _ _ h => h) (Or.inl ⟨by rfl, ?_⟩) ?_ ?_
           rotate_left
           ·intro w'
            go_simp
            with_reducible rfl
           rotate_left
           ·simp only [Act.put, s1, s2, s3, i64_w, i32_w]
            rfl
           refine pure_ (i := 3) (N := some 26) (v := ?_) (a' := ?_) #[false, true, true, true, false, false, false, false, false, false] rfl rfl (any_of HT_.out (by kernel_rfl)) (fun _ _ _ h => h) (Or.inl ⟨by rfl, ?_⟩) ?_ ?_
           rotate_left
           ·intro w'
            go_simp
            with_reducible rfl
           rotate_left
           ·simp only [Act.put, s1, s2, s3, i64_w, i32_w]
            rfl
           refine pure_ (i := 5) (N := some 28) (v := ?_) (a' := ?_) #[false, true, true, true, false, true, false, false, false, false] rfl rfl (any_of HT_.out (by kernel_rfl)) (fun _ _ _ h => h) (Or.inl ⟨by rfl, ?_⟩) ?_ ?_
           rotate_left
           ·intro w'
            go_simp
            with_reducible rfl
           rotate_left
           ·simp only [Act.put, s1, s2, s3, i64_w, i32_w]
            rfl
           refine pure_ (i := 6) (N := some 29) (v := ?_) (a' := ?_) #[false, true, true, true, false, true, true, false, false, false] rfl rfl (any_of HT_.out (by kernel_rfl)) (fun _ _ _ h => h) (Or.inl ⟨by rfl, ?_⟩) ?_ ?_
           rotate_left
           ·intro w'
            go_simp
            with_reducible rfl
           rotate_left
           ·simp only [Act.put, s1, s2, s3, i64_w, i32_w]
            rfl
           refine pure_ (i := 7) (N := some 30) (v := ?_) (a' := ?_) #[false, true, true, true, false, true, true, true, false, false] rfl rfl (any_of HT_.out (by kernel_rfl)) (fun _ _ _ h => h) (Or.inl ⟨by rfl, ?_⟩) ?_ ?_
           rotate_left
           ·intro w'
            go_simp
            with_reducible rfl
           rotate_left
           ·simp only [Act.put, s1, s2, s3, i64_w, i32_w]
            rfl
           refine take_ (i := 0) (N := some 23) (v := ?_) (a' := ?_) #[true, true, true, true, false, true, true, true, false, false] rfl rfl (take_ofW HT_.out HW_.out (by kernel_rfl)) (fun _ _ _ h => h) (Or.inl ⟨by rfl, ?_⟩) hHeld ?_ ?_
           rotate_left
           ·rintro w' ⟨s0, s1, s2, s3⟩
            go_simp
            with_reducible rfl
           rotate_left
           ·simp only [Act.put, s1, s2, s3, i64_w, i32_w]
            rfl
           refine take_ (i := 4) (N := some 27) (v := ?_) (a' := ?_) #[true, true, true, true, true, true, true, true, false, false] rfl rfl (take_ofW HT_.out HW_.out (by kernel_rfl)) (fun _ _ _ h => h) (Or.inl ⟨by rfl, ?_⟩) hHeld ?_ ?_
           rotate_left
           ·rintro w' ⟨s0, s1, s2, s3⟩
            go_simp
            with_reducible rfl
           rotate_left
           ·simp only [Act.put, s1, s2, s3, i64_w, i32_w]
            rfl
           refine take_ (i := 8) (N := some 31) (v := ?_) (a' := ?_) #[true, true, true, true, true, true, true, true, true, false] rfl rfl (take_ofW HT_.out HW_.out (by kernel_rfl)) (fun _ _ _ h => h) (Or.inl ⟨by rfl, ?_⟩) hHeld ?_ ?_
           rotate_left
           ·rintro w' ⟨s0, s1, s2, s3⟩
            go_simp
            with_reducible rfl
           rotate_left
           ·simp only [Act.put, s1, s2, s3, i64_w, i32_w]
            rfl
           refine one_ (i := 9) (N := some 32) #[true, true, true, true, true, true, true, true, true, true] rfl rfl (one_of HT_.out (by kernel_rfl)) (by decide) (fun K hK => ?_)
           refine goes_ Tryd.func70 (by kernel_rfl) rfl #[.agg #[.int .i64 a0_0, .slice A0_1 l0_1.length c0_1], .int .i64 (rd l1 x6_1), .int .i64 (rd l1 x7_2)] (by rfl) rfl rfl lz ?_
           with_reducible refine (spec_l02Dep.calls a0_0 _ _ l0_1 (rd l1 x6_1) (rd l1 x7_2) true _ ?side1 ?side2 A17.out).mono ?_
           (case side1 => have q_ := Aside0.mk (Kd.C_below HR0_1.out HB.out); exact cQ q_)
           (case side2 => exact HC0_1.out)
           rintro e w21 ⟨rfl, hb⟩
           refine ⟨_, rfl, ?_⟩
           replace HO_583001 := kb HO_583001 hb; replace BK576 := bb BK576 hb; replace BK577 := bb BK577 hb; replace BK582 := bb BK582 hb; replace HB := Aside0.mk (below_step (beQ HB) hb)
           (try clear hb)
           (try clear hb2)
           (try clear hk)
           (try clear hi)
           refine hK.out _ _ ⟨bc BK576 0, bc BK576 1, ((HB.out.cell (World.block_lt_of_cell? _ _ hw583_0)).trans hw583_0), ((HB.out.cell (World.block_lt_of_cell? _ _ hw584_0)).trans hw584_0)⟩ (fun hHeld => ?_)
           clear hK K
           refine norm_ (a' := ?_) ?_ ?_
           rotate_left
           ·show Act.put _ (some 32) _ = _
            simp only [Act.put, s1, s2, s3, i64_w, i32_w]
            rfl
           refine done_ (done_of HT_.out (by kernel_rfl)) ?_
           have hnb22 := NB582_576.out; have hnc22 := NB576_582.out; have hnb23 := NB582_577.out; have hnc23 := NB577_582.out
           have hcz24_0 : w21.cell? ⟨gb582, 0, none⟩ = some (.int .i64 t578) := bc BK582 0
           have hcz24_1 : w21.cell? ⟨gb582, 1, none⟩ = some (u583001) := bc BK582 1
           have hfz24_0 := blk_frozen BK582.out 0; have hfz24_1 := blk_frozen BK582.out 1; obtain ⟨Ao25, co25, eo25⟩ := Kd.R_slice HO_583001.out; subst eo25
           try go_wp2_with (first | ((with_reducible refine gate_callee (f := 89) rfl ?_); refine goesL_ (some 36) rfl rfl Tryd.func89 (by kernel_rfl) rfl #[.agg #[.int .i64 t578, .slice Ao25 x583001_2.length co25], .int .i64 x6_1, .int .i64 x7_2] rfl lz ?_; (with_reducible refine (spec_l02Join.calls t578 (fun k_ => some k_ = (.slice Ao25 x583001_2.length co25 : Value).ownBlock) (.slice Ao25 x583001_2.length co25) x583001_2 x6_1 x7_2 t586 w _ ?side1 ?side2 A19.out).mono ?_); (case side1 => repeat (first | (with_reducible first | exact HB.out | apply below_alloc | apply pw_below_drewN | apply below_drew1 | refine below_set ?_ GE576.out | refine below_set ?_ GE577.out | refine below_set ?_ GE582.out) | exact HB.out)); (case side2 => exact Kd.R_tight rfl HO_583001.out); rintro e w26 ⟨rfl, hy0, hb, hkp⟩; refine ⟨_, rfl, ?_⟩; replace BK576 := Aside0.mk (blk_kept (blkQ BK576) hkp (fun hs_ => (fun e_ => (Kd.R_ne HO_583001.out BK576.out (by decide)) e_) hs_)); replace BK577 := Aside0.mk (blk_kept (blkQ BK577) hkp (fun hs_ => (fun e_ => (Kd.R_ne HO_583001.out BK577.out (by decide)) e_) hs_)); replace BK582 := Aside0.mk (blk_kept (blkQ BK582) hkp (fun hs_ => (fun e_ => (Kd.R_ne HO_583001.out BK582.out (by decide)) e_) hs_)); replace HO_583001 := Aside0.mk (Kd.R_reok rfl hy0 (fun k_ e_ => HO_583001.out.1 k_ e_)); replace HB := Aside0.mk (hb); (try clear hb); (try clear hkp); (try clear hy0)))
           go_roundg k2
           case measure => have := HK1.out; have := HK2.out; omega
           case rel => exact ⟨(wrap64 (x7_2 + 1)), (t586), (.slice Ao25 x583001_2.length co25), sz, H', ⟨by have := HK1.out; have := HK2.out; omega⟩, ⟨kdQ HO_583001⟩, ⟨blkQ BK576⟩, ⟨blkQ BK577⟩, ⟨blkQ BK582⟩, ⟨beQ HB⟩⟩
          ·replace c18 := Bool.eq_false_iff.mpr c18
           subst c18
           have H1 : (spec_l02Part.l1 k2 l1 x6_1 (wrap64 (x7_2 + 1)) a0_0 l0_1 t578 x583001_2) = some (r1, r2) := by rw [if_neg (show ¬ (false = true) by decide)] at H; exact H
           clear H; have H := H1; clear H1
           have H' := Aside0.mk H
           clear H
           try go_wp2
           replace HO_583001 := Aside0.mk (Kd.R_drew HO_583001.out); replace BK576 := Aside0.mk (blk_drew BK576.out); replace BK577 := Aside0.mk (blk_drew BK577.out); replace BK582 := Aside0.mk (blk_drew BK582.out); replace HB := Aside0.mk (below_drew1 HB.out)
           have p583 : 0 ≤ (x6_1 : Int) := of_decide_eq_true (by first | (with_reducible assumption) | assumption)
           have q583 : x6_1 < (l1.length : Int) := of_decide_eq_true (by first | (with_reducible assumption) | assumption)
           obtain ⟨ad583, e583, hx583_0⟩ := Kd.at_int HR1.out x6_1 p583 q583; have hw583_0 := hx583_0; cases e583; replace hx583_0 := (HB.out.cell (World.block_lt_of_cell? w _ hx583_0)).trans hx583_0; replace p583 := eq_true p583; replace q583 := eq_true q583
           have p584 : 0 ≤ (x7_2 : Int) := of_decide_eq_true (by first | (with_reducible assumption) | assumption)
           have q584 : x7_2 < (l1.length : Int) := of_decide_eq_true (by first | (with_reducible assumption) | assumption)
           obtain ⟨ad584, e584, hx584_0⟩ := Kd.at_int HR1.out x7_2 p584 q584; have hw584_0 := hx584_0
           obtain rfl : ad583 = ad584 := (by injection e584)
           replace hx584_0 := (HB.out.cell (World.block_lt_of_cell? w _ hx584_0)).trans hx584_0; replace p584 := eq_true p584; replace q584 := eq_true q584
           refine start_ (n := 10) (S := fun w' => w'.cell? ⟨gb576, 0, none⟩ = some (.int .i64 a0_0) ∧ w'.cell? ⟨gb576, 1, none⟩ = some (.slice A0_1 l0_1.length c0_1) ∧ w'.cell? (ad583.add (x6_1).toNat) = some (.int .i64 (rd l1 x6_1)) ∧ w'.cell? (ad583.add (x7_2).toNat) = some (.int .i64 (rd l1 x7_2))) (ds := []) #[false, false, false, false, false, false, false, false, false, false] (by kernel_rfl) rfl rfl ⟨bc BK576 0, bc BK576 1, ((HB.out.cell (World.block_lt_of_cell? _ _ hw583_0)).trans hw583_0), ((HB.out.cell (World.block_lt_of_cell? _ _ hw584_0)).trans hw584_0)⟩ (fun hHeld => ?_); refine with_tabW spec_l02Part.tab8 spec_l02Part.bits8 (fun HT_ HW_ => ?_)
           generalize wr.drew = w27 at HO_583001 BK576 BK577 BK582 HB hx583_0 hx584_0 hHeld ⊢
           refine pure_ (i := 1) (N := some 24) (v := ?_) (a' := ?_) #[false, true, false, false, false, false, false, false, false, false] rfl rfl (any_of HT_.out (by kernel_rfl)) (fun _ _ _ h => h) (Or.inl ⟨by rfl, ?_⟩) ?_ ?_
           rotate_left
           ·intro w'
            go_simp
            with_reducible rfl
           rotate_left
           ·simp only [Act.put, s1, s2, s3, i64_w, i32_w]
            rfl
           refine pure_ (i := 2) (N := some 25) (v := ?_) (a' := ?_) #[false, true, true, false, false, false, false, false, false, false] rfl rfl (any_of HT_.out (by kernel_rfl)) (fun _ _ _ h => h) (Or.inl ⟨by rfl, ?_⟩) ?_ ?_
           rotate_left
           ·intro w'
            go_simp
            with_reducible rfl
           rotate_left
           ·simp only [Act.put, s1, s2, s3, i64_w, i32_w]
            rfl
           refine pure_ (i := 3) (N := some 26) (v := ?_) (a' := ?_) #[false, true, true, true, false, false, false, false, false, false] rfl rfl (any_of HT_.out (by kernel_rfl)) (fun _ _ _ h => h) (Or.inl ⟨by rfl, ?_⟩) ?_ ?_
           rotate_left
           ·intro w'
            go_simp
            with_reducible rfl
           rotate_left
           ·simp only [Act.put, s1, s2, s3, i64_w, i32_w]
            rfl
           refine pure_ (i := 5) (N := some 28) (v := ?_) (a' := ?_) #[false, true, true, true, false, true, false, false, false, false] rfl rfl (any_of HT_.out (by kernel_rfl)) (fun _ _ _ h => h) (Or.inl ⟨by rfl, ?_⟩) ?_ ?_
           rotate_left
           ·intro w'
            go_simp
            with_reducible rfl
           rotate_left
           ·simp only [Act.put, s1, s2, s3, i64_w, i32_w]
            rfl
           refine pure_ (i := 6) (N := some 29) (v := ?_) (a' := ?_) #[false, true, true, true, false, true, true, false, false, false] rfl rfl (any_of HT_.out (by kernel_rfl)) (fun _ _ _ h => h) (Or.inl ⟨by rfl, ?_⟩) ?_ ?_
           rotate_left
           ·intro w'
            go_simp
            with_reducible rfl
           rotate_left
           ·simp only [Act.put, s1, s2, s3, i64_w, i32_w]
            rfl
           refine pure_ (i := 7) (N := some 30) (v := ?_) (a' := ?_) #[false, true, true, true, false, true, true, true, false, false] rfl rfl (any_of HT_.out (by kernel_rfl)) (fun _ _ _ h => h) (Or.inl ⟨by rfl, ?_⟩) ?_ ?_
           rotate_left
           ·intro w'
            go_simp
            with_reducible rfl
           rotate_left
           ·simp only [Act.put, s1, s2, s3, i64_w, i32_w]
            rfl
           refine take_ (i := 0) (N := some 23) (v := ?_) (a' := ?_) #[true, true, true, true, false, true, true, true, false, false] rfl rfl (take_ofW HT_.out HW_.out (by kernel_rfl)) (fun _ _ _ h => h) (Or.inl ⟨by rfl, ?_⟩) hHeld ?_ ?_
           rotate_left
           ·rintro w' ⟨s0, s1, s2, s3⟩
            go_simp
            with_reducible rfl
           rotate_left
           ·simp only [Act.put, s1, s2, s3, i64_w, i32_w]
            rfl
           refine take_ (i := 4) (N := some 27) (v := ?_) (a' := ?_) #[true, true, true, true, true, true, true, true, false, false] rfl rfl (take_ofW HT_.out HW_.out (by kernel_rfl)) (fun _ _ _ h => h) (Or.inl ⟨by rfl, ?_⟩) hHeld ?_ ?_
           rotate_left
           ·rintro w' ⟨s0, s1, s2, s3⟩
            go_simp
            with_reducible rfl
           rotate_left
           ·simp only [Act.put, s1, s2, s3, i64_w, i32_w]
            rfl
           refine take_ (i := 8) (N := some 31) (v := ?_) (a' := ?_) #[true, true, true, true, true, true, true, true, true, false] rfl rfl (take_ofW HT_.out HW_.out (by kernel_rfl)) (fun _ _ _ h => h) (Or.inl ⟨by rfl, ?_⟩) hHeld ?_ ?_
           rotate_left
           ·rintro w' ⟨s0, s1, s2, s3⟩
            go_simp
            with_reducible rfl
           rotate_left
           ·simp only [Act.put, s1, s2, s3, i64_w, i32_w]
            rfl
           refine one_ (i := 9) (N := some 32) #[true, true, true, true, true, true, true, true, true, true] rfl rfl (one_of HT_.out (by kernel_rfl)) (by decide) (fun K hK => ?_)
           refine goes_ Tryd.func70 (by kernel_rfl) rfl #[.agg #[.int .i64 a0_0, .slice A0_1 l0_1.length c0_1], .int .i64 (rd l1 x6_1), .int .i64 (rd l1 x7_2)] (by rfl) rfl rfl lz ?_
           with_reducible refine (spec_l02Dep.calls a0_0 _ _ l0_1 (rd l1 x6_1) (rd l1 x7_2) false _ ?side1 ?side2 A17.out).mono ?_
           (case side1 => have q_ := Aside0.mk (Kd.C_below HR0_1.out HB.out); exact cQ q_)
           (case side2 => exact HC0_1.out)
           rintro e w28 ⟨rfl, hb⟩
           refine ⟨_, rfl, ?_⟩
           replace HO_583001 := kb HO_583001 hb; replace BK576 := bb BK576 hb; replace BK577 := bb BK577 hb; replace BK582 := bb BK582 hb; replace HB := Aside0.mk (below_step (beQ HB) hb)
           (try clear hb)
           (try clear hb2)
           (try clear hk)
           (try clear hi)
           refine hK.out _ _ ⟨bc BK576 0, bc BK576 1, ((HB.out.cell (World.block_lt_of_cell? _ _ hw583_0)).trans hw583_0), ((HB.out.cell (World.block_lt_of_cell? _ _ hw584_0)).trans hw584_0)⟩ (fun hHeld => ?_)
           clear hK K
           refine norm_ (a' := ?_) ?_ ?_
           rotate_left
           ·show Act.put _ (some 32) _ = _
            simp only [Act.put, s1, s2, s3, i64_w, i32_w]
            rfl
           refine done_ (done_of HT_.out (by kernel_rfl)) ?_
           try go_wp2
           go_roundg k2
           case measure => have := HK1.out; have := HK2.out; omega
           case rel => exact ⟨(wrap64 (x7_2 + 1)), (x583001_2), (u583001), sz, H', ⟨by have := HK1.out; have := HK2.out; omega⟩, ⟨kdQ HO_583001⟩, ⟨blkQ BK576⟩, ⟨blkQ BK577⟩, ⟨blkQ BK582⟩, ⟨beQ HB⟩⟩
         ·rw [if_neg c16] at H
          exact absurd H (by simp)
        ·rw [if_neg c15] at H
         exact absurd H (by simp)
       ·rw [if_neg c14] at H
        exact absurd H (by simp)
      ·rw [if_neg c13] at H
       have c13b0 : decide (x7_2 < (l1.length : Int)) = false := decide_eq_false c13
       clear c13
       have H' := Aside0.mk H
       clear H
       go_wp2
       go_roundg k2
       case measure => have := HK1.out; have := HK2.out; omega
       case rel => exact ⟨(wrap64 (x6_1 + 1)), (x583001_2), (u583001), sz, H', ⟨by have := HK1.out; have := HK2.out; omega⟩, ⟨kdQ HO_583001⟩, ⟨blkQ BK576⟩, ⟨blkQ BK577⟩, ⟨blkQ BK582⟩, ⟨beQ HB⟩⟩
   ·rw [if_neg c12] at H
    have c12b0 : decide (x6_1 < (l1.length : Int)) = false := decide_eq_false c12
    clear c12
    simp only [Option.some.injEq, Prod.mk.injEq] at H
    obtain ⟨rfl, rfl⟩ := H; have hnb29 := NB582_576.out; have hnc29 := NB576_582.out; have hnb30 := NB582_577.out; have hnc30 := NB577_582.out
    have hcz31_0 : wr.cell? ⟨gb582, 0, none⟩ = some (.int .i64 t578) := bc BK582 0
    have hcz31_1 : wr.cell? ⟨gb582, 1, none⟩ = some (u583001) := bc BK582 1
    have hfz31_0 := blk_frozen BK582.out 0; have hfz31_1 := blk_frozen BK582.out 1; have hnb32 := NB577_576.out; have hnc32 := NB576_577.out
    have hcz33_0 : wr.cell? ⟨gb577, 0, none⟩ = some (.int .i64 0) := bc BK577 0
    have hcz33_1 : wr.cell? ⟨gb577, 1, none⟩ = some (.slice none 0 0) := bc BK577 1
    have hfz33_0 := blk_frozen BK577.out 0; have hfz33_1 := blk_frozen BK577.out 1; obtain ⟨Ao34, co34, eo34⟩ := Kd.R_slice HO_583001.out; subst eo34
    go_wp2
    refine bodyPost_ret (results_cell_row rfl _ _ gb577 38 #[.int .i64 t578, .slice Ao34 x583001_1.length co34] (0, 0) _ rfl (by (with_reducible repeat (first | refine blk_drewN ?_ _ | refine blk_drew ?_ | refine blk_alloc ?_ _)); refine blk_put (cs := #[.int .i64 t578, .slice none 0 0]) ?_ 1 _ rfl; (with_reducible repeat (first | refine blk_drewN ?_ _ | refine blk_drew ?_ | refine blk_alloc ?_ _)); refine blk_put (cs := #[.int .i64 0, .slice none 0 0]) ?_ 0 _ rfl; (with_reducible repeat (first | refine blk_drewN ?_ _ | refine blk_drew ?_ | refine blk_alloc ?_ _)); exact BK577.out) Tryd.underlying38 rfl (by kernel_rfl)) rfl ?_
    exact ⟨_, rz, by (with_reducible repeat (first | apply Kd.R_alloc | apply Kd.R_drewN | apply Kd.R_drew)); exact Kd.R_mono (Kd.R_far (p := ⟨gb577, 1, none⟩) (Kd.R_far (p := ⟨gb577, 0, none⟩) (Kd.R_types HO_583001.out BK577.out (by decide)) (fun _ hk => hk.2) (.int .i64 t578)) (fun _ hk => hk.2) (.slice Ao34 x583001_1.length co34)) (fun _ hk => trivial), beQ HB⟩

/-! ### spec_l01List: function 76 -/
def spec_l01List.l0 : Nat → Int → List Int → Int → Option (List Int)
 | 0, _, _, _ => none
 | k + 1, x0, x3, x4 => if x0 > 0 then (if (Int.tmod x0 2) = 1 then (if x3.length < 17592186044416 then (spec_l01List.l0 k (wrap64 (Int.tdiv x0 2)) (x3 ++ [x4]) (wrap64 (x4 + 1))) else (none)) else (spec_l01List.l0 k (wrap64 (Int.tdiv x0 2)) x3 (wrap64 (x4 + 1)))) else (some x3)
def spec_l01List.f (k : Nat) (a0 : Int) : Option (List Int) := spec_l01List.l0 k a0 (([] : List Int)) 0
theorem spec_l01List.mono_l : ∀ k, (∀ y0 y1 y2, LeO (spec_l01List.l0 k y0 y1 y2) (spec_l01List.l0 (k + 1) y0 y1 y2))
 | 0 => fun _ _ _ r h => by simp [spec_l01List.l0] at h
 | k + 1 => by
  have ih0 := spec_l01List.mono_l k
  ·intro y0 y1 y2
   unfold spec_l01List.l0
   repeat' first
   | (with_reducible exact ih0 _ _ _)
   | (with_reducible exact LeO.refl _)
   | (with_reducible exact LeO.none _)
   | (with_reducible refine LeO.ite ?_ ?_)
   | (with_reducible refine LeO.bind ?_ (fun _ => ?_))
   | exact ih0 _ _ _
   | exact LeO.none _
   | refine LeO.ite ?_ ?_
   | refine LeO.bind ?_ (fun _ => ?_)
theorem spec_l01List.mono : ∀ a0 k, LeO (spec_l01List.f k a0) (spec_l01List.f (k + 1) a0) := by
 intro a0 k
 have ih0 := spec_l01List.mono_l k
 unfold spec_l01List.f
 repeat' first
   | (with_reducible exact ih0 _ _ _)
   | (with_reducible exact LeO.refl _)
   | (with_reducible exact LeO.none _)
   | (with_reducible refine LeO.ite ?_ ?_)
   | (with_reducible refine LeO.bind ?_ (fun _ => ?_))
   | exact ih0 _ _ _
   | exact LeO.none _
   | refine LeO.ite ?_ ?_
   | refine LeO.bind ?_ (fun _ => ?_)
set_option maxHeartbeats 8000000 in
set_option maxRecDepth 100000 in
theorem spec_l01List.calls (k : Nat) (a0 : Int) (r : List Int) (w : World) (h : spec_l01List.f k a0 = some r) :
  Calls Tryd.prog 76 #[.int .i64 a0] w fun e w' => ∃ v0_ : Value, e = .returned (v0_) ∧ Kd.R (Kd.int .i64) 2 w' w.heap.size (fun _ => True) v0_ r ∧ Below w.heap.size w w' := by
 have HB := Aside0.mk (Below.refl w.heap.size w)
 have H : (spec_l01List.l0 k a0 (([] : List Int)) 0) = some r := h
 clear h
 obtain ⟨y587, hy587⟩ : ∃ y_ : List Int, y_ = (([] : List Int)) := ⟨_, rfl⟩
 replace H : (spec_l01List.l0 k a0 y587 0) = some r := by first | (rw [hy587]; with_reducible exact H) | (have H2_ := (Option.bind_some _ _).symm.trans H; rw [hy587]; with_reducible exact H2_) | (have H2_ := (Option.bind_some _ _).symm.trans H; with_reducible exact H2_) | with_reducible exact H | (rw [hy587]; exact H) | exact H
 have Ny587 := Aside0.mk hy587; clear hy587
 have H' := Aside0.mk H
 clear H
 go_enter Tryd.func76, Tryd.ntmps76
 go_wp2_with (first | ((with_reducible refine gate_dst (N := 5) rfl ?_); refine Kd.R_lit (Kd.int .i64) _ 2 ?hg (N := 5) ?hd (xs := ([] : List Int)) (inner := []) (ok := fun _ => True) (okp := fun _ => True) ?hr ?hp (fun _ hk => hk) trivial (Below.refl _ _) (Nat.le_refl _) (by simp) ?_; (case hd => rfl); (case hg => rfl); (case hr => first | (go_simp; done) | (go_simp; rfl)); (case hp => exact (Reps.none _ _)); intro v588 w2 ho3 hb hg_ hnew_; clear hg_ hnew_; (first | rw [← Ny587.out] at ho3 | (simp only [Int.reduceToNat] at ho3; rw [← Ny587.out] at ho3)); have HO589 := Aside0.mk (Kd.R_lower ho3 (below_size (beQ HB))); replace HB := Aside0.mk (below_step (beQ HB) hb); clear hb ho3))
 go_loopg [0, 3, 4] k (fun kq v0 v3 v4 w' => ∃ (x0_1 : Int) (x3_1 : List Int) (x4_1 : Int), v0 = .int .i64 x0_1 ∧ v4 = .int .i64 x4_1 ∧ Aside0 (spec_l01List.l0 kq x0_1 x3_1 x4_1 = some r) ∧ Aside0 (kq ≤ k) ∧ Aside0 (Kd.R (Kd.int .i64) 2 w' w.heap.size (fun _ => True) v3 x3_1) ∧ Aside0 (Below w.heap.size w w'))
 case atStart => exact ⟨(a0), (y587), (0), sz, sz, H', ⟨Nat.le_refl _⟩, ⟨kdQ HO589⟩, ⟨beQ HB⟩⟩
 case round =>
  clear H'
  try clear p2
  obtain ⟨x0_1, x3_1, x4_1, rfl, rfl, HA, HK1, HO_3, HB⟩ := hrel
  cases gk with
  | zero => exact absurd HA.out (by simp [spec_l01List.l0])
  | succ k1 =>
   have H := HA.out; clear HA
   simp only [spec_l01List.l0] at H
   by_cases c4 : x0_1 > 0
   ·rw [if_pos c4] at H
    have c4b0 : decide (0 < x0_1) = true := decide_eq_true c4
    clear c4
    by_cases c5 : (Int.tmod x0_1 2) = 1
    ·rw [if_pos c5] at H
     have c5b0 : ((Int.tmod x0_1 2) == 1) = true := beq_iff_eq.mpr c5
     have c5b1 : ((Int.tmod x0_1 2) != 1) = false := bne_eq_false_iff_eq.mpr c5
     clear c5
     by_cases c6 : x3_1.length < 17592186044416
     ·rw [if_pos c6] at H
      have LMc6 := Aside0.mk c6; clear c6
      obtain ⟨y590, hy590⟩ : ∃ y_ : List Int, y_ = (x3_1 ++ [x4_1]) := ⟨_, rfl⟩
      replace H : (spec_l01List.l0 k1 (wrap64 (Int.tdiv x0_1 2)) y590 (wrap64 (x4_1 + 1))) = some r := by first | (rw [hy590]; with_reducible exact H) | (have H2_ := (Option.bind_some _ _).symm.trans H; rw [hy590]; with_reducible exact H2_) | (have H2_ := (Option.bind_some _ _).symm.trans H; with_reducible exact H2_) | with_reducible exact H | (rw [hy590]; exact H) | exact H
      have Ny590 := Aside0.mk hy590; clear hy590
      have H' := Aside0.mk H
      clear H
      go_wp2_with (first | ((with_reducible refine gate_builtin (b := .append) (xs := #[.tmp 13, .tmp 15]) rfl ?_); at_builtin; refine Kd.R_append (Kd.int .i64) (w0 := w) w.heap.size rfl (.tmp 13) (.tmp 15) 28 2 (.int .i64 0) 8 rfl Tryd.underlying28 info2 rfl (by decide) (by omega) u3 x3_1 x4_1 [.int .i64 x4_1] (fun _ => True) (fun _ => False) rfl rfl ?aP (fun _ hk => hk.elim) ?aF ?aO ?aB ?aS ?aL ?_; (case aP => exact rfl); (case aB => exact (beQ HB)); (case aF => exact (fun _ _ => trivial)); (case aO => exact (kdQ HO_3)); (case aS => exact (below_size (beQ HB))); (case aL => have := LMc6.out; omega); intro v591 w7 ho hb hg hat; rw [← Ny590.out] at ho; have n0_ := Aside0.mk (hb); have n1_ := Aside0.mk (ho); clear HB; clear HO_3; have HB := n0_; have HO592 := n1_; clear n0_ n1_; clear ho hb hg hat))
      go_roundg k1
      case measure => have := HK1.out; omega
      case rel => exact ⟨(wrap64 (Int.tdiv x0_1 2)), (y590), (wrap64 (x4_1 + 1)), sz, sz, H', ⟨by have := HK1.out; omega⟩, ⟨kdQ HO592⟩, ⟨beQ HB⟩⟩
     ·rw [if_neg c6] at H
      exact absurd H (by simp)
    ·rw [if_neg c5] at H
     have c5b0 : ((Int.tmod x0_1 2) == 1) = false := beq_eq_false_iff_ne.mpr c5
     have c5b1 : ((Int.tmod x0_1 2) != 1) = true := bne_iff_ne.mpr c5
     have H' := Aside0.mk H
     clear H
     go_wp2
     go_roundg k1
     case measure => have := HK1.out; omega
     case rel => exact ⟨(wrap64 (Int.tdiv x0_1 2)), (x3_1), (wrap64 (x4_1 + 1)), sz, sz, H', ⟨by have := HK1.out; omega⟩, ⟨kdQ HO_3⟩, ⟨beQ HB⟩⟩
   ·rw [if_neg c4] at H
    have c4b0 : decide (0 < x0_1) = false := decide_eq_false c4
    clear c4
    obtain rfl := Option.some.inj H
    go_wp2
    go_ret
    exact ⟨_, rz, kdQ HO_3, beQ HB⟩

/-! ### spec_PartOfAlphabet: function 39 -/
def spec_PartOfAlphabet.f (k : Nat) (a0_0 : Int) (l0_1 : List Int) (a1 : Int) : Option (Int × List Int × Int) := (spec_l02Is.f k a0_0 l0_1).bind fun t595 => (if t595 = true then ((spec_l01Full.f a0_0).bind fun t596 => ((spec_l01In.f a1 0 t596).bind fun t597 => (if t597 = true then ((spec_l01List.f k a1).bind fun t598 => ((spec_l02Part.f k a0_0 l0_1 t598).bind fun bt601 => (some (bt601.1, bt601.2, 0)))) else (some (0, ([] : List Int), 2))))) else (some (0, ([] : List Int), 1)))
theorem spec_PartOfAlphabet.mono : ∀ a0 a1 a2 k, LeO (spec_PartOfAlphabet.f k a0 a1 a2) (spec_PartOfAlphabet.f (k + 1) a0 a1 a2) := by
 intro a0 a1 a2 k
 unfold spec_PartOfAlphabet.f
 repeat' first
   | (with_reducible exact spec_l01List.mono _ _)
   | (with_reducible exact spec_l02Is.mono _ _ _)
   | (with_reducible exact spec_l02Part.mono _ _ _ _)
   | (with_reducible exact LeO.refl _)
   | (with_reducible exact LeO.none _)
   | (with_reducible refine LeO.ite ?_ ?_)
   | (with_reducible refine LeO.bind ?_ (fun _ => ?_))
   | exact spec_l01List.mono _ _
   | exact spec_l02Is.mono _ _ _
   | exact spec_l02Part.mono _ _ _ _
   | exact LeO.none _
   | refine LeO.ite ?_ ?_
   | refine LeO.bind ?_ (fun _ => ?_)
set_option maxHeartbeats 8000000 in
set_option maxRecDepth 100000 in
theorem spec_PartOfAlphabet.calls (k : Nat) (a0_0 : Int) (A0_1 : Option Addr) (c0_1 : Nat) (l0_1 : List Int) (a1 : Int) (r1 : Int) (r2 : List Int) (r3 : Int) (w : World) (hr0_1 : Kd.C (Kd.int .i64) w A0_1 l0_1.length l0_1) (hc0_1 : l0_1.length ≤ c0_1) (h : spec_PartOfAlphabet.f k a0_0 l0_1 a1 = some (r1, r2, r3)) :
  Calls Tryd.prog 39 #[.agg #[.int .i64 a0_0, .slice A0_1 l0_1.length c0_1], .int .i64 a1] w fun e w' => ∃ v1_ : Value, e = .returned (.tuple #[.agg #[.int .i64 r1, v1_], .int .i64 r3]) ∧ Kd.R (Kd.int .i64) 2 w' w.heap.size (fun _ => True) v1_ r2 ∧ Below w.heap.size w w' := by
 have hu38 := Tryd.underlying38; have HR0_1 := Aside0.mk hr0_1; have HC0_1 := Aside0.mk hc0_1; clear hr0_1 hc0_1; have HB := Aside0.mk (Below.refl w.heap.size w)
 have H : ((spec_l02Is.f k a0_0 l0_1).bind fun t595 => (if t595 = true then ((spec_l01Full.f a0_0).bind fun t596 => ((spec_l01In.f a1 0 t596).bind fun t597 => (if t597 = true then ((spec_l01List.f k a1).bind fun t598 => ((spec_l02Part.f k a0_0 l0_1 t598).bind fun bt601 => (some (bt601.1, bt601.2, 0)))) else (some (0, ([] : List Int), 2))))) else (some (0, ([] : List Int), 1)))) = some (r1, r2, r3) := h
 clear h; replace H := Option.bind_eq_some_iff.mp H; obtain ⟨t595, A30, H⟩ := H
 replace H : (if t595 = true then ((spec_l01Full.f a0_0).bind fun t596 => ((spec_l01In.f a1 0 t596).bind fun t597 => (if t597 = true then ((spec_l01List.f k a1).bind fun t598 => ((spec_l02Part.f k a0_0 l0_1 t598).bind fun bt601 => (some (bt601.1, bt601.2, 0)))) else (some (0, ([] : List Int), 2))))) else (some (0, ([] : List Int), 1))) = some (r1, r2, r3) := H
 have A3 := Aside0.mk A30; clear A30
 by_cases c4 : t595 = true
 ·subst c4
  have H1 : ((spec_l01Full.f a0_0).bind fun t596 => ((spec_l01In.f a1 0 t596).bind fun t597 => (if t597 = true then ((spec_l01List.f k a1).bind fun t598 => ((spec_l02Part.f k a0_0 l0_1 t598).bind fun bt601 => (some (bt601.1, bt601.2, 0)))) else (some (0, ([] : List Int), 2))))) = some (r1, r2, r3) := by rw [if_pos rfl] at H; exact H
  clear H; have H := H1; clear H1; replace H := Option.bind_eq_some_iff.mp H; obtain ⟨t596, A50, H⟩ := H
  replace H : ((spec_l01In.f a1 0 t596).bind fun t597 => (if t597 = true then ((spec_l01List.f k a1).bind fun t598 => ((spec_l02Part.f k a0_0 l0_1 t598).bind fun bt601 => (some (bt601.1, bt601.2, 0)))) else (some (0, ([] : List Int), 2)))) = some (r1, r2, r3) := H
  have A5 := Aside0.mk A50; clear A50; replace H := Option.bind_eq_some_iff.mp H; obtain ⟨t597, A60, H⟩ := H
  replace H : (if t597 = true then ((spec_l01List.f k a1).bind fun t598 => ((spec_l02Part.f k a0_0 l0_1 t598).bind fun bt601 => (some (bt601.1, bt601.2, 0)))) else (some (0, ([] : List Int), 2))) = some (r1, r2, r3) := H
  have A6 := Aside0.mk A60; clear A60
  by_cases c7 : t597 = true
  ·subst c7
   have H1 : ((spec_l01List.f k a1).bind fun t598 => ((spec_l02Part.f k a0_0 l0_1 t598).bind fun bt601 => (some (bt601.1, bt601.2, 0)))) = some (r1, r2, r3) := by rw [if_pos rfl] at H; exact H
   clear H; have H := H1; clear H1; replace H := Option.bind_eq_some_iff.mp H; obtain ⟨t598, A80, H⟩ := H
   replace H : ((spec_l02Part.f k a0_0 l0_1 t598).bind fun bt601 => (some (bt601.1, bt601.2, 0))) = some (r1, r2, r3) := H
   have A8 := Aside0.mk A80; clear A80; replace H := Option.bind_eq_some_iff.mp H
   obtain ⟨⟨t601, t602⟩, A90, H⟩ := H
   replace H : (some (t601, t602, 0)) = some (r1, r2, r3) := H
   have A9 := Aside0.mk A90; clear A90
   simp only [Option.some.injEq, Prod.mk.injEq] at H
   obtain ⟨rfl, rfl, rfl⟩ := H
   go_enter Tryd.func39, Tryd.ntmps39
   try go_wp2_with (first | ((with_reducible refine gate_dst (N := 2) rfl ?_); refine box_event ?hg (N := 2) ?hd (cs := #[.int .i64 a0_0, .slice A0_1 l0_1.length c0_1]) (t := 38) ?hr ?_; (case hd => rfl); (case hg => rfl); (case hr => first | (go_simp; done) | (go_simp; rfl)); intro gb593 hg w10 hbox hb; have BK593 := Aside0.mk (hbox); have GW593 := Aside0.mk ((by rw [hg]; exact (below_size (beQ HB)) : w.heap.size ≤ gb593)); have GE593 := Aside0.mk ((by rw [hg]; exact (below_size (beQ HB)) : w.heap.size ≤ gb593)); replace HB := Aside0.mk (below_step (beQ HB) hb); clear hb hbox hg) | ((with_reducible refine gate_dst (N := 4) rfl ?_); refine box_event ?hg (N := 4) ?hd (cs := #[.int .i64 0, .slice none 0 0]) (t := 38) ?hr ?_; (case hd => rfl); (case hg => rfl); (case hr => first | (go_simp; done) | (go_simp; rfl)); intro gb594 hg w11 hbox hb; have BK594 := Aside0.mk (hbox); have GW594 := Aside0.mk ((by rw [hg]; exact (below_size (beQ HB)) : w.heap.size ≤ gb594)); have GE594 := Aside0.mk ((by rw [hg]; exact (below_size (beQ HB)) : w.heap.size ≤ gb594)); replace HB := Aside0.mk (below_step (beQ HB) hb); have NB593_594 := Aside0.mk ((by rw [hg]; exact Nat.ne_of_lt (blk_lt (blkQ BK593)) : gb593 ≠ gb594)); have NB594_593 := Aside0.mk ((by rw [hg]; exact Nat.ne_of_gt (blk_lt (blkQ BK593)) : gb594 ≠ gb593)); replace BK593 := bb BK593 hb; clear hb hbox hg; have hnb12 := NB593_594.out; have hnc12 := NB594_593.out; have hcz13_0 : w11.cell? ⟨gb593, 0, none⟩ = some (.int .i64 a0_0) := bc BK593 0; have hcz13_1 : w11.cell? ⟨gb593, 1, none⟩ = some (.slice A0_1 l0_1.length c0_1) := bc BK593 1; have hfz13_0 := blk_frozen BK593.out 0; have hfz13_1 := blk_frozen BK593.out 1) | ((with_reducible refine gate_callee (f := 69) rfl ?_); refine goesL_ (some 7) rfl rfl Tryd.func69 (by kernel_rfl) rfl #[.agg #[.int .i64 a0_0, .slice A0_1 l0_1.length c0_1]] rfl lz ?_; (with_reducible refine (spec_l02Is.calls k a0_0 _ _ l0_1 true _ ?side1 ?side2 A3.out).mono ?_); (case side1 => have q_ := Aside0.mk (Kd.C_below HR0_1.out HB.out); exact cQ q_); (case side2 => exact HC0_1.out); rintro e w14 ⟨rfl, hb⟩; refine ⟨_, rfl, ?_⟩; replace BK593 := bb BK593 hb; replace BK594 := bb BK594 hb; replace HB := Aside0.mk (below_step (beQ HB) hb); (try clear hb); (try clear hb2); (try clear hk); (try clear hi); have hcz15_0 : w14.cell? ⟨gb593, 0, none⟩ = some (.int .i64 a0_0) := bc BK593 0; have hcz15_1 : w14.cell? ⟨gb593, 1, none⟩ = some (.slice A0_1 l0_1.length c0_1) := bc BK593 1; have hfz15_0 := blk_frozen BK593.out 0; have hfz15_1 := blk_frozen BK593.out 1) | ((with_reducible refine gate_callee (f := 74) rfl ?_); refine goesL_ (some 13) rfl rfl Tryd.func74 (by kernel_rfl) rfl #[.int .i64 a0_0] rfl lz ?_; (with_reducible refine (spec_l01Full.calls a0_0 t596 _ A5.out).mono ?_); rintro e w' ⟨rfl, ⟨nd, rfl⟩⟩; refine ⟨_, rfl, ?_⟩; (try (rw [drewN_self w14]; generalize hq_ : World.drewN w14 _ = w14; have n0_ : Aside0 (w14.heap[gb593]? = some (.cells #[.int .i64 a0_0, .slice A0_1 l0_1.length c0_1] 38 (0, 0))) := ⟨by rw [← hq_]; exact (blkQ BK593)⟩; have n1_ : Aside0 (w14.heap[gb594]? = some (.cells #[.int .i64 0, .slice none 0 0] 38 (0, 0))) := ⟨by rw [← hq_]; exact (blkQ BK594)⟩; have n2_ : Aside0 (Below w.heap.size w w14) := ⟨by rw [← hq_]; exact (beQ HB)⟩; clear BK593 BK594 HB hq_; have BK593 := n0_; have BK594 := n1_; have HB := n2_; clear n0_ n1_ n2_))) | ((with_reducible refine gate_callee (f := 73) rfl ?_); refine goesL_ (some 14) rfl rfl Tryd.func73 (by kernel_rfl) rfl #[.int .i64 a1, .int .i64 0, .int .i64 t596] rfl lz ?_; (with_reducible refine (spec_l01In.calls a1 0 t596 true _ A6.out).mono ?_); rintro e w' ⟨rfl, ⟨nd, rfl⟩⟩; refine ⟨_, rfl, ?_⟩; (try (rw [drewN_self w14]; generalize hq_ : World.drewN w14 _ = w14; have n0_ : Aside0 (w14.heap[gb593]? = some (.cells #[.int .i64 a0_0, .slice A0_1 l0_1.length c0_1] 38 (0, 0))) := ⟨by rw [← hq_]; exact (blkQ BK593)⟩; have n1_ : Aside0 (w14.heap[gb594]? = some (.cells #[.int .i64 0, .slice none 0 0] 38 (0, 0))) := ⟨by rw [← hq_]; exact (blkQ BK594)⟩; have n2_ : Aside0 (Below w.heap.size w w14) := ⟨by rw [← hq_]; exact (beQ HB)⟩; clear BK593 BK594 HB hq_; have BK593 := n0_; have BK594 := n1_; have HB := n2_; clear n0_ n1_ n2_))))
   replace BK593 := Aside0.mk (blk_drew BK593.out); replace BK594 := Aside0.mk (blk_drew BK594.out); replace HB := Aside0.mk (below_drew1 HB.out)
   refine start_ (n := 6) (S := fun w' => w'.cell? ⟨gb593, 0, none⟩ = some (.int .i64 a0_0) ∧ w'.cell? ⟨gb593, 1, none⟩ = some (.slice A0_1 l0_1.length c0_1)) (ds := []) #[false, false, false, false, false, false] (by kernel_rfl) rfl rfl ⟨bc BK593 0, bc BK593 1⟩ (fun hHeld => ?_)
   generalize w14.drew = w16 at BK593 BK594 HB hHeld ⊢
   refine pure_ (i := 1) (N := some 18) (v := ?_) (a' := ?_) #[false, true, false, false, false, false] rfl rfl (by kernel_rfl) (fun _ _ _ h => h) (Or.inl ⟨by rfl, ?_⟩) ?_ ?_
   rotate_left
   ·intro w'
    go_simp
    with_reducible rfl
   rotate_left
   ·simp only [Act.put, s1, s2, s3, i64_w, i32_w]
    rfl
   refine take_ (i := 0) (N := some 17) (v := ?_) (a' := ?_) #[true, true, false, false, false, false] rfl rfl (by kernel_rfl) (fun _ _ _ h => h) (Or.inl ⟨by rfl, ?_⟩) hHeld ?_ ?_
   rotate_left
   ·rintro w' ⟨s0, s1⟩
    go_simp
    with_reducible rfl
   rotate_left
   ·simp only [Act.put, s1, s2, s3, i64_w, i32_w]
    rfl
   refine one_ (i := 2) (N := some 19) #[true, true, true, false, false, false] rfl rfl (by kernel_rfl) (by decide) (fun K hK => ?_)
   refine goes_ Tryd.func76 (by kernel_rfl) rfl #[.int .i64 a1] (by rfl) rfl rfl lz ?_
   with_reducible refine (spec_l01List.calls k a1 t598 _ A8.out).mono ?_
   rintro e w17 ⟨v599, rfl, ho0, hb⟩
   refine ⟨_, rfl, ?_⟩
   have HO600 := Aside0.mk (Kd.R_lower ho0 (below_size (beQ HB))); replace BK593 := bb BK593 hb; replace BK594 := bb BK594 hb; replace HB := Aside0.mk (below_step (beQ HB) hb)
   (try clear hb)
   (try clear hb2)
   (try clear hk)
   (try clear hi)
   (try clear ho0)
   obtain ⟨Ao18, co18, eo18⟩ := Kd.R_slice HO600.out
   (first | subst eo18 | (injection eo18 with f1_ f2_ f3_; have f4_ := f1_.symm; have f5_ := f3_.symm; clear f1_ f2_ f3_; subst f4_; subst f5_))
   refine hK.out _ _ ⟨bc BK593 0, bc BK593 1⟩ (fun hHeld => ?_)
   clear hK K
   refine norm_ (a' := ?_) ?_ ?_
   rotate_left
   ·show Act.put _ (some 19) _ = _
    simp only [Act.put, s1, s2, s3, i64_w, i32_w]
    rfl
   refine one_ (i := 3) (N := some 20) #[true, true, true, true, false, false] rfl rfl (by kernel_rfl) (by decide) (fun K hK => ?_)
   refine goes_ Tryd.func75 (by kernel_rfl) rfl #[.agg #[.int .i64 a0_0, .slice A0_1 l0_1.length c0_1], .slice Ao18 t598.length co18] (by rfl) rfl rfl lz ?_
   with_reducible refine (spec_l02Part.calls k a0_0 _ _ l0_1 _ _ t598 t601 t602 _ ?side1 ?side2 ?side3 ?side4 A9.out).mono ?_
   (case side1 => have q_ := Aside0.mk (Kd.C_below HR0_1.out HB.out); exact cQ q_)
   (case side2 => exact HC0_1.out)
   (case side3 => have q_ := Aside0.mk (Kd.R_reads' HO600.out).2.2; exact cQ q_)
   (case side4 => exact (Kd.R_reads' HO600.out).2.1)
   rintro e w19 ⟨v603, rfl, ho0, hb⟩
   refine ⟨_, rfl, ?_⟩
   have HO604 := Aside0.mk (Kd.R_lower (Kd.R_new' ho0 (Kd.R_lt (kdQ HO600))) (below_size (beQ HB))); replace HO600 := Aside0.mk (Kd.R_elder' (kdQ HO600) (Kd.R_base ho0) hb); replace BK593 := bb BK593 hb; replace BK594 := bb BK594 hb; replace HB := Aside0.mk (below_step (beQ HB) hb)
   (try clear hb)
   (try clear hb2)
   (try clear hk)
   (try clear hi)
   (try clear ho0)
   obtain ⟨Ao21, co21, eo21⟩ := Kd.R_slice HO604.out
   (first | subst eo21 | (injection eo21 with f1_ f2_ f3_; have f4_ := f1_.symm; have f5_ := f3_.symm; clear f1_ f2_ f3_; subst f4_; subst f5_))
   refine hK.out _ _ ⟨bc BK593 0, bc BK593 1⟩ (fun hHeld => ?_)
   clear hK K
   refine norm_ (a' := ?_) ?_ ?_
   rotate_left
   ·show Act.put _ (some 20) _ = _
    simp only [Act.put, s1, s2, s3, i64_w, i32_w]
    rfl
   refine one_ (i := 4) (N := none) #[true, true, true, true, true, false] rfl rfl (by kernel_rfl) (by decide) (fun K hK => ?_)
   have hs20 : w19.cell? ⟨gb594, 0, none⟩ = some (.int .i64 0) := bc BK594 0
   have hfs20 := blk_frozen BK594.out 0; have hns20_0 := NB593_594.out; have hms20_0 := NB594_593.out
   have hs22 : w19.cell? ⟨gb594, 1, none⟩ = some (.slice none 0 0) := bc BK594 1
   have hfs22 := blk_frozen BK594.out 1; have hns22_0 := NB593_594.out; have hms22_0 := NB594_593.out
   refine skip_ (w1 := ?_) (by rfl) rfl ?_ ?_
   rotate_left
   ·go_simp
    rfl
   refine hK.out _ _ ⟨((cell_far (p := ⟨gb594, _, none⟩) NB593_594.out _).trans (((cell_far (p := ⟨gb594, _, none⟩) NB593_594.out _).trans (hHeld.1)))), ((cell_far (p := ⟨gb594, _, none⟩) NB593_594.out _).trans (((cell_far (p := ⟨gb594, _, none⟩) NB593_594.out _).trans (hHeld.2))))⟩ (fun hHeld => ?_)
   clear hK K
   refine pure_ (i := 5) (N := some 5) (v := ?_) (a' := ?_) #[true, true, true, true, true, true] rfl rfl (by kernel_rfl) (fun _ _ _ h => h) (Or.inl ⟨by rfl, ?_⟩) ?_ ?_
   rotate_left
   ·intro w'
    go_simp
    with_reducible rfl
   rotate_left
   ·simp only [Act.put, s1, s2, s3, i64_w, i32_w]
    rfl
   refine done_ (by kernel_rfl) ?_
   try go_wp2
   refine bodyPost_ret (results_ct rfl _ _ gb594 38 #[.int .i64 t601, .slice Ao21 t602.length co21] (0, 0) _ rfl (by (with_reducible repeat (first | refine blk_drewN ?_ _ | refine blk_drew ?_ | refine blk_alloc ?_ _)); refine blk_put (cs := #[.int .i64 t601, .slice none 0 0]) ?_ 1 _ rfl; (with_reducible repeat (first | refine blk_drewN ?_ _ | refine blk_drew ?_ | refine blk_alloc ?_ _)); refine blk_put (cs := #[.int .i64 0, .slice none 0 0]) ?_ 0 _ rfl; (with_reducible repeat (first | refine blk_drewN ?_ _ | refine blk_drew ?_ | refine blk_alloc ?_ _)); exact BK594.out) Tryd.underlying38 rfl (by kernel_rfl)) rfl ?_
   exact ⟨_, rz, by (with_reducible repeat (first | apply Kd.R_alloc | apply Kd.R_drewN | apply Kd.R_drew)); exact Kd.R_mono (Kd.R_far (p := ⟨gb594, 1, none⟩) (Kd.R_far (p := ⟨gb594, 0, none⟩) (Kd.R_types HO604.out BK594.out (by decide)) (fun _ hk => hk.2) (.int .i64 t601)) (fun _ hk => hk.2) (.slice Ao21 t602.length co21)) (fun _ hk => trivial), beQ HB⟩
  ·replace c7 := Bool.eq_false_iff.mpr c7
   subst c7
   have H1 : (some (0, ([] : List Int), 2)) = some (r1, r2, r3) := by rw [if_neg (show ¬ (false = true) by decide)] at H; exact H
   clear H; have H := H1; clear H1
   simp only [Option.some.injEq, Prod.mk.injEq] at H
   obtain ⟨rfl, rfl, rfl⟩ := H
   go_enter Tryd.func39, Tryd.ntmps39
   go_wp2_with (first | ((with_reducible refine gate_dst (N := 2) rfl ?_); refine box_event ?hg (N := 2) ?hd (cs := #[.int .i64 a0_0, .slice A0_1 l0_1.length c0_1]) (t := 38) ?hr ?_; (case hd => rfl); (case hg => rfl); (case hr => first | (go_simp; done) | (go_simp; rfl)); intro gb593 hg w23 hbox hb; have BK593 := Aside0.mk (hbox); have GW593 := Aside0.mk ((by rw [hg]; exact (below_size (beQ HB)) : w.heap.size ≤ gb593)); have GE593 := Aside0.mk ((by rw [hg]; exact (below_size (beQ HB)) : w.heap.size ≤ gb593)); replace HB := Aside0.mk (below_step (beQ HB) hb); clear hb hbox hg) | ((with_reducible refine gate_dst (N := 4) rfl ?_); refine box_event ?hg (N := 4) ?hd (cs := #[.int .i64 0, .slice none 0 0]) (t := 38) ?hr ?_; (case hd => rfl); (case hg => rfl); (case hr => first | (go_simp; done) | (go_simp; rfl)); intro gb594 hg w24 hbox hb; have BK594 := Aside0.mk (hbox); have GW594 := Aside0.mk ((by rw [hg]; exact (below_size (beQ HB)) : w.heap.size ≤ gb594)); have GE594 := Aside0.mk ((by rw [hg]; exact (below_size (beQ HB)) : w.heap.size ≤ gb594)); replace HB := Aside0.mk (below_step (beQ HB) hb); have NB593_594 := Aside0.mk ((by rw [hg]; exact Nat.ne_of_lt (blk_lt (blkQ BK593)) : gb593 ≠ gb594)); have NB594_593 := Aside0.mk ((by rw [hg]; exact Nat.ne_of_gt (blk_lt (blkQ BK593)) : gb594 ≠ gb593)); replace BK593 := bb BK593 hb; clear hb hbox hg; have hnb25 := NB593_594.out; have hnc25 := NB594_593.out; have hcz26_0 : w24.cell? ⟨gb593, 0, none⟩ = some (.int .i64 a0_0) := bc BK593 0; have hcz26_1 : w24.cell? ⟨gb593, 1, none⟩ = some (.slice A0_1 l0_1.length c0_1) := bc BK593 1; have hfz26_0 := blk_frozen BK593.out 0; have hfz26_1 := blk_frozen BK593.out 1) | ((with_reducible refine gate_callee (f := 69) rfl ?_); refine goesL_ (some 7) rfl rfl Tryd.func69 (by kernel_rfl) rfl #[.agg #[.int .i64 a0_0, .slice A0_1 l0_1.length c0_1]] rfl lz ?_; (with_reducible refine (spec_l02Is.calls k a0_0 _ _ l0_1 true _ ?side1 ?side2 A3.out).mono ?_); (case side1 => have q_ := Aside0.mk (Kd.C_below HR0_1.out HB.out); exact cQ q_); (case side2 => exact HC0_1.out); rintro e w27 ⟨rfl, hb⟩; refine ⟨_, rfl, ?_⟩; replace BK593 := bb BK593 hb; replace BK594 := bb BK594 hb; replace HB := Aside0.mk (below_step (beQ HB) hb); (try clear hb); (try clear hb2); (try clear hk); (try clear hi); have hcz28_0 : w27.cell? ⟨gb593, 0, none⟩ = some (.int .i64 a0_0) := bc BK593 0; have hcz28_1 : w27.cell? ⟨gb593, 1, none⟩ = some (.slice A0_1 l0_1.length c0_1) := bc BK593 1; have hfz28_0 := blk_frozen BK593.out 0; have hfz28_1 := blk_frozen BK593.out 1) | ((with_reducible refine gate_callee (f := 74) rfl ?_); refine goesL_ (some 13) rfl rfl Tryd.func74 (by kernel_rfl) rfl #[.int .i64 a0_0] rfl lz ?_; (with_reducible refine (spec_l01Full.calls a0_0 t596 _ A5.out).mono ?_); rintro e w' ⟨rfl, ⟨nd, rfl⟩⟩; refine ⟨_, rfl, ?_⟩; (try (rw [drewN_self w27]; generalize hq_ : World.drewN w27 _ = w27; have n0_ : Aside0 (w27.heap[gb593]? = some (.cells #[.int .i64 a0_0, .slice A0_1 l0_1.length c0_1] 38 (0, 0))) := ⟨by rw [← hq_]; exact (blkQ BK593)⟩; have n1_ : Aside0 (w27.heap[gb594]? = some (.cells #[.int .i64 0, .slice none 0 0] 38 (0, 0))) := ⟨by rw [← hq_]; exact (blkQ BK594)⟩; have n2_ : Aside0 (Below w.heap.size w w27) := ⟨by rw [← hq_]; exact (beQ HB)⟩; clear BK593 BK594 HB hq_; have BK593 := n0_; have BK594 := n1_; have HB := n2_; clear n0_ n1_ n2_))) | ((with_reducible refine gate_callee (f := 73) rfl ?_); refine goesL_ (some 14) rfl rfl Tryd.func73 (by kernel_rfl) rfl #[.int .i64 a1, .int .i64 0, .int .i64 t596] rfl lz ?_; (with_reducible refine (spec_l01In.calls a1 0 t596 false _ A6.out).mono ?_); rintro e w' ⟨rfl, ⟨nd, rfl⟩⟩; refine ⟨_, rfl, ?_⟩; (try (rw [drewN_self w27]; generalize hq_ : World.drewN w27 _ = w27; have n0_ : Aside0 (w27.heap[gb593]? = some (.cells #[.int .i64 a0_0, .slice A0_1 l0_1.length c0_1] 38 (0, 0))) := ⟨by rw [← hq_]; exact (blkQ BK593)⟩; have n1_ : Aside0 (w27.heap[gb594]? = some (.cells #[.int .i64 0, .slice none 0 0] 38 (0, 0))) := ⟨by rw [← hq_]; exact (blkQ BK594)⟩; have n2_ : Aside0 (Below w.heap.size w w27) := ⟨by rw [← hq_]; exact (beQ HB)⟩; clear BK593 BK594 HB hq_; have BK593 := n0_; have BK594 := n1_; have HB := n2_; clear n0_ n1_ n2_)); have hcz29_0 : w27.cell? ⟨gb594, 0, none⟩ = some (.int .i64 0) := bc BK594 0; have hcz29_1 : w27.cell? ⟨gb594, 1, none⟩ = some (.slice none 0 0) := bc BK594 1; have hfz29_0 := blk_frozen BK594.out 0; have hfz29_1 := blk_frozen BK594.out 1))
   refine bodyPost_ret (results_ct rfl _ _ gb594 38 #[.int .i64 0, .slice none 0 0] (0, 0) _ rfl (by (with_reducible repeat (first | refine blk_drewN ?_ _ | refine blk_drew ?_ | refine blk_alloc ?_ _)); refine blk_put (cs := #[.int .i64 0, .slice none 0 0]) ?_ 1 _ rfl; (with_reducible repeat (first | refine blk_drewN ?_ _ | refine blk_drew ?_ | refine blk_alloc ?_ _)); refine blk_put (cs := #[.int .i64 0, .slice none 0 0]) ?_ 0 _ rfl; (with_reducible repeat (first | refine blk_drewN ?_ _ | refine blk_drew ?_ | refine blk_alloc ?_ _)); exact BK594.out) Tryd.underlying38 rfl (by kernel_rfl)) rfl ?_
   exact ⟨_, rz, by first | exact Kd.R_nil _ _ _ _ _ | exact Kd.N_nil _ _ _ _ _ | exact Kd.V_nil _ _ _ _ _ | exact Kd.Q_nil _ _ _ _ _ | exact Kd.S_nil _ _ _ _ _, beQ HB⟩
 ·replace c4 := Bool.eq_false_iff.mpr c4
  subst c4
  have H1 : (some (0, ([] : List Int), 1)) = some (r1, r2, r3) := by rw [if_neg (show ¬ (false = true) by decide)] at H; exact H
  clear H; have H := H1; clear H1
  simp only [Option.some.injEq, Prod.mk.injEq] at H
  obtain ⟨rfl, rfl, rfl⟩ := H
  go_enter Tryd.func39, Tryd.ntmps39
  go_wp2_with (first | ((with_reducible refine gate_dst (N := 2) rfl ?_); refine box_event ?hg (N := 2) ?hd (cs := #[.int .i64 a0_0, .slice A0_1 l0_1.length c0_1]) (t := 38) ?hr ?_; (case hd => rfl); (case hg => rfl); (case hr => first | (go_simp; done) | (go_simp; rfl)); intro gb593 hg w30 hbox hb; have BK593 := Aside0.mk (hbox); have GW593 := Aside0.mk ((by rw [hg]; exact (below_size (beQ HB)) : w.heap.size ≤ gb593)); have GE593 := Aside0.mk ((by rw [hg]; exact (below_size (beQ HB)) : w.heap.size ≤ gb593)); replace HB := Aside0.mk (below_step (beQ HB) hb); clear hb hbox hg) | ((with_reducible refine gate_dst (N := 4) rfl ?_); refine box_event ?hg (N := 4) ?hd (cs := #[.int .i64 0, .slice none 0 0]) (t := 38) ?hr ?_; (case hd => rfl); (case hg => rfl); (case hr => first | (go_simp; done) | (go_simp; rfl)); intro gb594 hg w31 hbox hb; have BK594 := Aside0.mk (hbox); have GW594 := Aside0.mk ((by rw [hg]; exact (below_size (beQ HB)) : w.heap.size ≤ gb594)); have GE594 := Aside0.mk ((by rw [hg]; exact (below_size (beQ HB)) : w.heap.size ≤ gb594)); replace HB := Aside0.mk (below_step (beQ HB) hb); have NB593_594 := Aside0.mk ((by rw [hg]; exact Nat.ne_of_lt (blk_lt (blkQ BK593)) : gb593 ≠ gb594)); have NB594_593 := Aside0.mk ((by rw [hg]; exact Nat.ne_of_gt (blk_lt (blkQ BK593)) : gb594 ≠ gb593)); replace BK593 := bb BK593 hb; clear hb hbox hg; have hnb32 := NB593_594.out; have hnc32 := NB594_593.out; have hcz33_0 : w31.cell? ⟨gb593, 0, none⟩ = some (.int .i64 a0_0) := bc BK593 0; have hcz33_1 : w31.cell? ⟨gb593, 1, none⟩ = some (.slice A0_1 l0_1.length c0_1) := bc BK593 1; have hfz33_0 := blk_frozen BK593.out 0; have hfz33_1 := blk_frozen BK593.out 1) | ((with_reducible refine gate_callee (f := 69) rfl ?_); refine goesL_ (some 7) rfl rfl Tryd.func69 (by kernel_rfl) rfl #[.agg #[.int .i64 a0_0, .slice A0_1 l0_1.length c0_1]] rfl lz ?_; (with_reducible refine (spec_l02Is.calls k a0_0 _ _ l0_1 false _ ?side1 ?side2 A3.out).mono ?_); (case side1 => have q_ := Aside0.mk (Kd.C_below HR0_1.out HB.out); exact cQ q_); (case side2 => exact HC0_1.out); rintro e w34 ⟨rfl, hb⟩; refine ⟨_, rfl, ?_⟩; replace BK593 := bb BK593 hb; replace BK594 := bb BK594 hb; replace HB := Aside0.mk (below_step (beQ HB) hb); (try clear hb); (try clear hb2); (try clear hk); (try clear hi); have hcz35_0 : w34.cell? ⟨gb594, 0, none⟩ = some (.int .i64 0) := bc BK594 0; have hcz35_1 : w34.cell? ⟨gb594, 1, none⟩ = some (.slice none 0 0) := bc BK594 1; have hfz35_0 := blk_frozen BK594.out 0; have hfz35_1 := blk_frozen BK594.out 1))
  refine bodyPost_ret (results_ct rfl _ _ gb594 38 #[.int .i64 0, .slice none 0 0] (0, 0) _ rfl (by (with_reducible repeat (first | refine blk_drewN ?_ _ | refine blk_drew ?_ | refine blk_alloc ?_ _)); refine blk_put (cs := #[.int .i64 0, .slice none 0 0]) ?_ 1 _ rfl; (with_reducible repeat (first | refine blk_drewN ?_ _ | refine blk_drew ?_ | refine blk_alloc ?_ _)); refine blk_put (cs := #[.int .i64 0, .slice none 0 0]) ?_ 0 _ rfl; (with_reducible repeat (first | refine blk_drewN ?_ _ | refine blk_drew ?_ | refine blk_alloc ?_ _)); exact BK594.out) Tryd.underlying38 rfl (by kernel_rfl)) rfl ?_
  exact ⟨_, rz, by first | exact Kd.R_nil _ _ _ _ _ | exact Kd.N_nil _ _ _ _ _ | exact Kd.V_nil _ _ _ _ _ | exact Kd.Q_nil _ _ _ _ _ | exact Kd.S_nil _ _ _ _ _, beQ HB⟩

/-! ### impl_depend: function 90 -/
def impl_depend.f (a0_0 : Int) (l0_1 : List Int) (a1 : Int) (a2 : Int) : Option (Bool) := if 0 ≤ a1 then (if a1 < (l0_1.length : Int) then ((impl_has.f (rd l0_1 a1) a2).bind fun t607 => (some t607)) else (none)) else (none)
set_option maxHeartbeats 8000000 in
set_option maxRecDepth 100000 in
theorem impl_depend.calls (a0_0 : Int) (A0_1 : Option Addr) (c0_1 : Nat) (l0_1 : List Int) (a1 : Int) (a2 : Int) (r : Bool) (w : World) (hr0_1 : Kd.C (Kd.int .i64) w A0_1 l0_1.length l0_1) (hc0_1 : l0_1.length ≤ c0_1) (h : impl_depend.f a0_0 l0_1 a1 a2 = some r) :
  Calls Tryd.prog 90 #[.agg #[.int .i64 a0_0, .slice A0_1 l0_1.length c0_1], .int .i64 a1, .int .i64 a2] w fun e w' => e = .returned (.bool r) ∧ Below w.heap.size w w' := by
 have hu38 := Tryd.underlying38; have HR0_1 := Aside0.mk hr0_1; have HC0_1 := Aside0.mk hc0_1; clear hr0_1 hc0_1; have HB := Aside0.mk (Below.refl w.heap.size w)
 have H : (if 0 ≤ a1 then (if a1 < (l0_1.length : Int) then ((impl_has.f (rd l0_1 a1) a2).bind fun t607 => (some t607)) else (none)) else (none)) = some r := h
 clear h
 by_cases c4 : 0 ≤ a1
 ·rw [if_pos c4] at H
  have c4b0 : decide (0 ≤ a1) = true := decide_eq_true c4
  clear c4
  by_cases c5 : a1 < (l0_1.length : Int)
  ·rw [if_pos c5] at H
   have c5b0 : decide (a1 < (l0_1.length : Int)) = true := decide_eq_true c5
   clear c5; replace H := Option.bind_eq_some_iff.mp H; obtain ⟨t607, A60, H⟩ := H
   replace H : (some t607) = some r := H
   have A6 := Aside0.mk A60; clear A60
   obtain rfl := Option.some.inj H
   go_enter Tryd.func90, Tryd.ntmps90
   go_wp2_with (first | ((with_reducible refine gate_dst (N := 3) rfl ?_); refine box_event ?hg (N := 3) ?hd (cs := #[.int .i64 a0_0, .slice A0_1 l0_1.length c0_1]) (t := 38) ?hr ?_; (case hd => rfl); (case hg => rfl); (case hr => first | (go_simp; done) | (go_simp; rfl)); intro gb605 hg w7 hbox hb; have BK605 := Aside0.mk (hbox); have GW605 := Aside0.mk ((by rw [hg]; exact (below_size (beQ HB)) : w.heap.size ≤ gb605)); have GE605 := Aside0.mk ((by rw [hg]; exact (below_size (beQ HB)) : w.heap.size ≤ gb605)); replace HB := Aside0.mk (below_step (beQ HB) hb); clear hb hbox hg; have hcz8_0 : w7.cell? ⟨gb605, 0, none⟩ = some (.int .i64 a0_0) := bc BK605 0; have hcz8_1 : w7.cell? ⟨gb605, 1, none⟩ = some (.slice A0_1 l0_1.length c0_1) := bc BK605 1; have hfz8_0 := blk_frozen BK605.out 0; have hfz8_1 := blk_frozen BK605.out 1; have p606 : 0 ≤ (a1 : Int) := of_decide_eq_true (by first | (with_reducible assumption) | assumption); have q606 : a1 < (l0_1.length : Int) := of_decide_eq_true (by first | (with_reducible assumption) | assumption); obtain ⟨ad606, e606, hx606_0⟩ := Kd.at_int HR0_1.out a1 p606 q606; cases e606; replace hx606_0 := (HB.out.cell (World.block_lt_of_cell? w _ hx606_0)).trans hx606_0; replace p606 := eq_true p606; replace q606 := eq_true q606) | ((with_reducible refine gate_callee (f := 86) rfl ?_); refine goesL_ (some 13) rfl rfl Tryd.func86 (by kernel_rfl) rfl #[.int .i64 (rd l0_1 a1), .int .i64 a2] rfl lz ?_; (with_reducible refine (impl_has.calls (rd l0_1 a1) a2 t607 _ A6.out).mono ?_); rintro e w' ⟨rfl, ⟨nd, rfl⟩⟩; refine ⟨_, rfl, ?_⟩))
   go_ret
   exact ⟨rz, beQ HB⟩
  ·rw [if_neg c5] at H
   exact absurd H (by simp)
 ·rw [if_neg c4] at H
  exact absurd H (by simp)

end Go.Proofs.YtdbdlhjhacbjoaaDoor.G
