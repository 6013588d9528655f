-- A copy, with what one law needs, of a text that print.sh or a program of ours wrote
import Derived.Test.YtdcggbkbcackaaaDoorZ1G0
import Derived.Test.YtdcggbkbcackaaaDoorZ1GQ01b
import Derived.Test.YtdcggbkbcackaaaDoorZ1GQ02a
import Derived.Test.YtdcggbkbcackaaaDoorZ1GQ02c
namespace Go.Proofs.YtdcggbkbcackaaaDoor.G
open Go.RowKit Go.Proofs.YtdcggbkbcackaaaDoorW.PrintWords Go.Proofs.YtdcggbkbcackaaaDoorW.PrintLast Go.Proofs.YtdcggbkbcackaaaDoorW.PrintMore
theorem zQ02dx0 {p : Prop} (h : p := by repeat (first | (with_reducible first | exact HB.out | apply below_alloc | apply pw_below_drewN | apply below_drew1 | refine below_set ?_ GE469.out) | exact HB.out)) : p := h
theorem zQ02dx1 {p : Prop} (h : p := by repeat (first | (with_reducible first | exact HI473.out | apply IsS67.alloc | apply IsS67.drewN | apply IsS67.drew | apply IsS67.set_1 | apply IsS67.set_2 | refine IsS67.far ?_ NB473_469.out _) | exact HI473.out)) : p := h
theorem zQ02dx2 {p : Prop} (h : p := by repeat (first | (with_reducible first | exact HB.out | apply below_alloc | apply pw_below_drewN | apply below_drew1 | refine below_set ?_ (IsS67.ge HI473.out) | refine below_set ?_ GE469.out) | exact HB.out)) : p := h
theorem zQ02dx3 {p : Prop} (h : p := by repeat (first | exact Drawn0.refl _ | apply Drawn0.step)) : p := h
attribute [local go_sem] max2_int min2_int max_two min_two max_three min_three max_four min_four   -- for this text's walks alone
set_option linter.unusedVariables false
set_option linter.unusedSimpArgs false
def spec_DrawProcessesOf.f (k : Nat) (l0 : List Int) : Option (Int × List Int) := (spec_l01From.f k l0).bind fun bt470 => ((spec_l01Next.f bt470.1 bt470.2.1 bt470.2.2 12).bind fun bt474 => (if bt474.1 = 0 then (some (8, (([253, 254, 247, 251, 223, 239, 127, 191] : List Int)))) else (if bt474.1 = 1 then (some (8, (([249, 250, 252, 207, 215, 231, 127, 191] : List Int)))) else ((spec_l02Spoil.f k bt470.1 bt474.2.1 bt474.2.2 8).bind fun bt483 => (some (bt483.1, bt483.2.1))))))
set_option maxHeartbeats 8000000 in
set_option maxRecDepth 100000 in
theorem spec_DrawProcessesOf.calls (k : Nat) (A0 : Option Addr) (c0 : Nat) (l0 : List Int) (r1 : Int) (r2 : List Int) (w : World) (hr0 : Kd.C (Kd.int .u8) w A0 l0.length l0) (hc0 : l0.length ≤ c0) (h : spec_DrawProcessesOf.f k l0 = some (r1, r2)) :
  Calls Tryd.prog 15 #[.slice A0 l0.length c0] w fun e w' => ∃ v1_ : Value, e = .returned (.agg #[.int .i64 r1, v1_]) ∧ Kd.R (Kd.int .i64) 2 w' w.heap.size (fun _ => True) v1_ r2 ∧ Below w.heap.size w w' := by
 have hu28 := Tryd.underlying28; have HR0 := Aside0.mk hr0; have HC0 := Aside0.mk hc0; clear hr0 hc0; have HB := Aside0.mk (Below.refl w.heap.size w)
 have H : ((spec_l01From.f k l0).bind fun bt470 => ((spec_l01Next.f bt470.1 bt470.2.1 bt470.2.2 12).bind fun bt474 => (if bt474.1 = 0 then (some (8, (([253, 254, 247, 251, 223, 239, 127, 191] : List Int)))) else (if bt474.1 = 1 then (some (8, (([249, 250, 252, 207, 215, 231, 127, 191] : List Int)))) else ((spec_l02Spoil.f k bt470.1 bt474.2.1 bt474.2.2 8).bind fun bt483 => (some (bt483.1, bt483.2.1))))))) = some (r1, r2) := h
 clear h; replace H := Option.bind_eq_some_iff.mp H
 obtain ⟨⟨t470, t471, t472⟩, A20, H⟩ := H
 replace H : ((spec_l01Next.f t470 t471 t472 12).bind fun bt474 => (if bt474.1 = 0 then (some (8, (([253, 254, 247, 251, 223, 239, 127, 191] : List Int)))) else (if bt474.1 = 1 then (some (8, (([249, 250, 252, 207, 215, 231, 127, 191] : List Int)))) else ((spec_l02Spoil.f k t470 bt474.2.1 bt474.2.2 8).bind fun bt483 => (some (bt483.1, bt483.2.1)))))) = some (r1, r2) := H
 have A2 := Aside0.mk A20; clear A20; replace H := Option.bind_eq_some_iff.mp H
 obtain ⟨⟨t474, t475, t476⟩, A30, H⟩ := H
 replace H : (if t474 = 0 then (some (8, (([253, 254, 247, 251, 223, 239, 127, 191] : List Int)))) else (if t474 = 1 then (some (8, (([249, 250, 252, 207, 215, 231, 127, 191] : List Int)))) else ((spec_l02Spoil.f k t470 t475 t476 8).bind fun bt483 => (some (bt483.1, bt483.2.1))))) = some (r1, r2) := H
 have A3 := Aside0.mk A30; clear A30
 by_cases c4 : t474 = 0
 ·rw [if_pos c4] at H
  have c4b0 : (t474 == 0) = true := beq_iff_eq.mpr c4
  have c4b1 : (t474 != 0) = false := bne_eq_false_iff_eq.mpr c4
  clear c4
  obtain ⟨y477, hy477⟩ : ∃ y_ : List Int, y_ = (([253, 254, 247, 251, 223, 239, 127, 191] : List Int)) := ⟨_, rfl⟩
  replace H : (some (8, y477)) = some (r1, r2) := by first | (rw [hy477]; with_reducible exact H) | (have H2_ := (Option.bind_some _ _).symm.trans H; rw [hy477]; with_reducible exact H2_) | (have H2_ := (Option.bind_some _ _).symm.trans H; with_reducible exact H2_) | with_reducible exact H | (rw [hy477]; exact H) | exact H
  have Ny477 := Aside0.mk hy477; clear hy477
  simp only [Option.some.injEq, Prod.mk.injEq] at H
  obtain ⟨rfl, rfl⟩ := H
  go_enter Tryd.func15, Tryd.ntmps15
  go_wp2_with (first | ((with_reducible refine gate_dst (N := 2) rfl ?_); refine box_event ?hg (N := 2) ?hd (cs := #[.int .i64 0, .slice none 0 0]) (t := 28) ?hr ?_; (case hd => rfl); (case hg => rfl); (case hr => first | (go_simp; done) | (go_simp; rfl)); intro gb469 hg w5 hbox hb; have BK469 := Aside0.mk (hbox); have GW469 := Aside0.mk ((by rw [hg]; exact (below_size (beQ HB)) : w.heap.size ≤ gb469)); have GE469 := Aside0.mk ((by rw [hg]; exact (below_size (beQ HB)) : w.heap.size ≤ gb469)); replace HB := Aside0.mk (below_step (beQ HB) hb); clear hb hbox hg) | ((with_reducible refine gate_callee (f := 28) rfl ?_); refine goesL_ (some 5) rfl rfl Tryd.func28 (by kernel_rfl) rfl #[.slice A0 l0.length c0] rfl lz ?_; (with_reducible refine (spec_l01From.calls k _ _ l0 t470 t471 t472 w _ ?side1 ?side2 ?side3 A2.out).mono ?_); (case side1 => exact zQ02dx0); (case side2 => exact HR0.out); (case side3 => exact HC0.out); rintro e w6 ⟨g473, rfl, hi, hb, hb2, hgw_⟩; refine ⟨_, rfl, ?_⟩; replace HB := Aside0.mk (hb); have HI473 := Aside0.mk (hi); have NB473_469 := Aside0.mk (IsS67.ne_blk hi (blk_below (blkQ BK469) hb2) (by decide)); have NB469_473 := Aside0.mk (Ne.symm (IsS67.ne_blk hi (blk_below (blkQ BK469) hb2) (by decide))); replace BK469 := Aside0.mk (blk_below (blkQ BK469) hb2); (try clear hb); (try clear hb2); (try clear hk); (try clear hi); (try clear hgw_)) | ((with_reducible refine gate_callee (f := 29) rfl ?_); refine goesL_ (some 7) rfl rfl Tryd.func29 (by kernel_rfl) rfl #[.pointer (some ⟨g473, 0, none⟩), .int .i64 12] rfl lz ?_; (with_reducible refine (spec_l01Next.calls g473 t470 t471 t472 12 t474 t475 t476 w _ ?side1 ?side2 A3.out).mono ?_); (case side1 => exact zQ02dx1); (case side2 => exact zQ02dx2); rintro e w7 ⟨rfl, hi, hb, hk⟩; refine ⟨_, rfl, ?_⟩; replace BK469 := Aside0.mk (KeepBut.blk hk (g' := gb469) (o := .cells #[.int .i64 0, .slice none 0 0] 28 (0, 0)) (blkQ BK469) NB469_473.out (by simp)); replace HB := Aside0.mk (hb); replace HI473 := Aside0.mk (hi); (try clear hb); (try clear hb2); (try clear hk); (try clear hi); (try clear hgw_)) | ((with_reducible refine gate_dst (N := 10) rfl ?_); refine Kd.R_lit (Kd.int .i64) _ 2 ?hg (N := 10) ?hd (xs := ([253, 254, 247, 251, 223, 239, 127, 191] : List Int)) (inner := [.int .i64 253, .int .i64 254, .int .i64 247, .int .i64 251, .int .i64 223, .int .i64 239, .int .i64 127, .int .i64 191]) (ok := fun _ => True) (okp := fun _ => True) ?hr ?hp (fun _ hk => hk) trivial (Below.refl _ _) (Nat.le_refl _) (by simp) ?_; (case hd => rfl); (case hg => rfl); (case hr => first | (go_simp; done) | (go_simp; rfl)); (case hp => exact (Reps.one (show Kd.M (Kd.int .i64) _ _ _ 253 [.int .i64 253] from rfl) (Reps.one (show Kd.M (Kd.int .i64) _ _ _ 254 [.int .i64 254] from rfl) (Reps.one (show Kd.M (Kd.int .i64) _ _ _ 247 [.int .i64 247] from rfl) (Reps.one (show Kd.M (Kd.int .i64) _ _ _ 251 [.int .i64 251] from rfl) (Reps.one (show Kd.M (Kd.int .i64) _ _ _ 223 [.int .i64 223] from rfl) (Reps.one (show Kd.M (Kd.int .i64) _ _ _ 239 [.int .i64 239] from rfl) (Reps.one (show Kd.M (Kd.int .i64) _ _ _ 127 [.int .i64 127] from rfl) (Reps.one (show Kd.M (Kd.int .i64) _ _ _ 191 [.int .i64 191] from rfl) (Reps.none _ _)))))))))); intro v478 w8 ho9 hb hg_ hnew_; clear hg_ hnew_; (first | rw [← Ny477.out] at ho9 | (simp only [Int.reduceToNat] at ho9; rw [← Ny477.out] at ho9)); have HO479 := Aside0.mk (Kd.R_lower ho9 (below_size (zQ02dx2))); replace BK469 := bb BK469 hb; replace HB := Aside0.mk (below_step (zQ02dx2) hb); replace HI473 := Aside0.mk (IsS67.below (zQ02dx1) hb); clear hb ho9; obtain ⟨Ao10, co10, eo10⟩ := Kd.R_slice HO479.out; subst eo10; have hnb11 := NB469_473.out; have hnc11 := NB473_469.out; have hcz12_0 : w8.cell? ⟨gb469, 0, none⟩ = some (.int .i64 0) := bc BK469 0; have hcz12_1 : w8.cell? ⟨gb469, 1, none⟩ = some (.slice none 0 0) := bc BK469 1; have hfz12_0 := blk_frozen BK469.out 0; have hfz12_1 := blk_frozen BK469.out 1))
  refine bodyPost_ret (results_cell_row rfl _ _ gb469 28 #[.int .i64 8, .slice Ao10 y477.length co10] (0, 0) _ rfl (by (with_reducible repeat (first | refine blk_drewN ?_ _ | refine blk_drew ?_ | refine blk_alloc ?_ _)); refine blk_put (cs := #[.int .i64 8, .slice none 0 0]) ?_ 1 _ rfl; (with_reducible repeat (first | refine blk_drewN ?_ _ | refine blk_drew ?_ | refine blk_alloc ?_ _)); refine blk_put (cs := #[.int .i64 0, .slice none 0 0]) ?_ 0 _ rfl; (with_reducible repeat (first | refine blk_drewN ?_ _ | refine blk_drew ?_ | refine blk_alloc ?_ _)); exact BK469.out) Tryd.underlying28 rfl (by kernel_rfl)) rfl ?_
  exact ⟨_, rz, by (with_reducible repeat (first | apply Kd.R_alloc | apply Kd.R_drewN | apply Kd.R_drew)); exact Kd.R_mono (Kd.R_far (p := ⟨gb469, 1, none⟩) (Kd.R_far (p := ⟨gb469, 0, none⟩) (Kd.R_types HO479.out BK469.out (by decide)) (fun _ hk => hk.2) (.int .i64 8)) (fun _ hk => hk.2) (.slice Ao10 y477.length co10)) (fun _ hk => trivial), zQ02dx2⟩
 ·rw [if_neg c4] at H
  have c4b0 : (t474 == 0) = false := beq_eq_false_iff_ne.mpr c4
  have c4b1 : (t474 != 0) = true := bne_iff_ne.mpr c4
  by_cases c13 : t474 = 1
  ·rw [if_pos c13] at H
   have c13b0 : (t474 == 1) = true := beq_iff_eq.mpr c13
   have c13b1 : (t474 != 1) = false := bne_eq_false_iff_eq.mpr c13
   clear c13
   obtain ⟨y480, hy480⟩ : ∃ y_ : List Int, y_ = (([249, 250, 252, 207, 215, 231, 127, 191] : List Int)) := ⟨_, rfl⟩
   replace H : (some (8, y480)) = some (r1, r2) := by first | (rw [hy480]; with_reducible exact H) | (have H2_ := (Option.bind_some _ _).symm.trans H; rw [hy480]; with_reducible exact H2_) | (have H2_ := (Option.bind_some _ _).symm.trans H; with_reducible exact H2_) | with_reducible exact H | (rw [hy480]; exact H) | exact H
   have Ny480 := Aside0.mk hy480; clear hy480
   simp only [Option.some.injEq, Prod.mk.injEq] at H
   obtain ⟨rfl, rfl⟩ := H
   go_enter Tryd.func15, Tryd.ntmps15
   go_wp2_with (first | ((with_reducible refine gate_dst (N := 2) rfl ?_); refine box_event ?hg (N := 2) ?hd (cs := #[.int .i64 0, .slice none 0 0]) (t := 28) ?hr ?_; (case hd => rfl); (case hg => rfl); (case hr => first | (go_simp; done) | (go_simp; rfl)); intro gb469 hg w14 hbox hb; have BK469 := Aside0.mk (hbox); have GW469 := Aside0.mk ((by rw [hg]; exact (below_size (beQ HB)) : w.heap.size ≤ gb469)); have GE469 := Aside0.mk ((by rw [hg]; exact (below_size (beQ HB)) : w.heap.size ≤ gb469)); replace HB := Aside0.mk (below_step (beQ HB) hb); clear hb hbox hg) | ((with_reducible refine gate_callee (f := 28) rfl ?_); refine goesL_ (some 5) rfl rfl Tryd.func28 (by kernel_rfl) rfl #[.slice A0 l0.length c0] rfl lz ?_; (with_reducible refine (spec_l01From.calls k _ _ l0 t470 t471 t472 w _ ?side1 ?side2 ?side3 A2.out).mono ?_); (case side1 => exact zQ02dx0); (case side2 => exact HR0.out); (case side3 => exact HC0.out); rintro e w15 ⟨g473, rfl, hi, hb, hb2, hgw_⟩; refine ⟨_, rfl, ?_⟩; replace HB := Aside0.mk (hb); have HI473 := Aside0.mk (hi); have NB473_469 := Aside0.mk (IsS67.ne_blk hi (blk_below (blkQ BK469) hb2) (by decide)); have NB469_473 := Aside0.mk (Ne.symm (IsS67.ne_blk hi (blk_below (blkQ BK469) hb2) (by decide))); replace BK469 := Aside0.mk (blk_below (blkQ BK469) hb2); (try clear hb); (try clear hb2); (try clear hk); (try clear hi); (try clear hgw_)) | ((with_reducible refine gate_callee (f := 29) rfl ?_); refine goesL_ (some 7) rfl rfl Tryd.func29 (by kernel_rfl) rfl #[.pointer (some ⟨g473, 0, none⟩), .int .i64 12] rfl lz ?_; (with_reducible refine (spec_l01Next.calls g473 t470 t471 t472 12 t474 t475 t476 w _ ?side1 ?side2 A3.out).mono ?_); (case side1 => exact zQ02dx1); (case side2 => exact zQ02dx2); rintro e w16 ⟨rfl, hi, hb, hk⟩; refine ⟨_, rfl, ?_⟩; replace BK469 := Aside0.mk (KeepBut.blk hk (g' := gb469) (o := .cells #[.int .i64 0, .slice none 0 0] 28 (0, 0)) (blkQ BK469) NB469_473.out (by simp)); replace HB := Aside0.mk (hb); replace HI473 := Aside0.mk (hi); (try clear hb); (try clear hb2); (try clear hk); (try clear hi); (try clear hgw_)) | ((with_reducible refine gate_dst (N := 14) rfl ?_); refine Kd.R_lit (Kd.int .i64) _ 2 ?hg (N := 14) ?hd (xs := ([249, 250, 252, 207, 215, 231, 127, 191] : List Int)) (inner := [.int .i64 249, .int .i64 250, .int .i64 252, .int .i64 207, .int .i64 215, .int .i64 231, .int .i64 127, .int .i64 191]) (ok := fun _ => True) (okp := fun _ => True) ?hr ?hp (fun _ hk => hk) trivial (Below.refl _ _) (Nat.le_refl _) (by simp) ?_; (case hd => rfl); (case hg => rfl); (case hr => first | (go_simp; done) | (go_simp; rfl)); (case hp => exact (Reps.one (show Kd.M (Kd.int .i64) _ _ _ 249 [.int .i64 249] from rfl) (Reps.one (show Kd.M (Kd.int .i64) _ _ _ 250 [.int .i64 250] from rfl) (Reps.one (show Kd.M (Kd.int .i64) _ _ _ 252 [.int .i64 252] from rfl) (Reps.one (show Kd.M (Kd.int .i64) _ _ _ 207 [.int .i64 207] from rfl) (Reps.one (show Kd.M (Kd.int .i64) _ _ _ 215 [.int .i64 215] from rfl) (Reps.one (show Kd.M (Kd.int .i64) _ _ _ 231 [.int .i64 231] from rfl) (Reps.one (show Kd.M (Kd.int .i64) _ _ _ 127 [.int .i64 127] from rfl) (Reps.one (show Kd.M (Kd.int .i64) _ _ _ 191 [.int .i64 191] from rfl) (Reps.none _ _)))))))))); intro v481 w17 ho18 hb hg_ hnew_; clear hg_ hnew_; (first | rw [← Ny480.out] at ho18 | (simp only [Int.reduceToNat] at ho18; rw [← Ny480.out] at ho18)); have HO482 := Aside0.mk (Kd.R_lower ho18 (below_size (zQ02dx2))); replace BK469 := bb BK469 hb; replace HB := Aside0.mk (below_step (zQ02dx2) hb); replace HI473 := Aside0.mk (IsS67.below (zQ02dx1) hb); clear hb ho18; obtain ⟨Ao19, co19, eo19⟩ := Kd.R_slice HO482.out; subst eo19; have hnb20 := NB469_473.out; have hnc20 := NB473_469.out; have hcz21_0 : w17.cell? ⟨gb469, 0, none⟩ = some (.int .i64 0) := bc BK469 0; have hcz21_1 : w17.cell? ⟨gb469, 1, none⟩ = some (.slice none 0 0) := bc BK469 1; have hfz21_0 := blk_frozen BK469.out 0; have hfz21_1 := blk_frozen BK469.out 1))
   refine bodyPost_ret (results_cell_row rfl _ _ gb469 28 #[.int .i64 8, .slice Ao19 y480.length co19] (0, 0) _ rfl (by (with_reducible repeat (first | refine blk_drewN ?_ _ | refine blk_drew ?_ | refine blk_alloc ?_ _)); refine blk_put (cs := #[.int .i64 8, .slice none 0 0]) ?_ 1 _ rfl; (with_reducible repeat (first | refine blk_drewN ?_ _ | refine blk_drew ?_ | refine blk_alloc ?_ _)); refine blk_put (cs := #[.int .i64 0, .slice none 0 0]) ?_ 0 _ rfl; (with_reducible repeat (first | refine blk_drewN ?_ _ | refine blk_drew ?_ | refine blk_alloc ?_ _)); exact BK469.out) Tryd.underlying28 rfl (by kernel_rfl)) rfl ?_
   exact ⟨_, rz, by (with_reducible repeat (first | apply Kd.R_alloc | apply Kd.R_drewN | apply Kd.R_drew)); exact Kd.R_mono (Kd.R_far (p := ⟨gb469, 1, none⟩) (Kd.R_far (p := ⟨gb469, 0, none⟩) (Kd.R_types HO482.out BK469.out (by decide)) (fun _ hk => hk.2) (.int .i64 8)) (fun _ hk => hk.2) (.slice Ao19 y480.length co19)) (fun _ hk => trivial), zQ02dx2⟩
  ·rw [if_neg c13] at H
   have c13b0 : (t474 == 1) = false := beq_eq_false_iff_ne.mpr c13
   have c13b1 : (t474 != 1) = true := bne_iff_ne.mpr c13
   replace H := Option.bind_eq_some_iff.mp H
   obtain ⟨⟨t483, t484, t487, t488⟩, A220, H⟩ := H
   replace H : (some (t483, t484)) = some (r1, r2) := H
   have A22 := Aside0.mk A220; clear A220
   simp only [Option.some.injEq, Prod.mk.injEq] at H
   obtain ⟨rfl, rfl⟩ := H
   go_enter Tryd.func15, Tryd.ntmps15
   go_wp2_with (first | ((with_reducible refine gate_dst (N := 2) rfl ?_); refine box_event ?hg (N := 2) ?hd (cs := #[.int .i64 0, .slice none 0 0]) (t := 28) ?hr ?_; (case hd => rfl); (case hg => rfl); (case hr => first | (go_simp; done) | (go_simp; rfl)); intro gb469 hg w23 hbox hb; have BK469 := Aside0.mk (hbox); have GW469 := Aside0.mk ((by rw [hg]; exact (below_size (beQ HB)) : w.heap.size ≤ gb469)); have GE469 := Aside0.mk ((by rw [hg]; exact (below_size (beQ HB)) : w.heap.size ≤ gb469)); replace HB := Aside0.mk (below_step (beQ HB) hb); clear hb hbox hg) | ((with_reducible refine gate_callee (f := 28) rfl ?_); refine goesL_ (some 5) rfl rfl Tryd.func28 (by kernel_rfl) rfl #[.slice A0 l0.length c0] rfl lz ?_; (with_reducible refine (spec_l01From.calls k _ _ l0 t470 t471 t472 w _ ?side1 ?side2 ?side3 A2.out).mono ?_); (case side1 => exact zQ02dx0); (case side2 => exact HR0.out); (case side3 => exact HC0.out); rintro e w24 ⟨g473, rfl, hi, hb, hb2, hgw_⟩; refine ⟨_, rfl, ?_⟩; replace HB := Aside0.mk (hb); have HI473 := Aside0.mk (hi); have NB473_469 := Aside0.mk (IsS67.ne_blk hi (blk_below (blkQ BK469) hb2) (by decide)); have NB469_473 := Aside0.mk (Ne.symm (IsS67.ne_blk hi (blk_below (blkQ BK469) hb2) (by decide))); replace BK469 := Aside0.mk (blk_below (blkQ BK469) hb2); (try clear hb); (try clear hb2); (try clear hk); (try clear hi); (try clear hgw_)) | ((with_reducible refine gate_callee (f := 29) rfl ?_); refine goesL_ (some 7) rfl rfl Tryd.func29 (by kernel_rfl) rfl #[.pointer (some ⟨g473, 0, none⟩), .int .i64 12] rfl lz ?_; (with_reducible refine (spec_l01Next.calls g473 t470 t471 t472 12 t474 t475 t476 w _ ?side1 ?side2 A3.out).mono ?_); (case side1 => exact zQ02dx1); (case side2 => exact zQ02dx2); rintro e w25 ⟨rfl, hi, hb, hk⟩; refine ⟨_, rfl, ?_⟩; replace BK469 := Aside0.mk (KeepBut.blk hk (g' := gb469) (o := .cells #[.int .i64 0, .slice none 0 0] 28 (0, 0)) (blkQ BK469) NB469_473.out (by simp)); replace HB := Aside0.mk (hb); replace HI473 := Aside0.mk (hi); (try clear hb); (try clear hb2); (try clear hk); (try clear hi); (try clear hgw_)) | ((with_reducible refine gate_callee (f := 30) rfl ?_); refine goesL_ (some 17) rfl rfl Tryd.func30 (by kernel_rfl) rfl #[.pointer (some ⟨g473, 0, none⟩), .int .i64 8] rfl lz ?_; (with_reducible refine (spec_l02Spoil.calls k g473 t470 t475 t476 8 t483 t484 t487 t488 w _ ?side1 ?side2 A22.out).mono ?_); (case side1 => exact zQ02dx1); (case side2 => exact zQ02dx2); rintro e w26 ⟨v485, rfl, ho0, hi, hb, hk⟩; refine ⟨_, rfl, ?_⟩; replace BK469 := Aside0.mk (KeepBut.blk hk (g' := gb469) (o := .cells #[.int .i64 0, .slice none 0 0] 28 (0, 0)) (blkQ BK469) NB469_473.out (by simp)); have HO486 := Aside0.mk (Kd.R_lower ho0 (below_size (zQ02dx2))); replace HB := Aside0.mk (hb); replace HI473 := Aside0.mk (hi); (try clear hb); (try clear hb2); (try clear hk); (try clear hi); (try clear hgw_); (try clear ho0); have hnb27 := NB469_473.out; have hnc27 := NB473_469.out; have hcz28_0 : w26.cell? ⟨gb469, 0, none⟩ = some (.int .i64 0) := bc BK469 0; have hcz28_1 : w26.cell? ⟨gb469, 1, none⟩ = some (.slice none 0 0) := bc BK469 1; have hfz28_0 := blk_frozen BK469.out 0; have hfz28_1 := blk_frozen BK469.out 1; obtain ⟨Ao29, co29, eo29⟩ := Kd.R_slice HO486.out; subst eo29))
   refine bodyPost_ret (results_cell_row rfl _ _ gb469 28 #[.int .i64 t483, .slice Ao29 t484.length co29] (0, 0) _ rfl (by (with_reducible repeat (first | refine blk_drewN ?_ _ | refine blk_drew ?_ | refine blk_alloc ?_ _)); refine blk_put (cs := #[.int .i64 t483, .slice none 0 0]) ?_ 1 _ rfl; (with_reducible repeat (first | refine blk_drewN ?_ _ | refine blk_drew ?_ | refine blk_alloc ?_ _)); refine blk_put (cs := #[.int .i64 0, .slice none 0 0]) ?_ 0 _ rfl; (with_reducible repeat (first | refine blk_drewN ?_ _ | refine blk_drew ?_ | refine blk_alloc ?_ _)); exact BK469.out) Tryd.underlying28 rfl (by kernel_rfl)) rfl ?_
   exact ⟨_, rz, by (with_reducible repeat (first | apply Kd.R_alloc | apply Kd.R_drewN | apply Kd.R_drew)); exact Kd.R_mono (Kd.R_far (p := ⟨gb469, 1, none⟩) (Kd.R_far (p := ⟨gb469, 0, none⟩) (Kd.R_types HO486.out BK469.out (by decide)) (fun _ hk => hk.2) (.int .i64 t483)) (fun _ hk => hk.2) (.slice Ao29 t484.length co29)) (fun _ hk => trivial), zQ02dx2⟩
def laws_likeInts.l0 : Nat → List Int → List Int → Int → Option (Bool)
 | 0, _, _, _ => none
 | k + 1, x0, x1, x5 => if x5 < (x0.length : Int) then (if 0 ≤ x5 then (if x5 < (x1.length : Int) then (if (rd x0 x5) = (rd x1 x5) then (laws_likeInts.l0 k x0 x1 (wrap64 (x5 + 1))) else (some false)) else (none)) else (none)) else (some true)
def laws_likeInts.f (k : Nat) (l0 : List Int) (l1 : List Int) : Option (Bool) := if (l0.length : Int) = (l1.length : Int) then (laws_likeInts.l0 k l0 l1 0) else (some false)
set_option maxHeartbeats 8000000 in
set_option maxRecDepth 100000 in
theorem laws_likeInts.calls (k : Nat) (A0 : Option Addr) (c0 : Nat) (l0 : List Int) (A1 : Option Addr) (c1 : Nat) (l1 : List Int) (r : Bool) (w : World) (hr0 : Kd.C (Kd.int .i64) w A0 l0.length l0) (hc0 : l0.length ≤ c0) (hr1 : Kd.C (Kd.int .i64) w A1 l1.length l1) (hc1 : l1.length ≤ c1) (h : laws_likeInts.f k l0 l1 = some r) :
  Calls Tryd.prog 16 #[.slice A0 l0.length c0, .slice A1 l1.length c1] w fun e w' => e = .returned (.bool r) ∧ Drawn0 w w' := by
 have HR0 := Aside0.mk hr0; have HC0 := Aside0.mk hc0; clear hr0 hc0; have HR1 := Aside0.mk hr1; have HC1 := Aside0.mk hc1; clear hr1 hc1
 have H : (if (l0.length : Int) = (l1.length : Int) then (laws_likeInts.l0 k l0 l1 0) else (some false)) = some r := h
 clear h
 by_cases c3 : (l0.length : Int) = (l1.length : Int)
 ·rw [if_pos c3] at H
  have c3b0 : ((l0.length : Int) == (l1.length : Int)) = true := beq_iff_eq.mpr c3
  have c3b1 : ((l0.length : Int) != (l1.length : Int)) = false := bne_eq_false_iff_eq.mpr c3
  have c3b2 : (l0.length == l1.length) = true := by first | simpa using c3 | (simp at c3 ⊢; omega)
  clear c3
  have H' := Aside0.mk H
  clear H
  go_enter Tryd.func16, Tryd.ntmps16
  go_wp2
  repeat (go_quiet (fail); try go_wp2)
  go_loopg [5] k (fun kq v5 w' => ∃ (x5_1 : Int), v5 = .int .i64 x5_1 ∧ Aside0 (laws_likeInts.l0 kq l0 l1 x5_1 = some r) ∧ Aside0 (kq ≤ k) ∧ Drawn0 w w')
  case atStart => exact ⟨(0), sz, H', ⟨Nat.le_refl _⟩, zQ02dx3⟩
  case round =>
   clear H'
   try clear c1
   try clear p2
   try clear c3
   try clear c3b0
   try clear c3b1
   try clear c3b2
   obtain ⟨x5_1, rfl, HA, HK1, ⟨m1, rfl⟩⟩ := hrel
   cases gk with
   | zero => exact absurd HA.out (by simp [laws_likeInts.l0])
   | succ k1 =>
    have H := HA.out; clear HA
    simp only [laws_likeInts.l0] at H
    by_cases c4 : x5_1 < (l0.length : Int)
    ·rw [if_pos c4] at H
     have c4b0 : decide (x5_1 < (l0.length : Int)) = true := decide_eq_true c4
     clear c4
     by_cases c5 : 0 ≤ x5_1
     ·rw [if_pos c5] at H
      have c5b0 : decide (0 ≤ x5_1) = true := decide_eq_true c5
      clear c5
      by_cases c6 : x5_1 < (l1.length : Int)
      ·rw [if_pos c6] at H
       have c6b0 : decide (x5_1 < (l1.length : Int)) = true := decide_eq_true c6
       clear c6
       by_cases c7 : (rd l0 x5_1) = (rd l1 x5_1)
       ·rw [if_pos c7] at H
        have c7b0 : ((rd l0 x5_1) == (rd l1 x5_1)) = true := beq_iff_eq.mpr c7
        have c7b1 : ((rd l0 x5_1) != (rd l1 x5_1)) = false := bne_eq_false_iff_eq.mpr c7
        clear c7
        have H' := Aside0.mk H
        clear H
        have p489 : 0 ≤ (x5_1 : Int) := of_decide_eq_true (by first | (with_reducible assumption) | assumption)
        have q489 : x5_1 < (l0.length : Int) := of_decide_eq_true (by first | (with_reducible assumption) | assumption)
        obtain ⟨ad489, e489, hx489_0⟩ := Kd.at_int HR0.out x5_1 p489 q489; cases e489; replace p489 := eq_true p489; replace q489 := eq_true q489
        have p490 : 0 ≤ (x5_1 : Int) := of_decide_eq_true (by first | (with_reducible assumption) | assumption)
        have q490 : x5_1 < (l1.length : Int) := of_decide_eq_true (by first | (with_reducible assumption) | assumption)
        obtain ⟨ad490, e490, hx490_0⟩ := Kd.at_int HR1.out x5_1 p490 q490; cases e490; replace p490 := eq_true p490; replace q490 := eq_true q490
        go_wp2
        repeat (go_quiet (fail); try go_wp2)
        go_roundg k1
        case measure => have := HK1.out; omega
        case rel => exact ⟨(wrap64 (x5_1 + 1)), sz, H', ⟨by have := HK1.out; omega⟩, zQ02dx3⟩
       ·rw [if_neg c7] at H
        have c7b0 : ((rd l0 x5_1) == (rd l1 x5_1)) = false := beq_eq_false_iff_ne.mpr c7
        have c7b1 : ((rd l0 x5_1) != (rd l1 x5_1)) = true := bne_iff_ne.mpr c7
        obtain rfl := Option.some.inj H
        have p489 : 0 ≤ (x5_1 : Int) := of_decide_eq_true (by first | (with_reducible assumption) | assumption)
        have q489 : x5_1 < (l0.length : Int) := of_decide_eq_true (by first | (with_reducible assumption) | assumption)
        obtain ⟨ad489, e489, hx489_0⟩ := Kd.at_int HR0.out x5_1 p489 q489; cases e489; replace p489 := eq_true p489; replace q489 := eq_true q489
        have p490 : 0 ≤ (x5_1 : Int) := of_decide_eq_true (by first | (with_reducible assumption) | assumption)
        have q490 : x5_1 < (l1.length : Int) := of_decide_eq_true (by first | (with_reducible assumption) | assumption)
        obtain ⟨ad490, e490, hx490_0⟩ := Kd.at_int HR1.out x5_1 p490 q490; cases e490; replace p490 := eq_true p490; replace q490 := eq_true q490
        go_wp2
        repeat (go_quiet (fail); try go_wp2)
        go_ret
        exact ⟨by first | rfl | (simp; done) | (simp [*]; done), zQ02dx3⟩
      ·rw [if_neg c6] at H
       exact absurd H (by simp)
     ·rw [if_neg c5] at H
      exact absurd H (by simp)
    ·rw [if_neg c4] at H
     have c4b0 : decide (x5_1 < (l0.length : Int)) = false := decide_eq_false c4
     clear c4
     obtain rfl := Option.some.inj H
     go_wp2
     repeat (go_quiet (fail); try go_wp2)
     go_ret
     exact ⟨by first | rfl | (simp; done) | (simp [*]; done), zQ02dx3⟩
 ·rw [if_neg c3] at H
  have c3b0 : ((l0.length : Int) == (l1.length : Int)) = false := beq_eq_false_iff_ne.mpr c3
  have c3b1 : ((l0.length : Int) != (l1.length : Int)) = true := bne_iff_ne.mpr c3
  have c3b2 : (l0.length == l1.length) = false := by first | simpa using c3 | (simp at c3 ⊢; omega)
  obtain rfl := Option.some.inj H
  go_enter Tryd.func16, Tryd.ntmps16
  go_wp2
  repeat (go_quiet (fail); try go_wp2)
  go_ret
  exact ⟨by first | rfl | (simp; done) | (simp [*]; done), zQ02dx3⟩
def impl_checkProcesses.j0 : Nat → List Int → Bool → Option (Int)
 | 0, _, _ => none
 | k + 1, x1, x5 => if x5 = true then (some 2) else (if (x1.length : Int) > 16 then (some 3) else (some 0))
def impl_checkProcesses.f (k : Nat) (a0 : Int) (l1 : List Int) : Option (Int) := (impl_inRange.f a0 0 8).bind fun t491 => (if t491 = true then ((impl_one.f a0).bind fun t492 => ((impl_allIn.f l1 0 (wrap64 (t492 - 1))).bind fun t493 => (impl_checkProcesses.j0 k l1 (!t493)))) else (impl_checkProcesses.j0 k l1 true))
set_option maxHeartbeats 8000000 in
set_option maxRecDepth 100000 in
theorem impl_checkProcesses.calls (k : Nat) (a0 : Int) (A1 : Option Addr) (c1 : Nat) (l1 : List Int) (r : Int) (w : World) (hr1 : Kd.C (Kd.int .i64) w A1 l1.length l1) (hc1 : l1.length ≤ c1) (h : impl_checkProcesses.f k a0 l1 = some r) :
  Calls Tryd.prog 31 #[.int .i64 a0, .slice A1 l1.length c1] w fun e w' => e = .returned (.int .i64 r) ∧ Below w.heap.size w w' := by
 have HR1 := Aside0.mk hr1; have HC1 := Aside0.mk hc1; clear hr1 hc1; have HB := Aside0.mk (Below.refl w.heap.size w)
 have H : ((impl_inRange.f a0 0 8).bind fun t491 => (if t491 = true then ((impl_one.f a0).bind fun t492 => ((impl_allIn.f l1 0 (wrap64 (t492 - 1))).bind fun t493 => (impl_checkProcesses.j0 k l1 (!t493)))) else (impl_checkProcesses.j0 k l1 true))) = some r := h
 clear h; have HC3 := Aside0.mk H; clear H
 go_enter Tryd.func31, Tryd.ntmps31
 go_upto_region 1 with (fail)
 go_cut [5] (fun v5 wc => ∃ (kq : Nat) (x5_2 : Bool), v5 = .bool x5_2 ∧ Aside0 (impl_checkProcesses.j0 kq l1 x5_2 = some r) ∧ Aside0 (kq ≤ k) ∧ Aside0 (Below w.heap.size w wc))
 case first =>
  have H := HC3.out; clear HC3; replace H := Option.bind_eq_some_iff.mp H; obtain ⟨t491, A40, H⟩ := H
  replace H : (if t491 = true then ((impl_one.f a0).bind fun t492 => ((impl_allIn.f l1 0 (wrap64 (t492 - 1))).bind fun t493 => (impl_checkProcesses.j0 k l1 (!t493)))) else (impl_checkProcesses.j0 k l1 true)) = some r := H
  have A4 := Aside0.mk A40; clear A40
  by_cases c5 : t491 = true
  ·subst c5
   have H1 : ((impl_one.f a0).bind fun t492 => ((impl_allIn.f l1 0 (wrap64 (t492 - 1))).bind fun t493 => (impl_checkProcesses.j0 k l1 (!t493)))) = some r := by rw [if_pos rfl] at H; exact H
   clear H; have H := H1; clear H1; replace H := Option.bind_eq_some_iff.mp H; obtain ⟨t492, A60, H⟩ := H
   replace H : ((impl_allIn.f l1 0 (wrap64 (t492 - 1))).bind fun t493 => (impl_checkProcesses.j0 k l1 (!t493))) = some r := H
   have A6 := Aside0.mk A60; clear A60; replace H := Option.bind_eq_some_iff.mp H; obtain ⟨t493, A70, H⟩ := H
   replace H : (impl_checkProcesses.j0 k l1 (!t493)) = some r := H
   have A7 := Aside0.mk A70; clear A70
   have H' := Aside0.mk H
   clear H
   go_wp2_with (first | ((with_reducible refine gate_callee (f := 39) rfl ?_); refine goesL_ (some 7) rfl rfl Tryd.func39 (by kernel_rfl) rfl #[.int .i64 a0, .int .i64 0, .int .i64 8] rfl lz ?_; (with_reducible refine (impl_inRange.calls a0 0 8 true _ A4.out).mono ?_); rintro e w' ⟨rfl, ⟨nd, rfl⟩⟩; refine ⟨_, rfl, ?_⟩) | (go_at_call 51; (with_reducible refine (impl_one.calls a0 t492 _ A6.out).mono ?_); rintro e w' ⟨rfl, ⟨nd, rfl⟩⟩) | (go_at_call 50; (with_reducible refine (impl_allIn.calls _ _ l1 0 (wrap64 (t492 - 1)) t493 _ ?side1 ?side2 A7.out).mono ?_); (case side1 => have q_ := Aside0.mk (Kd.C_below HR1.out (beQ HB)); exact cQ q_); (case side2 => exact HC1.out); rintro e w8 ⟨rfl, hb⟩; replace HB := Aside0.mk (below_step (beQ HB) hb); (try clear hb); (try clear hb2); (try clear hk); (try clear hi); (try clear hgw_)))
   go_meet
   case rel => exact ⟨_, (!t493), sz, H', ⟨by first | omega | exact Nat.le_refl _⟩, ⟨beQ HB⟩⟩
  ·replace c5 := Bool.eq_false_iff.mpr c5
   subst c5
   have H1 : (impl_checkProcesses.j0 k l1 true) = some r := by rw [if_neg (show ¬ (false = true) by decide)] at H; exact H
   clear H; have H := H1; clear H1
   have H' := Aside0.mk H
   clear H
   go_wp2_with (first | ((with_reducible refine gate_callee (f := 39) rfl ?_); refine goesL_ (some 7) rfl rfl Tryd.func39 (by kernel_rfl) rfl #[.int .i64 a0, .int .i64 0, .int .i64 8] rfl lz ?_; (with_reducible refine (impl_inRange.calls a0 0 8 false _ A4.out).mono ?_); rintro e w' ⟨rfl, ⟨nd, rfl⟩⟩; refine ⟨_, rfl, ?_⟩))
   go_meet
   case rel => exact ⟨_, (true), sz, H', ⟨by first | omega | exact Nat.le_refl _⟩, ⟨beQ HB⟩⟩
 case rest =>
  clear HC3
  try clear c1
  try clear p2
  try clear c3
  try clear c5
  try clear p6
  obtain ⟨kq, x5_2, rfl, HA, HJ2, HB⟩ := hcut
  cases kq with
  | zero => exact absurd HA.out (by simp [impl_checkProcesses.j0])
  | succ kj2 =>
   have H := HA.out; clear HA
   simp only [impl_checkProcesses.j0] at H
   by_cases c9 : x5_2 = true
   ·subst c9
    have H1 : (some 2) = some r := by rw [if_pos rfl] at H; exact H
    clear H; have H := H1; clear H1
    obtain rfl := Option.some.inj H
    go_wp2
    go_ret
    exact ⟨rz, beQ HB⟩
   ·replace c9 := Bool.eq_false_iff.mpr c9
    subst c9
    have H1 : (if (l1.length : Int) > 16 then (some 3) else (some 0)) = some r := by rw [if_neg (show ¬ (false = true) by decide)] at H; exact H
    clear H; have H := H1; clear H1
    by_cases c10 : (l1.length : Int) > 16
    ·rw [if_pos c10] at H
     have c10b0 : decide (16 < (l1.length : Int)) = true := decide_eq_true c10
     have c10b1 : decide (16 < l1.length) = true := decide_eq_true (by omega)
     clear c10
     obtain rfl := Option.some.inj H
     go_wp2
     go_ret
     exact ⟨rz, beQ HB⟩
    ·rw [if_neg c10] at H
     have c10b0 : decide (16 < (l1.length : Int)) = false := decide_eq_false c10
     have c10b1 : decide (16 < l1.length) = false := decide_eq_false (by omega)
     clear c10
     obtain rfl := Option.some.inj H
     go_wp2
     go_ret
     exact ⟨rz, beQ HB⟩
def impl_loose.l0 : Nat → Int → Int → Int → List Int → Option (Int × List Int)
 | 0, _, _, _, _ => none
 | k + 1, x7, x8, x496000, x496001 => if x8 < x7 then ((impl_one.f x8).bind fun t496 => (if x496001.length < 17592186044416 then (impl_loose.l0 k x7 (wrap64 (x8 + 1)) x496000 (x496001 ++ [t496])) else (none))) else (some (x496000, x496001))
def impl_loose.f (k : Nat) (a0 : Int) : Option (Int × List Int) := impl_loose.l0 k a0 0 a0 ([] : List Int)
def impl_loose.T5 : Bool × List (List Nat × List Nat) := (true, [([], []), ([0], [0]), ([], []), ([2], [2]), ([3], [3]), ([1, 4, 3], [1, 4]), ([0, 1, 2, 3, 4, 5], []), ([6, 5, 5, 0, 1, 2, 3, 4, 5], [5, 6])])
def impl_loose.B5 : List Nat := [0, 1, 0, 4, 12, 31, 63, 127]
theorem impl_loose.tab5 : rtab .any (opsOf Tryd.f52 5) = impl_loose.T5 := by kernel_rfl
theorem impl_loose.bits5 : waitsOk impl_loose.T5.2 impl_loose.B5 = true := by kernel_rfl
set_option maxHeartbeats 8000000 in
set_option maxRecDepth 100000 in
theorem impl_loose.calls (k : Nat) (a0 : Int) (r1 : Int) (r2 : List Int) (w : World) (h : impl_loose.f k a0 = some (r1, r2)) :
  Calls Tryd.prog 52 #[.int .i64 a0] w fun e w' => ∃ v1_ : Value, e = .returned (.agg #[.int .i64 r1, v1_]) ∧ Kd.R (Kd.int .i64) 2 w' w.heap.size (fun _ => True) v1_ r2 ∧ Below w.heap.size w w' := by
 have hu28 := Tryd.underlying28; have HB := Aside0.mk (Below.refl w.heap.size w)
 have H : (impl_loose.l0 k a0 0 a0 ([] : List Int)) = some (r1, r2) := h
 clear h
 have H' := Aside0.mk H
 clear H
 go_enter Tryd.func52, Tryd.ntmps52
 go_wp2_with (first | ((with_reducible refine gate_dst (N := 2) rfl ?_); refine box_event ?hg (N := 2) ?hd (cs := #[.int .i64 0, .slice none 0 0]) (t := 28) ?hr ?_; (case hd => rfl); (case hg => rfl); (case hr => first | (go_simp; done) | (go_simp; rfl)); intro gb494 hg w2 hbox hb; have BK494 := Aside0.mk (hbox); have GW494 := Aside0.mk ((by rw [hg]; exact (below_size (beQ HB)) : w.heap.size ≤ gb494)); have GE494 := Aside0.mk ((by rw [hg]; exact (below_size (beQ HB)) : w.heap.size ≤ gb494)); replace HB := Aside0.mk (below_step (beQ HB) hb); clear hb hbox hg) | ((with_reducible refine gate_dst (N := 3) rfl ?_); refine box_event ?hg (N := 3) ?hd (cs := #[.int .i64 0, .slice none 0 0]) (t := 28) ?hr ?_; (case hd => rfl); (case hg => rfl); (case hr => first | (go_simp; done) | (go_simp; rfl)); intro gb495 hg w3 hbox hb; have BK495 := Aside0.mk (hbox); have GW495 := Aside0.mk ((by rw [hg]; exact (below_size (beQ HB)) : w.heap.size ≤ gb495)); have GE495 := Aside0.mk ((by rw [hg]; exact (below_size (beQ HB)) : w.heap.size ≤ gb495)); replace HB := Aside0.mk (below_step (beQ HB) hb); have NB494_495 := Aside0.mk ((by rw [hg]; exact Nat.ne_of_lt (blk_lt (blkQ BK494)) : gb494 ≠ gb495)); have NB495_494 := Aside0.mk ((by rw [hg]; exact Nat.ne_of_gt (blk_lt (blkQ BK494)) : gb495 ≠ gb494)); replace BK494 := bb BK494 hb; clear hb hbox hg; have hnb4 := NB495_494.out; have hnc4 := NB494_495.out; have hcz5_0 : w3.cell? ⟨gb495, 0, none⟩ = some (.int .i64 0) := bc BK495 0; have hcz5_1 : w3.cell? ⟨gb495, 1, none⟩ = some (.slice none 0 0) := bc BK495 1; have hfz5_0 := blk_frozen BK495.out 0; have hfz5_1 := blk_frozen BK495.out 1))
 go_loopg [8] k (fun kq v8 w' => ∃ (x8_1 : Int) (x496001_1 : List Int) (u496001 : Value), v8 = .int .i64 x8_1 ∧ Aside0 (impl_loose.l0 kq a0 x8_1 a0 x496001_1 = some (r1, r2)) ∧ Aside0 (kq ≤ k) ∧ Aside0 (Kd.R (Kd.int .i64) 2 w' w.heap.size (fun _ => True) u496001 x496001_1) ∧ Aside0 (w'.heap[gb494]? = some (.cells #[.int .i64 0, (.slice none 0 0)] 28 (0, 0))) ∧ Aside0 (w'.heap[gb495]? = some (.cells #[.int .i64 a0, u496001] 28 (0, 0))) ∧ Aside0 (Below w.heap.size w w'))
 case atStart => exact ⟨(0), (([] : List Int)), (.slice none 0 0), sz, H', ⟨Nat.le_refl _⟩, ⟨by first | exact Kd.R_nil _ _ _ _ _ | exact Kd.N_nil _ _ _ _ _ | exact Kd.V_nil _ _ _ _ _ | exact Kd.Q_nil _ _ _ _ _ | exact Kd.S_nil _ _ _ _ _⟩, ⟨blkF BK494⟩, ⟨by (with_reducible repeat (first | refine blk_drewN ?_ _ | refine blk_drew ?_ | refine blk_alloc ?_ _)); refine blk_put (cs := #[.int .i64 a0, .slice none 0 0]) ?_ 1 _ rfl; (with_reducible repeat (first | refine blk_drewN ?_ _ | refine blk_drew ?_ | refine blk_alloc ?_ _)); refine blk_put (cs := #[.int .i64 0, .slice none 0 0]) ?_ 0 _ rfl; (with_reducible repeat (first | refine blk_drewN ?_ _ | refine blk_drew ?_ | refine blk_alloc ?_ _)); exact BK495.out⟩, ⟨beQ HB⟩⟩
 case round =>
  clear H'
  try clear p2
  try clear c4
  try clear c5
  try clear hcz5_0
  try clear hcz5_1
  try clear hfz5_0
  try clear hfz5_1
  obtain ⟨x8_1, x496001_1, u496001, rfl, HA, HK1, HO_496001, BK494, BK495, HB⟩ := hrel
  cases gk with
  | zero => exact absurd HA.out (by simp [impl_loose.l0])
  | succ k1 =>
   have H := HA.out; clear HA
   simp only [impl_loose.l0] at H
   by_cases c6 : x8_1 < a0
   ·rw [if_pos c6] at H
    have c6b0 : decide (x8_1 < a0) = true := decide_eq_true c6
    clear c6; replace H := Option.bind_eq_some_iff.mp H; obtain ⟨t496, A70, H⟩ := H
    replace H : (if x496001_1.length < 17592186044416 then (impl_loose.l0 k1 a0 (wrap64 (x8_1 + 1)) a0 (x496001_1 ++ [t496])) else (none)) = some (r1, r2) := H
    have A7 := Aside0.mk A70; clear A70
    by_cases c8 : x496001_1.length < 17592186044416
    ·rw [if_pos c8] at H
     have LMc8 := Aside0.mk c8; clear c8
     obtain ⟨y497, hy497⟩ : ∃ y_ : List Int, y_ = (x496001_1 ++ [t496]) := ⟨_, rfl⟩
     replace H : (impl_loose.l0 k1 a0 (wrap64 (x8_1 + 1)) a0 y497) = some (r1, r2) := by first | (rw [hy497]; with_reducible exact H) | (have H2_ := (Option.bind_some _ _).symm.trans H; rw [hy497]; with_reducible exact H2_) | (have H2_ := (Option.bind_some _ _).symm.trans H; with_reducible exact H2_) | with_reducible exact H | (rw [hy497]; exact H) | exact H
     have Ny497 := Aside0.mk hy497; clear hy497
     have H' := Aside0.mk H
     clear H
     try go_wp2
     replace HO_496001 := Aside0.mk (Kd.R_drew HO_496001.out); replace BK494 := Aside0.mk (blk_drew BK494.out); replace BK495 := Aside0.mk (blk_drew BK495.out); replace HB := Aside0.mk (below_drew1 HB.out)
     refine start_ (n := 8) (S := fun w' => w'.cell? ⟨gb495, 0, none⟩ = some (.int .i64 a0) ∧ w'.cell? ⟨gb495, 1, none⟩ = some (u496001)) (ds := [7]) #[false, false, false, false, false, false, false, false] (by kernel_rfl) rfl rfl ⟨bc BK495 0, bc BK495 1⟩ (fun hHeld => ?_); refine with_tabW impl_loose.tab5 impl_loose.bits5 (fun HT_ HW_ => ?_)
     generalize wr.drew = w9 at HO_496001 BK494 BK495 HB hHeld ⊢
     refine pure_ (i := 0) (N := some 11) (v := ?_) (a' := ?_) #[true, false, false, false, false, false, false, false] rfl rfl (any_of HT_.out (by kernel_rfl)) (fun _ _ _ h => h) (Or.inl ⟨by rfl, ?_⟩) ?_ ?_
     rotate_left
     ·intro w'
      go_simp
      with_reducible rfl
     rotate_left
     ·simp only [Act.put, s1, s2, s3, i64_w, i32_w]
      rfl
     refine pure_ (i := 2) (N := some 13) (v := ?_) (a' := ?_) #[true, false, true, false, false, false, false, false] rfl rfl (any_of HT_.out (by kernel_rfl)) (fun _ _ _ h => h) (Or.inl ⟨by rfl, ?_⟩) ?_ ?_
     rotate_left
     ·intro w'
      go_simp
      with_reducible rfl
     rotate_left
     ·simp only [Act.put, s1, s2, s3, i64_w, i32_w]
      rfl
     refine take_ (i := 1) (N := some 12) (v := ?_) (a' := ?_) #[true, true, true, false, false, false, false, false] rfl rfl (take_ofW HT_.out HW_.out (by kernel_rfl)) (fun _ _ _ h => h) (Or.inl ⟨by rfl, ?_⟩) hHeld ?_ ?_
     rotate_left
     ·rintro w' ⟨s0, s1⟩
      go_simp
      with_reducible rfl
     rotate_left
     ·simp only [Act.put, s1, s2, s3, i64_w, i32_w]
      rfl
     refine one_ (i := 3) (N := some 14) #[true, true, true, true, false, false, false, false] rfl rfl (one_of HT_.out (by kernel_rfl)) (by decide) (fun K hK => ?_)
     refine goes_ Tryd.func51 (by kernel_rfl) rfl #[.int .i64 x8_1] (by rfl) rfl rfl lz ?_
     with_reducible refine (impl_one.calls x8_1 t496 _ A7.out).mono ?_
     rintro e w' ⟨rfl, ⟨nd, rfl⟩⟩
     refine ⟨_, rfl, ?_⟩
     refine hK.out _ _ ⟨bc BK495 0, bc BK495 1⟩ (fun hHeld => ?_)
     clear hK K
     refine norm_ (a' := ?_) ?_ ?_
     rotate_left
     ·show Act.put _ (some 14) _ = _
      simp only [Act.put, s1, s2, s3, i64_w, i32_w]
      rfl
     refine one_ (i := 4) (N := some 15) #[true, true, true, true, true, false, false, false] rfl rfl (one_of HT_.out (by kernel_rfl)) (by decide) (fun K hK => ?_)
     refine value_ (w1 := ?_) (v := ?_) (by rfl) rfl ?_ ?_
     rotate_left 2
     ·go_simp
      constructor
      ·rfl
      ·rfl
     refine hK.out _ _ ⟨(blk_cell (blk_alloc BK495.out _) 0).trans rfl, (blk_cell (blk_alloc BK495.out _) 1).trans rfl⟩ (fun hHeld => ?_)
     clear hK K
     refine norm_ (a' := ?_) ?_ ?_
     rotate_left
     ·show Act.put _ (some 15) _ = _
      simp only [Act.put, s1, s2, s3, i64_w, i32_w]
      rfl
     refine one_ (i := 5) (N := some 16) #[true, true, true, true, true, true, false, false] rfl rfl (one_of HT_.out (by kernel_rfl)) (by decide) (fun K hK => ?_)
     refine Kd.R_append_step (Kd.int .i64) (w0 := w) w.heap.size (by rfl) (.tmp 12) (.tmp 15) 22 2 (.int .i64 0) 8 rfl Tryd.underlying22 info2 rfl (by decide) (by omega) u496001 x496001_1 t496 [.int .i64 t496] (fun _ => True) (fun _ => False) rfl rfl ?aP (fun _ hk => hk.elim) ?aF ?aO ?aB ?aS ?aL ?_
     (case aP => exact rfl)
     (case aB => exact (beQ HB))
     (case aF => exact (fun _ _ => trivial))
     (case aO => exact (kdQ HO_496001))
     (case aS => exact (below_size (beQ HB)))
     (case aL => have := LMc8.out; omega)
     intro v498 w10 ho hb hg hat
     rw [← Ny497.out] at ho
     have n0_ := Aside0.mk (blk_grown (g := gb494) (o := .cells #[.int .i64 0, .slice none 0 0] 28 (0, 0)) (blkQ BK494) hg (Kd.R_ne HO_496001.out BK494.out (by decide)))
     have n1_ := Aside0.mk (blk_grown (g := gb495) (o := .cells #[.int .i64 a0, u496001] 28 (0, 0)) (blkQ BK495) hg (Kd.R_ne HO_496001.out BK495.out (by decide)))
     have n2_ := Aside0.mk (hb); have n3_ := Aside0.mk (ho); clear BK494; clear BK495; clear HB; clear HO_496001; have BK494 := n0_; have BK495 := n1_; have HB := n2_; have HO499 := n3_; clear n0_ n1_ n2_ n3_; clear ho hb hg hat; obtain ⟨Ao11, co11, eo11⟩ := Kd.R_slice HO499.out
     (first | subst eo11 | (injection eo11 with f1_ f2_ f3_; have f4_ := f1_.symm; have f5_ := f3_.symm; clear f1_ f2_ f3_; subst f4_; subst f5_))
     refine hK.out _ _ ⟨bc BK495 0, bc BK495 1⟩ (fun hHeld => ?_)
     clear hK K
     refine norm_ (a' := ?_) ?_ ?_
     rotate_left
     ·show Act.put _ (some 16) _ = _
      simp only [Act.put, s1, s2, s3, i64_w, i32_w]
      rfl
     refine pure_ (i := 6) (N := some 17) (v := ?_) (a' := ?_) #[true, true, true, true, true, true, true, false] rfl rfl (any_of HT_.out (by kernel_rfl)) (fun _ _ _ h => h) (Or.inl ⟨by rfl, ?_⟩) ?_ ?_
     rotate_left
     ·intro w'
      go_simp
      with_reducible rfl
     rotate_left
     ·simp only [Act.put, s1, s2, s3, i64_w, i32_w]
      rfl
     refine last_ (i := 7) (N := none) #[true, true, true, true, true, true, true, true] rfl rfl (one_of HT_.out (by kernel_rfl)) (by decide) (fun K hK => ?_)
     have hs12 : w10.cell? ⟨gb495, 1, none⟩ = some (u496001) := bc BK495 1
     have hfs12 := blk_frozen BK495.out 1; have hns12_0 := NB494_495.out; have hms12_0 := NB495_494.out
     refine skip_ (w1 := ?_) (by rfl) rfl ?_ ?_
     rotate_left
     ·go_simp
      rfl
     refine hK.out _ _ ?_
     clear hK K
     refine done_ (done_of HT_.out (by kernel_rfl)) ?_
     try go_wp2
     go_roundg k1
     case measure => have := HK1.out; omega
     case rel => exact ⟨(wrap64 (x8_1 + 1)), (y497), (.slice Ao11 y497.length co11), sz, H', ⟨by have := HK1.out; omega⟩, ⟨by (with_reducible repeat (first | apply Kd.R_alloc | apply Kd.R_drewN | apply Kd.R_drew)); exact Kd.R_mono (Kd.R_far (p := ⟨gb495, 1, none⟩) (Kd.R_types HO499.out BK495.out (by decide)) (fun _ hk => hk.2) (.slice Ao11 y497.length co11)) (fun _ hk => trivial)⟩, ⟨blkF BK494⟩, ⟨by (with_reducible repeat (first | refine blk_drewN ?_ _ | refine blk_drew ?_ | refine blk_alloc ?_ _)); refine blk_put (cs := #[.int .i64 a0, u496001]) ?_ 1 _ rfl; (with_reducible repeat (first | refine blk_drewN ?_ _ | refine blk_drew ?_ | refine blk_alloc ?_ _)); exact BK495.out⟩, ⟨beQ HB⟩⟩
    ·rw [if_neg c8] at H
     exact absurd H (by simp)
   ·rw [if_neg c6] at H
    have c6b0 : decide (x8_1 < a0) = false := decide_eq_false c6
    clear c6
    simp only [Option.some.injEq, Prod.mk.injEq] at H
    obtain ⟨rfl, rfl⟩ := H; have hnb13 := NB495_494.out; have hnc13 := NB494_495.out
    have hcz14_0 : wr.cell? ⟨gb495, 0, none⟩ = some (.int .i64 a0) := bc BK495 0
    have hcz14_1 : wr.cell? ⟨gb495, 1, none⟩ = some (u496001) := bc BK495 1
    have hfz14_0 := blk_frozen BK495.out 0; have hfz14_1 := blk_frozen BK495.out 1
    have hcz15_0 : wr.cell? ⟨gb494, 0, none⟩ = some (.int .i64 0) := bc BK494 0
    have hcz15_1 : wr.cell? ⟨gb494, 1, none⟩ = some (.slice none 0 0) := bc BK494 1
    have hfz15_0 := blk_frozen BK494.out 0; have hfz15_1 := blk_frozen BK494.out 1; obtain ⟨Ao16, co16, eo16⟩ := Kd.R_slice HO_496001.out; subst eo16
    go_wp2
    refine bodyPost_ret (results_cell_row rfl _ _ gb494 28 #[.int .i64 a0, .slice Ao16 x496001_1.length co16] (0, 0) _ rfl (by (with_reducible repeat (first | refine blk_drewN ?_ _ | refine blk_drew ?_ | refine blk_alloc ?_ _)); refine blk_put (cs := #[.int .i64 a0, .slice none 0 0]) ?_ 1 _ rfl; (with_reducible repeat (first | refine blk_drewN ?_ _ | refine blk_drew ?_ | refine blk_alloc ?_ _)); refine blk_put (cs := #[.int .i64 0, .slice none 0 0]) ?_ 0 _ rfl; (with_reducible repeat (first | refine blk_drewN ?_ _ | refine blk_drew ?_ | refine blk_alloc ?_ _)); exact BK494.out) Tryd.underlying28 rfl (by kernel_rfl)) rfl ?_
    exact ⟨_, rz, by (with_reducible repeat (first | apply Kd.R_alloc | apply Kd.R_drewN | apply Kd.R_drew)); exact Kd.R_mono (Kd.R_far (p := ⟨gb494, 1, none⟩) (Kd.R_far (p := ⟨gb494, 0, none⟩) (Kd.R_types HO_496001.out BK494.out (by decide)) (fun _ hk => hk.2) (.int .i64 a0)) (fun _ hk => hk.2) (.slice Ao16 x496001_1.length co16)) (fun _ hk => trivial), beQ HB⟩
end Go.Proofs.YtdcggbkbcackaaaDoor.G
