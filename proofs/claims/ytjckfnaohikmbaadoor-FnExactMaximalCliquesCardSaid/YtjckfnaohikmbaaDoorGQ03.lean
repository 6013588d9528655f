/- How the program's functions compute, function by function: each is told by a plain Lean function of the same answers, under the condition that this one answers. Written by a program of this project over the seat's translation; Lean checks it. -/
import Derived.Test.YtjckfnaohikmbaaDoorG0
import Derived.Test.YtjckfnaohikmbaaDoorGQ00a
import Derived.Test.YtjckfnaohikmbaaDoorGQ01a
namespace Go.Proofs.YtjckfnaohikmbaaDoor.G
open Go.RowKit Go.Proofs.YtjckfnaohikmbaaDoorW.PrintWords Go.Proofs.YtjckfnaohikmbaaDoorW.PrintLast Go.Proofs.YtjckfnaohikmbaaDoorW.PrintMore
attribute [local go_sem] max2_int min2_int max_two min_two max_three min_three max_four min_four   -- for this text's walks alone
set_option linter.unusedVariables false
set_option linter.unusedSimpArgs false

/-! ### spec_MaximalCliques: function 14 -/
mutual
def spec_MaximalCliques.l0 : Nat → List Int → List Int → List Int → List Int → Int → Option (List Int × Int)
 | 0, _, _, _, _, _ => none
 | k + 1, x0, x4, x6, x7, x8 => if x8 < (x4.length : Int) then (spec_MaximalCliques.l1 k x0 x4 x6 x7 x8 true 0) else (some (x7, 0))
def spec_MaximalCliques.l1 : Nat → List Int → List Int → List Int → List Int → Int → Bool → Int → Option (List Int × Int)
 | 0, _, _, _, _, _, _, _ => none
 | k + 1, x0, x4, x6, x7, x8, x9, x10 => if x10 < (x0.length : Int) then (if 0 ≤ x10 then (if x10 < (x6.length : Int) then (if 0 ≤ x8 then (if x8 < (x4.length : Int) then ((spec_l01Bit.f (rd x4 x8) x10).bind fun t344 => (if t344 = true then (spec_MaximalCliques.l1 k x0 x4 x6 x7 x8 x9 (wrap64 (x10 + 1))) else (if (Go.bits .or .i64 (rd x4 x8) (Go.bits .and .i64 (rd x0 x10) (rd x6 x10))) = (Go.bits .and .i64 (rd x0 x10) (rd x6 x10)) then (spec_MaximalCliques.l1 k x0 x4 x6 x7 x8 false (wrap64 (x10 + 1))) else (spec_MaximalCliques.l1 k x0 x4 x6 x7 x8 x9 (wrap64 (x10 + 1)))))) else (none)) else (none)) else (none)) else (none)) else (if x9 = true then (if 0 ≤ x8 then (if x8 < (x4.length : Int) then (if x7.length < 17592186044416 then (spec_MaximalCliques.l0 k x0 x4 x6 (x7 ++ [rd x4 x8]) (wrap64 (x8 + 1))) else (none)) else (none)) else (none)) else (spec_MaximalCliques.l0 k x0 x4 x6 x7 (wrap64 (x8 + 1))))
end
def spec_MaximalCliques.f (k : Nat) (l0 : List Int) : Option (List Int × Int) := (spec_CliquesOf.f k l0).bind fun bt331 => (if bt331.2 = 0 then ((spec_l01Converse.f k l0).bind fun t335 => (spec_MaximalCliques.l0 k l0 bt331.1 t335 (([] : List Int)) 0)) else (some (([] : List Int), bt331.2)))
theorem spec_MaximalCliques.mono_l : ∀ k, (∀ y0 y1 y2 y3 y4, LeO (spec_MaximalCliques.l0 k y0 y1 y2 y3 y4) (spec_MaximalCliques.l0 (k + 1) y0 y1 y2 y3 y4)) ∧ (∀ y0 y1 y2 y3 y4 y5 y6, LeO (spec_MaximalCliques.l1 k y0 y1 y2 y3 y4 y5 y6) (spec_MaximalCliques.l1 (k + 1) y0 y1 y2 y3 y4 y5 y6))
 | 0 => ⟨fun _ _ _ _ _ r h => by simp [spec_MaximalCliques.l0] at h, fun _ _ _ _ _ _ _ r h => by simp [spec_MaximalCliques.l1] at h⟩
 | k + 1 => by
  obtain ⟨ih0, ih1⟩ := spec_MaximalCliques.mono_l k
  refine ⟨?_, ?_⟩
  ·intro y0 y1 y2 y3 y4
   unfold spec_MaximalCliques.l0
   repeat' first
   | (with_reducible exact ih0 _ _ _ _ _)
   | (with_reducible exact ih1 _ _ _ _ _ _ _)
   | (with_reducible exact spec_CliquesOf.mono _ _)
   | (with_reducible exact spec_l01Converse.mono _ _)
   | (with_reducible exact LeO.refl _)
   | (with_reducible exact LeO.none _)
   | (with_reducible refine LeO.ite ?_ ?_)
   | (with_reducible refine LeO.bind ?_ (fun _ => ?_))
   | exact ih0 _ _ _ _ _
   | exact ih1 _ _ _ _ _ _ _
   | exact spec_CliquesOf.mono _ _
   | exact spec_l01Converse.mono _ _
   | exact LeO.none _
   | refine LeO.ite ?_ ?_
   | refine LeO.bind ?_ (fun _ => ?_)
  ·intro y0 y1 y2 y3 y4 y5 y6
   unfold spec_MaximalCliques.l1
   repeat' first
   | (with_reducible exact ih0 _ _ _ _ _)
   | (with_reducible exact ih1 _ _ _ _ _ _ _)
   | (with_reducible exact spec_CliquesOf.mono _ _)
   | (with_reducible exact spec_l01Converse.mono _ _)
   | (with_reducible exact LeO.refl _)
   | (with_reducible exact LeO.none _)
   | (with_reducible refine LeO.ite ?_ ?_)
   | (with_reducible refine LeO.bind ?_ (fun _ => ?_))
   | exact ih0 _ _ _ _ _
   | exact ih1 _ _ _ _ _ _ _
   | exact spec_CliquesOf.mono _ _
   | exact spec_l01Converse.mono _ _
   | exact LeO.none _
   | refine LeO.ite ?_ ?_
   | refine LeO.bind ?_ (fun _ => ?_)
theorem spec_MaximalCliques.mono : ∀ a0 k, LeO (spec_MaximalCliques.f k a0) (spec_MaximalCliques.f (k + 1) a0) := by
 intro a0 k
 obtain ⟨ih0, ih1⟩ := spec_MaximalCliques.mono_l k
 unfold spec_MaximalCliques.f
 repeat' first
   | (with_reducible exact ih0 _ _ _ _ _)
   | (with_reducible exact ih1 _ _ _ _ _ _ _)
   | (with_reducible exact spec_CliquesOf.mono _ _)
   | (with_reducible exact spec_l01Converse.mono _ _)
   | (with_reducible exact LeO.refl _)
   | (with_reducible exact LeO.none _)
   | (with_reducible refine LeO.ite ?_ ?_)
   | (with_reducible refine LeO.bind ?_ (fun _ => ?_))
   | exact ih0 _ _ _ _ _
   | exact ih1 _ _ _ _ _ _ _
   | exact spec_CliquesOf.mono _ _
   | exact spec_l01Converse.mono _ _
   | exact LeO.none _
   | refine LeO.ite ?_ ?_
   | refine LeO.bind ?_ (fun _ => ?_)
set_option maxHeartbeats 8000000 in
set_option maxRecDepth 100000 in
theorem spec_MaximalCliques.calls (k : Nat) (A0 : Option Addr) (c0 : Nat) (l0 : List Int) (r1 : List Int) (r2 : Int) (w : World) (hr0 : Kd.C (Kd.int .i64) w A0 l0.length l0) (hc0 : l0.length ≤ c0) (h : spec_MaximalCliques.f k l0 = some (r1, r2)) :
  Calls Tryd.prog 14 #[.slice A0 l0.length c0] w fun e w' => ∃ v0_ : Value, e = .returned (.tuple #[v0_, .int .i64 r2]) ∧ Kd.R (Kd.int .i64) 2 w' w.heap.size (fun _ => True) v0_ r1 ∧ Below w.heap.size w w' := by
 have HR0 := Aside0.mk hr0; have HC0 := Aside0.mk hc0; clear hr0 hc0; have HB := Aside0.mk (Below.refl w.heap.size w)
 have H : ((spec_CliquesOf.f k l0).bind fun bt331 => (if bt331.2 = 0 then ((spec_l01Converse.f k l0).bind fun t335 => (spec_MaximalCliques.l0 k l0 bt331.1 t335 (([] : List Int)) 0)) else (some (([] : List Int), bt331.2)))) = some (r1, r2) := h
 clear h; replace H := Option.bind_eq_some_iff.mp H
 obtain ⟨⟨t331, t332⟩, A20, H⟩ := H
 replace H : (if t332 = 0 then ((spec_l01Converse.f k l0).bind fun t335 => (spec_MaximalCliques.l0 k l0 t331 t335 (([] : List Int)) 0)) else (some (([] : List Int), t332))) = some (r1, r2) := H
 have A2 := Aside0.mk A20; clear A20
 by_cases c3 : t332 = 0
 ·rw [if_pos c3] at H
  have c3b0 : (t332 == 0) = true := beq_iff_eq.mpr c3
  have c3b1 : (t332 != 0) = false := bne_eq_false_iff_eq.mpr c3
  clear c3; replace H := Option.bind_eq_some_iff.mp H; obtain ⟨t335, A40, H⟩ := H
  replace H : (spec_MaximalCliques.l0 k l0 t331 t335 (([] : List Int)) 0) = some (r1, r2) := H
  have A4 := Aside0.mk A40; clear A40
  obtain ⟨y338, hy338⟩ : ∃ y_ : List Int, y_ = (([] : List Int)) := ⟨_, rfl⟩
  replace H : (spec_MaximalCliques.l0 k l0 t331 t335 y338 0) = some (r1, r2) := by first | (rw [hy338]; with_reducible exact H) | (have H2_ := (Option.bind_some _ _).symm.trans H; rw [hy338]; with_reducible exact H2_) | (have H2_ := (Option.bind_some _ _).symm.trans H; with_reducible exact H2_) | with_reducible exact H | (rw [hy338]; exact H) | exact H
  have Ny338 := Aside0.mk hy338; clear hy338
  have H' := Aside0.mk H
  clear H
  go_enter Tryd.func14, Tryd.ntmps14
  go_wp2_with (first | (go_at_call 8; (with_reducible refine (spec_CliquesOf.calls k _ _ l0 t331 t332 _ ?side1 ?side2 A2.out).mono ?_); (case side1 => have q_ := Aside0.mk HR0.out; exact cQ q_); (case side2 => exact HC0.out); rintro e w5 ⟨v333, rfl, ho0, hb⟩; have HO334 := Aside0.mk (Kd.R_lower ho0 (below_size (beQ HB))); replace HB := Aside0.mk (below_step (beQ HB) hb); (try clear hb); (try clear hb2); (try clear hk); (try clear hi); (try clear hgw_); (try clear ho0)) | (go_at_call 36; (with_reducible refine (spec_l01Converse.calls k _ _ l0 t335 _ ?side1 ?side2 A4.out).mono ?_); (case side1 => have q_ := Aside0.mk (Kd.C_below HR0.out HB.out); exact cQ q_); (case side2 => exact HC0.out); rintro e w6 ⟨v336, rfl, ho0, hb⟩; have HO337 := Aside0.mk (Kd.R_lower (Kd.R_new' ho0 (Kd.R_lt (kdQ HO334))) (below_size (beQ HB))); replace HO334 := Aside0.mk (Kd.R_elder' (kdQ HO334) (Kd.R_base ho0) hb); replace HB := Aside0.mk (below_step (beQ HB) hb); (try clear hb); (try clear hb2); (try clear hk); (try clear hi); (try clear hgw_); (try clear ho0)) | ((with_reducible refine gate_dst (N := 22) rfl ?_); refine Kd.R_lit (Kd.int .i64) _ 2 ?hg (N := 22) ?hd (xs := ([] : List Int)) (inner := []) (ok := fun _ => True) (okp := fun _ => True) ?hr ?hp (fun _ hk => hk) trivial (Below.refl _ _) (Nat.le_refl _) (by simp) ?_; (case hd => rfl); (case hg => rfl); (case hr => first | (go_simp; done) | (go_simp; rfl)); (case hp => exact (Reps.none _ _)); intro v339 w7 ho8 hb hg_ hnew_; clear hg_ hnew_; (first | rw [← Ny338.out] at ho8 | (simp only [Int.reduceToNat] at ho8; rw [← Ny338.out] at ho8)); have HO340 := Aside0.mk (Kd.R_lower (Kd.R_new' (Kd.R_new' ho8 (Kd.R_lt (kdQ HO334))) (Kd.R_lt (kdQ HO337))) (below_size (beQ HB))); replace HO334 := Aside0.mk (Kd.R_elder' (kdQ HO334) (Kd.R_base ho8) hb); replace HO337 := Aside0.mk (Kd.R_elder' (kdQ HO337) (Kd.R_base ho8) hb); replace HB := Aside0.mk (below_step (beQ HB) hb); clear hb ho8))
  repeat (go_quiet (first | (go_at_call 8; (with_reducible refine (spec_CliquesOf.calls k _ _ l0 t331 t332 _ ?side1 ?side2 A2.out).mono ?_); (case side1 => have q_ := Aside0.mk HR0.out; exact cQ q_); (case side2 => exact HC0.out); rintro e w5 ⟨v333, rfl, ho0, hb⟩; have HO334 := Aside0.mk (Kd.R_lower ho0 (below_size (beQ HB))); replace HB := Aside0.mk (below_step (beQ HB) hb); (try clear hb); (try clear hb2); (try clear hk); (try clear hi); (try clear hgw_); (try clear ho0)) | (go_at_call 36; (with_reducible refine (spec_l01Converse.calls k _ _ l0 t335 _ ?side1 ?side2 A4.out).mono ?_); (case side1 => have q_ := Aside0.mk (Kd.C_below HR0.out HB.out); exact cQ q_); (case side2 => exact HC0.out); rintro e w6 ⟨v336, rfl, ho0, hb⟩; have HO337 := Aside0.mk (Kd.R_lower (Kd.R_new' ho0 (Kd.R_lt (kdQ HO334))) (below_size (beQ HB))); replace HO334 := Aside0.mk (Kd.R_elder' (kdQ HO334) (Kd.R_base ho0) hb); replace HB := Aside0.mk (below_step (beQ HB) hb); (try clear hb); (try clear hb2); (try clear hk); (try clear hi); (try clear hgw_); (try clear ho0)) | ((with_reducible refine gate_dst (N := 22) rfl ?_); refine Kd.R_lit (Kd.int .i64) _ 2 ?hg (N := 22) ?hd (xs := ([] : List Int)) (inner := []) (ok := fun _ => True) (okp := fun _ => True) ?hr ?hp (fun _ hk => hk) trivial (Below.refl _ _) (Nat.le_refl _) (by simp) ?_; (case hd => rfl); (case hg => rfl); (case hr => first | (go_simp; done) | (go_simp; rfl)); (case hp => exact (Reps.none _ _)); intro v339 w7 ho8 hb hg_ hnew_; clear hg_ hnew_; (first | rw [← Ny338.out] at ho8 | (simp only [Int.reduceToNat] at ho8; rw [← Ny338.out] at ho8)); have HO340 := Aside0.mk (Kd.R_lower (Kd.R_new' (Kd.R_new' ho8 (Kd.R_lt (kdQ HO334))) (Kd.R_lt (kdQ HO337))) (below_size (beQ HB))); replace HO334 := Aside0.mk (Kd.R_elder' (kdQ HO334) (Kd.R_base ho8) hb); replace HO337 := Aside0.mk (Kd.R_elder' (kdQ HO337) (Kd.R_base ho8) hb); replace HB := Aside0.mk (below_step (beQ HB) hb); clear hb ho8)); try go_wp2_with (first | (go_at_call 8; (with_reducible refine (spec_CliquesOf.calls k _ _ l0 t331 t332 _ ?side1 ?side2 A2.out).mono ?_); (case side1 => have q_ := Aside0.mk HR0.out; exact cQ q_); (case side2 => exact HC0.out); rintro e w5 ⟨v333, rfl, ho0, hb⟩; have HO334 := Aside0.mk (Kd.R_lower ho0 (below_size (beQ HB))); replace HB := Aside0.mk (below_step (beQ HB) hb); (try clear hb); (try clear hb2); (try clear hk); (try clear hi); (try clear hgw_); (try clear ho0)) | (go_at_call 36; (with_reducible refine (spec_l01Converse.calls k _ _ l0 t335 _ ?side1 ?side2 A4.out).mono ?_); (case side1 => have q_ := Aside0.mk (Kd.C_below HR0.out HB.out); exact cQ q_); (case side2 => exact HC0.out); rintro e w6 ⟨v336, rfl, ho0, hb⟩; have HO337 := Aside0.mk (Kd.R_lower (Kd.R_new' ho0 (Kd.R_lt (kdQ HO334))) (below_size (beQ HB))); replace HO334 := Aside0.mk (Kd.R_elder' (kdQ HO334) (Kd.R_base ho0) hb); replace HB := Aside0.mk (below_step (beQ HB) hb); (try clear hb); (try clear hb2); (try clear hk); (try clear hi); (try clear hgw_); (try clear ho0)) | ((with_reducible refine gate_dst (N := 22) rfl ?_); refine Kd.R_lit (Kd.int .i64) _ 2 ?hg (N := 22) ?hd (xs := ([] : List Int)) (inner := []) (ok := fun _ => True) (okp := fun _ => True) ?hr ?hp (fun _ hk => hk) trivial (Below.refl _ _) (Nat.le_refl _) (by simp) ?_; (case hd => rfl); (case hg => rfl); (case hr => first | (go_simp; done) | (go_simp; rfl)); (case hp => exact (Reps.none _ _)); intro v339 w7 ho8 hb hg_ hnew_; clear hg_ hnew_; (first | rw [← Ny338.out] at ho8 | (simp only [Int.reduceToNat] at ho8; rw [← Ny338.out] at ho8)); have HO340 := Aside0.mk (Kd.R_lower (Kd.R_new' (Kd.R_new' ho8 (Kd.R_lt (kdQ HO334))) (Kd.R_lt (kdQ HO337))) (below_size (beQ HB))); replace HO334 := Aside0.mk (Kd.R_elder' (kdQ HO334) (Kd.R_base ho8) hb); replace HO337 := Aside0.mk (Kd.R_elder' (kdQ HO337) (Kd.R_base ho8) hb); replace HB := Aside0.mk (below_step (beQ HB) hb); clear hb ho8)))
  go_loopg [7, 8] k (fun kq v7 v8 w' => ∃ (x7_1 : List Int) (x8_1 : Int), v8 = .int .i64 x8_1 ∧ Aside0 (spec_MaximalCliques.l0 kq l0 t331 t335 x7_1 x8_1 = some (r1, r2)) ∧ Aside0 (kq ≤ k) ∧ Aside0 (Kd.R (Kd.int .i64) 2 w' w.heap.size (fun k_ => some k_ ≠ (v336 : Value).ownBlock ∧ some k_ ≠ (v7 : Value).ownBlock) v333 t331) ∧ Aside0 (Kd.R (Kd.int .i64) 2 w' w.heap.size (fun k_ => some k_ ≠ (v333 : Value).ownBlock ∧ some k_ ≠ (v7 : Value).ownBlock) v336 t335) ∧ Aside0 (Kd.R (Kd.int .i64) 2 w' w.heap.size (fun k_ => some k_ ≠ (v333 : Value).ownBlock ∧ some k_ ≠ (v336 : Value).ownBlock) v7 x7_1) ∧ Aside0 (Below w.heap.size w w'))
  case atStart => exact ⟨(y338), (0), sz, H', ⟨Nat.le_refl _⟩, ⟨by (with_reducible repeat (first | apply Kd.R_alloc | apply Kd.R_drewN | apply Kd.R_drew)); exact Kd.R_mono HO334.out (fun _ hk => ⟨hk.1.2, hk.2⟩)⟩, ⟨by (with_reducible repeat (first | apply Kd.R_alloc | apply Kd.R_drewN | apply Kd.R_drew)); exact Kd.R_mono HO337.out (fun _ hk => ⟨hk.1.2, hk.2⟩)⟩, ⟨by (with_reducible repeat (first | apply Kd.R_alloc | apply Kd.R_drewN | apply Kd.R_drew)); exact Kd.R_mono HO340.out (fun _ hk => ⟨hk.1.2, hk.2⟩)⟩, ⟨beQ HB⟩⟩
  case round =>
   clear H'
   try clear c1
   try clear p2
   try clear c3
   try clear c3b0
   try clear c3b1
   obtain ⟨x7_1, x8_1, rfl, HA, HK1, HO_4, HO_6, HO_7, HB⟩ := hrel
   cases gk with
   | zero => exact absurd HA.out (by simp [spec_MaximalCliques.l0])
   | succ k1 =>
    have H := HA.out; clear HA
    simp only [spec_MaximalCliques.l0] at H
    by_cases c9 : x8_1 < (t331.length : Int)
    ·rw [if_pos c9] at H
     have c9b0 : decide (x8_1 < (t331.length : Int)) = true := decide_eq_true c9
     clear c9
     have H' := Aside0.mk H
     clear H; obtain ⟨Ao10, co10, eo10⟩ := Kd.R_slice HO_4.out; subst eo10
     go_wp2
     repeat (go_quiet (fail); try go_wp2)
     go_loopg [9, 10] k1 (fun kq v9 v10 w' => ∃ (x9_2 : Bool) (x10_2 : Int), v9 = .bool x9_2 ∧ v10 = .int .i64 x10_2 ∧ Aside0 (spec_MaximalCliques.l1 kq l0 t331 t335 x7_1 x8_1 x9_2 x10_2 = some (r1, r2)) ∧ Aside0 (kq ≤ k1) ∧ Aside0 (Kd.R (Kd.int .i64) 2 w' w.heap.size (fun k_ => some k_ ≠ (v336 : Value).ownBlock ∧ some k_ ≠ (u7 : Value).ownBlock) (.slice Ao10 t331.length co10) t331) ∧ Aside0 (Kd.R (Kd.int .i64) 2 w' w.heap.size (fun k_ => some k_ ≠ ((.slice Ao10 t331.length co10) : Value).ownBlock ∧ some k_ ≠ (u7 : Value).ownBlock) v336 t335) ∧ Aside0 (Kd.R (Kd.int .i64) 2 w' w.heap.size (fun k_ => some k_ ≠ ((.slice Ao10 t331.length co10) : Value).ownBlock ∧ some k_ ≠ (v336 : Value).ownBlock) u7 x7_1) ∧ Aside0 (Below w.heap.size w w'))
     case atStart => exact ⟨(true), (0), sz, sz, H', ⟨Nat.le_refl _⟩, ⟨kdQ HO_4⟩, ⟨kdQ HO_6⟩, ⟨kdQ HO_7⟩, ⟨beQ HB⟩⟩
     case round =>
      clear H'
      try clear c1
      try clear p2
      try clear c3
      try clear c3b0
      try clear c3b1
      try clear c9
      try clear c9b0
      try clear p2
      obtain ⟨x9_2, x10_2, rfl, rfl, HA, HK2, HO_4, HO_6, HO_7, HB⟩ := hrel
      cases gk with
      | zero => exact absurd HA.out (by simp [spec_MaximalCliques.l1])
      | succ k2 =>
       have H := HA.out; clear HA
       simp only [spec_MaximalCliques.l1] at H
       by_cases c11 : x10_2 < (l0.length : Int)
       ·rw [if_pos c11] at H
        have c11b0 : decide (x10_2 < (l0.length : Int)) = true := decide_eq_true c11
        clear c11
        by_cases c12 : 0 ≤ x10_2
        ·rw [if_pos c12] at H
         have c12b0 : decide (0 ≤ x10_2) = true := decide_eq_true c12
         clear c12
         by_cases c13 : x10_2 < (t335.length : Int)
         ·rw [if_pos c13] at H
          have c13b0 : decide (x10_2 < (t335.length : Int)) = true := decide_eq_true c13
          clear c13
          by_cases c14 : 0 ≤ x8_1
          ·rw [if_pos c14] at H
           have c14b0 : decide (0 ≤ x8_1) = true := decide_eq_true c14
           clear c14
           by_cases c15 : x8_1 < (t331.length : Int)
           ·rw [if_pos c15] at H
            have c15b0 : decide (x8_1 < (t331.length : Int)) = true := decide_eq_true c15
            clear c15; replace H := Option.bind_eq_some_iff.mp H; obtain ⟨t344, A160, H⟩ := H
            replace H : (if t344 = true then (spec_MaximalCliques.l1 k2 l0 t331 t335 x7_1 x8_1 x9_2 (wrap64 (x10_2 + 1))) else (if (Go.bits .or .i64 (rd t331 x8_1) (Go.bits .and .i64 (rd l0 x10_2) (rd t335 x10_2))) = (Go.bits .and .i64 (rd l0 x10_2) (rd t335 x10_2)) then (spec_MaximalCliques.l1 k2 l0 t331 t335 x7_1 x8_1 false (wrap64 (x10_2 + 1))) else (spec_MaximalCliques.l1 k2 l0 t331 t335 x7_1 x8_1 x9_2 (wrap64 (x10_2 + 1))))) = some (r1, r2) := H
            have A16 := Aside0.mk A160; clear A160
            by_cases c17 : t344 = true
            ·subst c17
             have H1 : (spec_MaximalCliques.l1 k2 l0 t331 t335 x7_1 x8_1 x9_2 (wrap64 (x10_2 + 1))) = some (r1, r2) := by rw [if_pos rfl] at H; exact H
             clear H; have H := H1; clear H1
             have H' := Aside0.mk H
             clear H
             have p341 : 0 ≤ (x10_2 : Int) := of_decide_eq_true (by first | (with_reducible assumption) | assumption)
             have q341 : x10_2 < (l0.length : Int) := of_decide_eq_true (by first | (with_reducible assumption) | assumption)
             obtain ⟨ad341, e341, hx341_0⟩ := Kd.at_int HR0.out x10_2 p341 q341; cases e341; replace hx341_0 := (HB.out.cell (World.block_lt_of_cell? w _ hx341_0)).trans hx341_0; replace p341 := eq_true p341; replace q341 := eq_true q341; obtain ⟨Ao18, co18, eo18⟩ := Kd.R_slice HO_6.out; subst eo18
             have p342 : 0 ≤ (x10_2 : Int) := of_decide_eq_true (by first | (with_reducible assumption) | assumption)
             have q342 : x10_2 < (t335.length : Int) := of_decide_eq_true (by first | (with_reducible assumption) | assumption)
             obtain ⟨ad342, e342, hx342_0⟩ := Kd.at_int (Kd.R_reads' HO_6.out).2.2 x10_2 p342 q342; cases e342; replace p342 := eq_true p342; replace q342 := eq_true q342
             have p343 : 0 ≤ (x8_1 : Int) := of_decide_eq_true (by first | (with_reducible assumption) | assumption)
             have q343 : x8_1 < (t331.length : Int) := of_decide_eq_true (by first | (with_reducible assumption) | assumption)
             obtain ⟨ad343, e343, hx343_0⟩ := Kd.at_int (Kd.R_reads' HO_4.out).2.2 x8_1 p343 q343; cases e343; replace p343 := eq_true p343; replace q343 := eq_true q343
             go_wp2_with (first | (go_at_call 37; (with_reducible refine (spec_l01Bit.calls (rd t331 x8_1) x10_2 true _ A16.out).mono ?_); rintro e w' ⟨rfl, ⟨nd, rfl⟩⟩; (try first | exact ⟨rfl, _, World.drewN_drewN _ _ _⟩ | exact ⟨rfl, _, Eq.trans (World.drewN_drewN _ _ _) (congrArg (World.drewN _) (Nat.add_assoc _ _ _))⟩)))
             repeat (go_quiet (first | (go_at_call 37; (with_reducible refine (spec_l01Bit.calls (rd t331 x8_1) x10_2 true _ A16.out).mono ?_); rintro e w' ⟨rfl, ⟨nd, rfl⟩⟩; (try first | exact ⟨rfl, _, World.drewN_drewN _ _ _⟩ | exact ⟨rfl, _, Eq.trans (World.drewN_drewN _ _ _) (congrArg (World.drewN _) (Nat.add_assoc _ _ _))⟩))); try go_wp2_with (first | (go_at_call 37; (with_reducible refine (spec_l01Bit.calls (rd t331 x8_1) x10_2 true _ A16.out).mono ?_); rintro e w' ⟨rfl, ⟨nd, rfl⟩⟩; (try first | exact ⟨rfl, _, World.drewN_drewN _ _ _⟩ | exact ⟨rfl, _, Eq.trans (World.drewN_drewN _ _ _) (congrArg (World.drewN _) (Nat.add_assoc _ _ _))⟩))))
             go_roundg k2
             case measure => have := HK1.out; have := HK2.out; omega
             case rel => exact ⟨(x9_2), (wrap64 (x10_2 + 1)), sz, sz, H', ⟨by have := HK1.out; have := HK2.out; omega⟩, ⟨kdQ HO_4⟩, ⟨kdQ HO_6⟩, ⟨kdQ HO_7⟩, ⟨beQ HB⟩⟩
            ·replace c17 := Bool.eq_false_iff.mpr c17
             subst c17
             have H1 : (if (Go.bits .or .i64 (rd t331 x8_1) (Go.bits .and .i64 (rd l0 x10_2) (rd t335 x10_2))) = (Go.bits .and .i64 (rd l0 x10_2) (rd t335 x10_2)) then (spec_MaximalCliques.l1 k2 l0 t331 t335 x7_1 x8_1 false (wrap64 (x10_2 + 1))) else (spec_MaximalCliques.l1 k2 l0 t331 t335 x7_1 x8_1 x9_2 (wrap64 (x10_2 + 1)))) = some (r1, r2) := by rw [if_neg (show ¬ (false = true) by decide)] at H; exact H
             clear H; have H := H1; clear H1
             by_cases c19 : (Go.bits .or .i64 (rd t331 x8_1) (Go.bits .and .i64 (rd l0 x10_2) (rd t335 x10_2))) = (Go.bits .and .i64 (rd l0 x10_2) (rd t335 x10_2))
             ·rw [if_pos c19] at H
              have c19b0 : ((Go.bits .or .i64 (rd t331 x8_1) (Go.bits .and .i64 (rd l0 x10_2) (rd t335 x10_2))) == (Go.bits .and .i64 (rd l0 x10_2) (rd t335 x10_2))) = true := beq_iff_eq.mpr c19
              have c19b1 : ((Go.bits .or .i64 (rd t331 x8_1) (Go.bits .and .i64 (rd l0 x10_2) (rd t335 x10_2))) != (Go.bits .and .i64 (rd l0 x10_2) (rd t335 x10_2))) = false := bne_eq_false_iff_eq.mpr c19
              clear c19
              have H' := Aside0.mk H
              clear H
              have p341 : 0 ≤ (x10_2 : Int) := of_decide_eq_true (by first | (with_reducible assumption) | assumption)
              have q341 : x10_2 < (l0.length : Int) := of_decide_eq_true (by first | (with_reducible assumption) | assumption)
              obtain ⟨ad341, e341, hx341_0⟩ := Kd.at_int HR0.out x10_2 p341 q341; cases e341; replace hx341_0 := (HB.out.cell (World.block_lt_of_cell? w _ hx341_0)).trans hx341_0; replace p341 := eq_true p341; replace q341 := eq_true q341; obtain ⟨Ao20, co20, eo20⟩ := Kd.R_slice HO_6.out; subst eo20
              have p342 : 0 ≤ (x10_2 : Int) := of_decide_eq_true (by first | (with_reducible assumption) | assumption)
              have q342 : x10_2 < (t335.length : Int) := of_decide_eq_true (by first | (with_reducible assumption) | assumption)
              obtain ⟨ad342, e342, hx342_0⟩ := Kd.at_int (Kd.R_reads' HO_6.out).2.2 x10_2 p342 q342; cases e342; replace p342 := eq_true p342; replace q342 := eq_true q342
              have p343 : 0 ≤ (x8_1 : Int) := of_decide_eq_true (by first | (with_reducible assumption) | assumption)
              have q343 : x8_1 < (t331.length : Int) := of_decide_eq_true (by first | (with_reducible assumption) | assumption)
              obtain ⟨ad343, e343, hx343_0⟩ := Kd.at_int (Kd.R_reads' HO_4.out).2.2 x8_1 p343 q343; cases e343; replace p343 := eq_true p343; replace q343 := eq_true q343
              go_wp2_with (first | (go_at_call 37; (with_reducible refine (spec_l01Bit.calls (rd t331 x8_1) x10_2 false _ A16.out).mono ?_); rintro e w' ⟨rfl, ⟨nd, rfl⟩⟩; (try first | exact ⟨rfl, _, World.drewN_drewN _ _ _⟩ | exact ⟨rfl, _, Eq.trans (World.drewN_drewN _ _ _) (congrArg (World.drewN _) (Nat.add_assoc _ _ _))⟩); have p345 : 0 ≤ (x8_1 : Int) := of_decide_eq_true (by first | (with_reducible assumption) | assumption); have q345 : x8_1 < (t331.length : Int) := of_decide_eq_true (by first | (with_reducible assumption) | assumption); obtain ⟨ad345, e345, hx345_0⟩ := Kd.at_int (Kd.R_reads' HO_4.out).2.2 x8_1 p345 q345; obtain rfl : ad343 = ad345 := (by injection e345); replace p345 := eq_true p345; replace q345 := eq_true q345))
              repeat (go_quiet (first | (go_at_call 37; (with_reducible refine (spec_l01Bit.calls (rd t331 x8_1) x10_2 false _ A16.out).mono ?_); rintro e w' ⟨rfl, ⟨nd, rfl⟩⟩; (try first | exact ⟨rfl, _, World.drewN_drewN _ _ _⟩ | exact ⟨rfl, _, Eq.trans (World.drewN_drewN _ _ _) (congrArg (World.drewN _) (Nat.add_assoc _ _ _))⟩); have p345 : 0 ≤ (x8_1 : Int) := of_decide_eq_true (by first | (with_reducible assumption) | assumption); have q345 : x8_1 < (t331.length : Int) := of_decide_eq_true (by first | (with_reducible assumption) | assumption); obtain ⟨ad345, e345, hx345_0⟩ := Kd.at_int (Kd.R_reads' HO_4.out).2.2 x8_1 p345 q345; obtain rfl : ad343 = ad345 := (by injection e345); replace p345 := eq_true p345; replace q345 := eq_true q345)); try go_wp2_with (first | (go_at_call 37; (with_reducible refine (spec_l01Bit.calls (rd t331 x8_1) x10_2 false _ A16.out).mono ?_); rintro e w' ⟨rfl, ⟨nd, rfl⟩⟩; (try first | exact ⟨rfl, _, World.drewN_drewN _ _ _⟩ | exact ⟨rfl, _, Eq.trans (World.drewN_drewN _ _ _) (congrArg (World.drewN _) (Nat.add_assoc _ _ _))⟩); have p345 : 0 ≤ (x8_1 : Int) := of_decide_eq_true (by first | (with_reducible assumption) | assumption); have q345 : x8_1 < (t331.length : Int) := of_decide_eq_true (by first | (with_reducible assumption) | assumption); obtain ⟨ad345, e345, hx345_0⟩ := Kd.at_int (Kd.R_reads' HO_4.out).2.2 x8_1 p345 q345; obtain rfl : ad343 = ad345 := (by injection e345); replace p345 := eq_true p345; replace q345 := eq_true q345)))
              go_roundg k2
              case measure => have := HK1.out; have := HK2.out; omega
              case rel => exact ⟨(false), (wrap64 (x10_2 + 1)), sz, sz, H', ⟨by have := HK1.out; have := HK2.out; omega⟩, ⟨kdQ HO_4⟩, ⟨kdQ HO_6⟩, ⟨kdQ HO_7⟩, ⟨beQ HB⟩⟩
             ·rw [if_neg c19] at H
              have c19b0 : ((Go.bits .or .i64 (rd t331 x8_1) (Go.bits .and .i64 (rd l0 x10_2) (rd t335 x10_2))) == (Go.bits .and .i64 (rd l0 x10_2) (rd t335 x10_2))) = false := beq_eq_false_iff_ne.mpr c19
              have c19b1 : ((Go.bits .or .i64 (rd t331 x8_1) (Go.bits .and .i64 (rd l0 x10_2) (rd t335 x10_2))) != (Go.bits .and .i64 (rd l0 x10_2) (rd t335 x10_2))) = true := bne_iff_ne.mpr c19
              have H' := Aside0.mk H
              clear H
              have p341 : 0 ≤ (x10_2 : Int) := of_decide_eq_true (by first | (with_reducible assumption) | assumption)
              have q341 : x10_2 < (l0.length : Int) := of_decide_eq_true (by first | (with_reducible assumption) | assumption)
              obtain ⟨ad341, e341, hx341_0⟩ := Kd.at_int HR0.out x10_2 p341 q341; cases e341; replace hx341_0 := (HB.out.cell (World.block_lt_of_cell? w _ hx341_0)).trans hx341_0; replace p341 := eq_true p341; replace q341 := eq_true q341; obtain ⟨Ao21, co21, eo21⟩ := Kd.R_slice HO_6.out; subst eo21
              have p342 : 0 ≤ (x10_2 : Int) := of_decide_eq_true (by first | (with_reducible assumption) | assumption)
              have q342 : x10_2 < (t335.length : Int) := of_decide_eq_true (by first | (with_reducible assumption) | assumption)
              obtain ⟨ad342, e342, hx342_0⟩ := Kd.at_int (Kd.R_reads' HO_6.out).2.2 x10_2 p342 q342; cases e342; replace p342 := eq_true p342; replace q342 := eq_true q342
              have p343 : 0 ≤ (x8_1 : Int) := of_decide_eq_true (by first | (with_reducible assumption) | assumption)
              have q343 : x8_1 < (t331.length : Int) := of_decide_eq_true (by first | (with_reducible assumption) | assumption)
              obtain ⟨ad343, e343, hx343_0⟩ := Kd.at_int (Kd.R_reads' HO_4.out).2.2 x8_1 p343 q343; cases e343; replace p343 := eq_true p343; replace q343 := eq_true q343
              go_wp2_with (first | (go_at_call 37; (with_reducible refine (spec_l01Bit.calls (rd t331 x8_1) x10_2 false _ A16.out).mono ?_); rintro e w' ⟨rfl, ⟨nd, rfl⟩⟩; (try first | exact ⟨rfl, _, World.drewN_drewN _ _ _⟩ | exact ⟨rfl, _, Eq.trans (World.drewN_drewN _ _ _) (congrArg (World.drewN _) (Nat.add_assoc _ _ _))⟩); have p345 : 0 ≤ (x8_1 : Int) := of_decide_eq_true (by first | (with_reducible assumption) | assumption); have q345 : x8_1 < (t331.length : Int) := of_decide_eq_true (by first | (with_reducible assumption) | assumption); obtain ⟨ad345, e345, hx345_0⟩ := Kd.at_int (Kd.R_reads' HO_4.out).2.2 x8_1 p345 q345; obtain rfl : ad343 = ad345 := (by injection e345); replace p345 := eq_true p345; replace q345 := eq_true q345))
              repeat (go_quiet (first | (go_at_call 37; (with_reducible refine (spec_l01Bit.calls (rd t331 x8_1) x10_2 false _ A16.out).mono ?_); rintro e w' ⟨rfl, ⟨nd, rfl⟩⟩; (try first | exact ⟨rfl, _, World.drewN_drewN _ _ _⟩ | exact ⟨rfl, _, Eq.trans (World.drewN_drewN _ _ _) (congrArg (World.drewN _) (Nat.add_assoc _ _ _))⟩); have p345 : 0 ≤ (x8_1 : Int) := of_decide_eq_true (by first | (with_reducible assumption) | assumption); have q345 : x8_1 < (t331.length : Int) := of_decide_eq_true (by first | (with_reducible assumption) | assumption); obtain ⟨ad345, e345, hx345_0⟩ := Kd.at_int (Kd.R_reads' HO_4.out).2.2 x8_1 p345 q345; obtain rfl : ad343 = ad345 := (by injection e345); replace p345 := eq_true p345; replace q345 := eq_true q345)); try go_wp2_with (first | (go_at_call 37; (with_reducible refine (spec_l01Bit.calls (rd t331 x8_1) x10_2 false _ A16.out).mono ?_); rintro e w' ⟨rfl, ⟨nd, rfl⟩⟩; (try first | exact ⟨rfl, _, World.drewN_drewN _ _ _⟩ | exact ⟨rfl, _, Eq.trans (World.drewN_drewN _ _ _) (congrArg (World.drewN _) (Nat.add_assoc _ _ _))⟩); have p345 : 0 ≤ (x8_1 : Int) := of_decide_eq_true (by first | (with_reducible assumption) | assumption); have q345 : x8_1 < (t331.length : Int) := of_decide_eq_true (by first | (with_reducible assumption) | assumption); obtain ⟨ad345, e345, hx345_0⟩ := Kd.at_int (Kd.R_reads' HO_4.out).2.2 x8_1 p345 q345; obtain rfl : ad343 = ad345 := (by injection e345); replace p345 := eq_true p345; replace q345 := eq_true q345)))
              go_roundg k2
              case measure => have := HK1.out; have := HK2.out; omega
              case rel => exact ⟨(x9_2), (wrap64 (x10_2 + 1)), sz, sz, H', ⟨by have := HK1.out; have := HK2.out; omega⟩, ⟨kdQ HO_4⟩, ⟨kdQ HO_6⟩, ⟨kdQ HO_7⟩, ⟨beQ HB⟩⟩
           ·rw [if_neg c15] at H
            exact absurd H (by simp)
          ·rw [if_neg c14] at H
           exact absurd H (by simp)
         ·rw [if_neg c13] at H
          exact absurd H (by simp)
        ·rw [if_neg c12] at H
         exact absurd H (by simp)
       ·rw [if_neg c11] at H
        have c11b0 : decide (x10_2 < (l0.length : Int)) = false := decide_eq_false c11
        clear c11
        by_cases c22 : x9_2 = true
        ·subst c22
         have H1 : (if 0 ≤ x8_1 then (if x8_1 < (t331.length : Int) then (if x7_1.length < 17592186044416 then (spec_MaximalCliques.l0 k2 l0 t331 t335 (x7_1 ++ [rd t331 x8_1]) (wrap64 (x8_1 + 1))) else (none)) else (none)) else (none)) = some (r1, r2) := by rw [if_pos rfl] at H; exact H
         clear H; have H := H1; clear H1
         by_cases c23 : 0 ≤ x8_1
         ·rw [if_pos c23] at H
          have c23b0 : decide (0 ≤ x8_1) = true := decide_eq_true c23
          clear c23
          by_cases c24 : x8_1 < (t331.length : Int)
          ·rw [if_pos c24] at H
           have c24b0 : decide (x8_1 < (t331.length : Int)) = true := decide_eq_true c24
           clear c24
           by_cases c25 : x7_1.length < 17592186044416
           ·rw [if_pos c25] at H
            have LMc25 := Aside0.mk c25; clear c25
            obtain ⟨y347, hy347⟩ : ∃ y_ : List Int, y_ = (x7_1 ++ [rd t331 x8_1]) := ⟨_, rfl⟩
            replace H : (spec_MaximalCliques.l0 k2 l0 t331 t335 y347 (wrap64 (x8_1 + 1))) = some (r1, r2) := by first | (rw [hy347]; with_reducible exact H) | (have H2_ := (Option.bind_some _ _).symm.trans H; rw [hy347]; with_reducible exact H2_) | (have H2_ := (Option.bind_some _ _).symm.trans H; with_reducible exact H2_) | with_reducible exact H | (rw [hy347]; exact H) | exact H
            have Ny347 := Aside0.mk hy347; clear hy347
            have H' := Aside0.mk H
            clear H
            have p346 : 0 ≤ (x8_1 : Int) := of_decide_eq_true (by first | (with_reducible assumption) | assumption)
            have q346 : x8_1 < (t331.length : Int) := of_decide_eq_true (by first | (with_reducible assumption) | assumption)
            obtain ⟨ad346, e346, hx346_0⟩ := Kd.at_int (Kd.R_reads' HO_4.out).2.2 x8_1 p346 q346; cases e346; replace p346 := eq_true p346; replace q346 := eq_true q346
            go_wp2_with (first | ((with_reducible refine gate_builtin (b := .append) (xs := #[.tmp 62, .tmp 67]) rfl ?_); at_builtin; refine Kd.R_append (Kd.int .i64) (w0 := w) w.heap.size rfl (.tmp 62) (.tmp 67) 22 2 (.int .i64 0) 8 rfl Tryd.underlying22 info2 rfl (by decide) (by omega) u7 x7_1 (rd t331 x8_1) [.int .i64 (rd t331 x8_1)] (fun k_ => some k_ ≠ (.slice (some ad346) t331.length co10 : Value).ownBlock ∧ some k_ ≠ (v336 : Value).ownBlock) (fun _ => False) rfl rfl ?aP (fun _ hk => hk.elim) ?aF ?aO ?aB ?aS ?aL ?_; (case aP => exact rfl); (case aB => exact (beQ HB)); (case aF => exact (fun k_ hk => ⟨Kd.fresh' (Kd.R_lt (kdQ HO_4)) k_ hk, Kd.fresh' (Kd.R_lt (kdQ HO_6)) k_ hk⟩)); (case aO => exact (kdQ HO_7)); (case aS => exact (below_size (beQ HB))); (case aL => have := LMc25.out; omega); intro v348 w26 ho hb hg hat; rw [← Ny347.out] at ho; have n0_ := Aside0.mk (Kd.R_after (ok := (fun k_ => some k_ ≠ (v336 : Value).ownBlock)) (kdQ HO_4) hg hat); have n1_ := Aside0.mk (Kd.R_after (ok := (fun k_ => some k_ ≠ (.slice (some ad346) t331.length co10 : Value).ownBlock)) (kdQ HO_6) hg hat); have n2_ := Aside0.mk (hb); have n3_ := Aside0.mk (ho); clear HO_4; clear HO_6; clear HB; clear HO_7; have HO_4 := n0_; have HO_6 := n1_; have HB := n2_; have HO349 := n3_; clear n0_ n1_ n2_ n3_; clear ho hb hg hat))
            repeat (go_quiet (first | ((with_reducible refine gate_builtin (b := .append) (xs := #[.tmp 62, .tmp 67]) rfl ?_); at_builtin; refine Kd.R_append (Kd.int .i64) (w0 := w) w.heap.size rfl (.tmp 62) (.tmp 67) 22 2 (.int .i64 0) 8 rfl Tryd.underlying22 info2 rfl (by decide) (by omega) u7 x7_1 (rd t331 x8_1) [.int .i64 (rd t331 x8_1)] (fun k_ => some k_ ≠ (.slice (some ad346) t331.length co10 : Value).ownBlock ∧ some k_ ≠ (v336 : Value).ownBlock) (fun _ => False) rfl rfl ?aP (fun _ hk => hk.elim) ?aF ?aO ?aB ?aS ?aL ?_; (case aP => exact rfl); (case aB => exact (beQ HB)); (case aF => exact (fun k_ hk => ⟨Kd.fresh' (Kd.R_lt (kdQ HO_4)) k_ hk, Kd.fresh' (Kd.R_lt (kdQ HO_6)) k_ hk⟩)); (case aO => exact (kdQ HO_7)); (case aS => exact (below_size (beQ HB))); (case aL => have := LMc25.out; omega); intro v348 w26 ho hb hg hat; rw [← Ny347.out] at ho; have n0_ := Aside0.mk (Kd.R_after (ok := (fun k_ => some k_ ≠ (v336 : Value).ownBlock)) (kdQ HO_4) hg hat); have n1_ := Aside0.mk (Kd.R_after (ok := (fun k_ => some k_ ≠ (.slice (some ad346) t331.length co10 : Value).ownBlock)) (kdQ HO_6) hg hat); have n2_ := Aside0.mk (hb); have n3_ := Aside0.mk (ho); clear HO_4; clear HO_6; clear HB; clear HO_7; have HO_4 := n0_; have HO_6 := n1_; have HB := n2_; have HO349 := n3_; clear n0_ n1_ n2_ n3_; clear ho hb hg hat)); try go_wp2_with (first | ((with_reducible refine gate_builtin (b := .append) (xs := #[.tmp 62, .tmp 67]) rfl ?_); at_builtin; refine Kd.R_append (Kd.int .i64) (w0 := w) w.heap.size rfl (.tmp 62) (.tmp 67) 22 2 (.int .i64 0) 8 rfl Tryd.underlying22 info2 rfl (by decide) (by omega) u7 x7_1 (rd t331 x8_1) [.int .i64 (rd t331 x8_1)] (fun k_ => some k_ ≠ (.slice (some ad346) t331.length co10 : Value).ownBlock ∧ some k_ ≠ (v336 : Value).ownBlock) (fun _ => False) rfl rfl ?aP (fun _ hk => hk.elim) ?aF ?aO ?aB ?aS ?aL ?_; (case aP => exact rfl); (case aB => exact (beQ HB)); (case aF => exact (fun k_ hk => ⟨Kd.fresh' (Kd.R_lt (kdQ HO_4)) k_ hk, Kd.fresh' (Kd.R_lt (kdQ HO_6)) k_ hk⟩)); (case aO => exact (kdQ HO_7)); (case aS => exact (below_size (beQ HB))); (case aL => have := LMc25.out; omega); intro v348 w26 ho hb hg hat; rw [← Ny347.out] at ho; have n0_ := Aside0.mk (Kd.R_after (ok := (fun k_ => some k_ ≠ (v336 : Value).ownBlock)) (kdQ HO_4) hg hat); have n1_ := Aside0.mk (Kd.R_after (ok := (fun k_ => some k_ ≠ (.slice (some ad346) t331.length co10 : Value).ownBlock)) (kdQ HO_6) hg hat); have n2_ := Aside0.mk (hb); have n3_ := Aside0.mk (ho); clear HO_4; clear HO_6; clear HB; clear HO_7; have HO_4 := n0_; have HO_6 := n1_; have HB := n2_; have HO349 := n3_; clear n0_ n1_ n2_ n3_; clear ho hb hg hat)))
            go_roundg k2
            case measure => have := HK1.out; have := HK2.out; omega
            case rel => exact ⟨(y347), (wrap64 (x8_1 + 1)), sz, H', ⟨by have := HK1.out; have := HK2.out; omega⟩, ⟨kdQ HO_4⟩, ⟨kdQ HO_6⟩, ⟨kdQ HO349⟩, ⟨beQ HB⟩⟩
           ·rw [if_neg c25] at H
            exact absurd H (by simp)
          ·rw [if_neg c24] at H
           exact absurd H (by simp)
         ·rw [if_neg c23] at H
          exact absurd H (by simp)
        ·replace c22 := Bool.eq_false_iff.mpr c22
         subst c22
         have H1 : (spec_MaximalCliques.l0 k2 l0 t331 t335 x7_1 (wrap64 (x8_1 + 1))) = some (r1, r2) := by rw [if_neg (show ¬ (false = true) by decide)] at H; exact H
         clear H; have H := H1; clear H1
         have H' := Aside0.mk H
         clear H
         go_wp2
         repeat (go_quiet (fail); try go_wp2)
         go_roundg k2
         case measure => have := HK1.out; have := HK2.out; omega
         case rel => exact ⟨(x7_1), (wrap64 (x8_1 + 1)), sz, H', ⟨by have := HK1.out; have := HK2.out; omega⟩, ⟨kdQ HO_4⟩, ⟨kdQ HO_6⟩, ⟨kdQ HO_7⟩, ⟨beQ HB⟩⟩
    ·rw [if_neg c9] at H
     have c9b0 : decide (x8_1 < (t331.length : Int)) = false := decide_eq_false c9
     clear c9
     simp only [Option.some.injEq, Prod.mk.injEq] at H
     obtain ⟨rfl, rfl⟩ := H; obtain ⟨Ao27, co27, eo27⟩ := Kd.R_slice HO_4.out; subst eo27
     go_wp2
     repeat (go_quiet (fail); try go_wp2)
     go_ret2
     exact ⟨_, rz, by (with_reducible repeat (first | apply Kd.R_alloc | apply Kd.R_drewN | apply Kd.R_drew)); exact Kd.R_mono HO_7.out (fun _ hk => trivial), beQ HB⟩
 ·rw [if_neg c3] at H
  have c3b0 : (t332 == 0) = false := beq_eq_false_iff_ne.mpr c3
  have c3b1 : (t332 != 0) = true := bne_iff_ne.mpr c3
  simp only [Option.some.injEq, Prod.mk.injEq] at H
  obtain ⟨rfl, rfl⟩ := H
  go_enter Tryd.func14, Tryd.ntmps14
  go_wp2_with (first | (go_at_call 8; (with_reducible refine (spec_CliquesOf.calls k _ _ l0 t331 t332 _ ?side1 ?side2 A2.out).mono ?_); (case side1 => have q_ := Aside0.mk HR0.out; exact cQ q_); (case side2 => exact HC0.out); rintro e w28 ⟨v333, rfl, ho0, hb⟩; have HO334 := Aside0.mk (Kd.R_lower ho0 (below_size (beQ HB))); replace HB := Aside0.mk (below_step (beQ HB) hb); (try clear hb); (try clear hb2); (try clear hk); (try clear hi); (try clear hgw_); (try clear ho0)))
  repeat (go_quiet (first | (go_at_call 8; (with_reducible refine (spec_CliquesOf.calls k _ _ l0 t331 t332 _ ?side1 ?side2 A2.out).mono ?_); (case side1 => have q_ := Aside0.mk HR0.out; exact cQ q_); (case side2 => exact HC0.out); rintro e w28 ⟨v333, rfl, ho0, hb⟩; have HO334 := Aside0.mk (Kd.R_lower ho0 (below_size (beQ HB))); replace HB := Aside0.mk (below_step (beQ HB) hb); (try clear hb); (try clear hb2); (try clear hk); (try clear hi); (try clear hgw_); (try clear ho0))); try go_wp2_with (first | (go_at_call 8; (with_reducible refine (spec_CliquesOf.calls k _ _ l0 t331 t332 _ ?side1 ?side2 A2.out).mono ?_); (case side1 => have q_ := Aside0.mk HR0.out; exact cQ q_); (case side2 => exact HC0.out); rintro e w28 ⟨v333, rfl, ho0, hb⟩; have HO334 := Aside0.mk (Kd.R_lower ho0 (below_size (beQ HB))); replace HB := Aside0.mk (below_step (beQ HB) hb); (try clear hb); (try clear hb2); (try clear hk); (try clear hi); (try clear hgw_); (try clear ho0))))
  go_ret2
  exact ⟨_, rz, by first | exact Kd.R_nil _ _ _ _ _ | exact Kd.N_nil _ _ _ _ _ | exact Kd.V_nil _ _ _ _ _ | exact Kd.Q_nil _ _ _ _ _ | exact Kd.S_nil _ _ _ _ _, beQ HB⟩

end Go.Proofs.YtjckfnaohikmbaaDoor.G
