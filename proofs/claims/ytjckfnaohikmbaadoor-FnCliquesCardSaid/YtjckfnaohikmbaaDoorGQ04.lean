/- How the program's functions compute, function by function: each is told by a plain Lean function of the same answers, under the condition that this one answers. Written by a program of this project over the seat's translation; Lean checks it. -/
import Derived.Test.YtjckfnaohikmbaaDoorG0
import Derived.Test.YtjckfnaohikmbaaDoorGQ00a
import Derived.Test.YtjckfnaohikmbaaDoorGQ01b
namespace Go.Proofs.YtjckfnaohikmbaaDoor.G
open Go.RowKit Go.Proofs.YtjckfnaohikmbaaDoorW.PrintWords Go.Proofs.YtjckfnaohikmbaaDoorW.PrintLast Go.Proofs.YtjckfnaohikmbaaDoorW.PrintMore
attribute [local go_sem] max2_int min2_int max_two min_two max_three min_three max_four min_four   -- for this text's walks alone
set_option linter.unusedVariables false
set_option linter.unusedSimpArgs false

/-! ### impl_largest: function 38 -/
mutual
def impl_largest.l0 : Nat → List Int → List Int → List Int → List Int → Int → Int → Option (List Int)
 | 0, _, _, _, _, _, _ => none
 | k + 1, x0, x5, x6, x15, x16, x17 => if x17 < x16 then (if 0 ≤ x17 then (if x17 < (x15.length : Int) then ((impl_length_int64.f x0).bind fun t357 => ((impl_one.f t357).bind fun t358 => ((impl_members.f k (rd x15 x17)).bind fun t359 => (impl_largest.l1 k x0 x5 x6 (rd x15 x17) (Go.bits .andNot .i64 (wrap64 (t358 - 1)) (rd x15 x17)) x15 x16 x17 t359 (t359.length : Int) 0)))) else (none)) else (none)) else (some x6)
def impl_largest.l1 : Nat → List Int → List Int → List Int → Int → Int → List Int → Int → Int → List Int → Int → Int → Option (List Int)
 | 0, _, _, _, _, _, _, _, _, _, _, _ => none
 | k + 1, x0, x5, x6, x8, x9, x15, x16, x17, x28, x29, x30 => if x30 < x29 then (if 0 ≤ x30 then (if x30 < (x28.length : Int) then (if 0 ≤ (rd x28 x30) then (if (rd x28 x30) < (x5.length : Int) then (impl_largest.l1 k x0 x5 x6 x8 (Go.bits .and .i64 x9 (rd x5 (rd x28 x30))) x15 x16 x17 x28 x29 (wrap64 (x30 + 1))) else (none)) else (none)) else (none)) else (none)) else (if x9 = 0 then (if x6.length < 17592186044416 then (impl_largest.l0 k x0 x5 (x6 ++ [x8]) x15 x16 (wrap64 (x17 + 1))) else (none)) else (impl_largest.l0 k x0 x5 x6 x15 x16 (wrap64 (x17 + 1))))
end
def impl_largest.f (k : Nat) (l0 : List Int) (l1 : List Int) : Option (List Int) := (impl_mutual.f k l0).bind fun t350 => (impl_largest.l0 k l0 t350 (([] : List Int)) l1 (l1.length : Int) 0)
theorem impl_largest.mono_l : ∀ k, (∀ y0 y1 y2 y3 y4 y5, LeO (impl_largest.l0 k y0 y1 y2 y3 y4 y5) (impl_largest.l0 (k + 1) y0 y1 y2 y3 y4 y5)) ∧ (∀ y0 y1 y2 y3 y4 y5 y6 y7 y8 y9 y10, LeO (impl_largest.l1 k y0 y1 y2 y3 y4 y5 y6 y7 y8 y9 y10) (impl_largest.l1 (k + 1) y0 y1 y2 y3 y4 y5 y6 y7 y8 y9 y10))
 | 0 => ⟨fun _ _ _ _ _ _ r h => by simp [impl_largest.l0] at h, fun _ _ _ _ _ _ _ _ _ _ _ r h => by simp [impl_largest.l1] at h⟩
 | k + 1 => by
  obtain ⟨ih0, ih1⟩ := impl_largest.mono_l k
  refine ⟨?_, ?_⟩
  ·intro y0 y1 y2 y3 y4 y5
   unfold impl_largest.l0
   repeat' first
   | (with_reducible exact ih0 _ _ _ _ _ _)
   | (with_reducible exact ih1 _ _ _ _ _ _ _ _ _ _ _)
   | (with_reducible exact impl_members.mono _ _)
   | (with_reducible exact impl_mutual.mono _ _)
   | (with_reducible exact LeO.refl _)
   | (with_reducible exact LeO.none _)
   | (with_reducible refine LeO.ite ?_ ?_)
   | (with_reducible refine LeO.bind ?_ (fun _ => ?_))
   | exact ih0 _ _ _ _ _ _
   | exact ih1 _ _ _ _ _ _ _ _ _ _ _
   | exact impl_members.mono _ _
   | exact impl_mutual.mono _ _
   | exact LeO.none _
   | refine LeO.ite ?_ ?_
   | refine LeO.bind ?_ (fun _ => ?_)
  ·intro y0 y1 y2 y3 y4 y5 y6 y7 y8 y9 y10
   unfold impl_largest.l1
   repeat' first
   | (with_reducible exact ih0 _ _ _ _ _ _)
   | (with_reducible exact ih1 _ _ _ _ _ _ _ _ _ _ _)
   | (with_reducible exact impl_members.mono _ _)
   | (with_reducible exact impl_mutual.mono _ _)
   | (with_reducible exact LeO.refl _)
   | (with_reducible exact LeO.none _)
   | (with_reducible refine LeO.ite ?_ ?_)
   | (with_reducible refine LeO.bind ?_ (fun _ => ?_))
   | exact ih0 _ _ _ _ _ _
   | exact ih1 _ _ _ _ _ _ _ _ _ _ _
   | exact impl_members.mono _ _
   | exact impl_mutual.mono _ _
   | exact LeO.none _
   | refine LeO.ite ?_ ?_
   | refine LeO.bind ?_ (fun _ => ?_)
theorem impl_largest.mono : ∀ a0 a1 k, LeO (impl_largest.f k a0 a1) (impl_largest.f (k + 1) a0 a1) := by
 intro a0 a1 k
 obtain ⟨ih0, ih1⟩ := impl_largest.mono_l k
 unfold impl_largest.f
 repeat' first
   | (with_reducible exact ih0 _ _ _ _ _ _)
   | (with_reducible exact ih1 _ _ _ _ _ _ _ _ _ _ _)
   | (with_reducible exact impl_members.mono _ _)
   | (with_reducible exact impl_mutual.mono _ _)
   | (with_reducible exact LeO.refl _)
   | (with_reducible exact LeO.none _)
   | (with_reducible refine LeO.ite ?_ ?_)
   | (with_reducible refine LeO.bind ?_ (fun _ => ?_))
   | exact ih0 _ _ _ _ _ _
   | exact ih1 _ _ _ _ _ _ _ _ _ _ _
   | exact impl_members.mono _ _
   | exact impl_mutual.mono _ _
   | exact LeO.none _
   | refine LeO.ite ?_ ?_
   | refine LeO.bind ?_ (fun _ => ?_)
set_option maxHeartbeats 8000000 in
set_option maxRecDepth 100000 in
theorem impl_largest.calls (k : Nat) (A0 : Option Addr) (c0 : Nat) (l0 : List Int) (A1 : Option Addr) (c1 : Nat) (l1 : List Int) (r : List Int) (w : World) (hr0 : Kd.C (Kd.int .i64) w A0 l0.length l0) (hc0 : l0.length ≤ c0) (hr1 : Kd.C (Kd.int .i64) w A1 l1.length l1) (hc1 : l1.length ≤ c1) (hT : TabW w) (h : impl_largest.f k l0 l1 = some r) :
  Calls Tryd.prog 38 #[.slice A0 l0.length c0, .slice A1 l1.length c1] w fun e w' => ∃ v0_ : Value, e = .returned (v0_) ∧ Kd.R (Kd.int .i64) 2 w' w.heap.size (fun _ => True) v0_ r ∧ Below w.heap.size w w' := by
 have HT := Aside0.mk hT; clear hT; have HR0 := Aside0.mk hr0; have HC0 := Aside0.mk hc0; clear hr0 hc0; have HR1 := Aside0.mk hr1; have HC1 := Aside0.mk hc1; clear hr1 hc1; have HB := Aside0.mk (Below.refl w.heap.size w)
 have H : ((impl_mutual.f k l0).bind fun t350 => (impl_largest.l0 k l0 t350 (([] : List Int)) l1 (l1.length : Int) 0)) = some r := h
 clear h; replace H := Option.bind_eq_some_iff.mp H; obtain ⟨t350, A30, H⟩ := H
 replace H : (impl_largest.l0 k l0 t350 (([] : List Int)) l1 (l1.length : Int) 0) = some r := H
 have A3 := Aside0.mk A30; clear A30
 obtain ⟨y353, hy353⟩ : ∃ y_ : List Int, y_ = (([] : List Int)) := ⟨_, rfl⟩
 replace H : (impl_largest.l0 k l0 t350 y353 l1 (l1.length : Int) 0) = some r := by first | (rw [hy353]; with_reducible exact H) | (have H2_ := (Option.bind_some _ _).symm.trans H; rw [hy353]; with_reducible exact H2_) | (have H2_ := (Option.bind_some _ _).symm.trans H; with_reducible exact H2_) | with_reducible exact H | (rw [hy353]; exact H) | exact H
 have Ny353 := Aside0.mk hy353; clear hy353
 have H' := Aside0.mk H
 clear H
 go_enter Tryd.func38, Tryd.ntmps38
 go_wp2_with (first | ((with_reducible refine gate_callee (f := 58) rfl ?_); refine goesL_ (some 13) rfl rfl Tryd.func58 (by kernel_rfl) rfl #[.slice A0 l0.length c0] rfl lz ?_; (with_reducible refine (impl_mutual.calls k _ _ l0 t350 _ ?side1 ?side2 ?side3 A3.out).mono ?_); (case side1 => have q_ := Aside0.mk HR0.out; exact cQ q_); (case side2 => exact HC0.out); (case side3 => exact TabW.below HT.out (beQ HB)); rintro e w4 ⟨v351, rfl, ho0, hb⟩; refine ⟨_, rfl, ?_⟩; have HO352 := Aside0.mk (Kd.R_lower ho0 (below_size (beQ HB))); replace HB := Aside0.mk (below_step (beQ HB) hb); (try clear hb); (try clear hb2); (try clear hk); (try clear hi); (try clear hgw_); (try clear ho0)) | ((with_reducible refine gate_dst (N := 14) rfl ?_); refine Kd.R_lit (Kd.int .i64) _ 2 ?hg (N := 14) ?hd (xs := ([] : List Int)) (inner := []) (ok := fun _ => True) (okp := fun _ => True) ?hr ?hp (fun _ hk => hk) trivial (Below.refl _ _) (Nat.le_refl _) (by simp) ?_; (case hd => rfl); (case hg => rfl); (case hr => first | (go_simp; done) | (go_simp; rfl)); (case hp => exact (Reps.none _ _)); intro v354 w5 ho6 hb hg_ hnew_; clear hg_ hnew_; (first | rw [← Ny353.out] at ho6 | (simp only [Int.reduceToNat] at ho6; rw [← Ny353.out] at ho6)); have HO355 := Aside0.mk (Kd.R_lower (Kd.R_new' ho6 (Kd.R_lt (kdQ HO352))) (below_size (beQ HB))); replace HO352 := Aside0.mk (Kd.R_elder' (kdQ HO352) (Kd.R_base ho6) hb); replace HB := Aside0.mk (below_step (beQ HB) hb); clear hb ho6))
 go_loopg [6, 17] k (fun kq v6 v17 w' => ∃ (x6_1 : List Int) (x17_1 : Int), v17 = .int .i64 x17_1 ∧ Aside0 (impl_largest.l0 kq l0 t350 x6_1 l1 (l1.length : Int) x17_1 = some r) ∧ Aside0 (kq ≤ k) ∧ Aside0 (Kd.R (Kd.int .i64) 2 w' w.heap.size (fun k_ => some k_ ≠ (v6 : Value).ownBlock) v351 t350) ∧ Aside0 (Kd.R (Kd.int .i64) 2 w' w.heap.size (fun k_ => some k_ ≠ (v351 : Value).ownBlock) v6 x6_1) ∧ Aside0 (Below w.heap.size w w'))
 case atStart => exact ⟨(y353), (0), sz, H', ⟨Nat.le_refl _⟩, ⟨by (with_reducible repeat (first | apply Kd.R_alloc | apply Kd.R_drewN | apply Kd.R_drew)); exact Kd.R_mono HO352.out (fun _ hk => hk.2)⟩, ⟨by (with_reducible repeat (first | apply Kd.R_alloc | apply Kd.R_drewN | apply Kd.R_drew)); exact Kd.R_mono HO355.out (fun _ hk => hk.2)⟩, ⟨beQ HB⟩⟩
 case round =>
  clear H'
  try clear c1
  try clear p2
  try clear c3
  try clear c5
  obtain ⟨x6_1, x17_1, rfl, HA, HK1, HO_5, HO_6, HB⟩ := hrel
  cases gk with
  | zero => exact absurd HA.out (by simp [impl_largest.l0])
  | succ k1 =>
   have H := HA.out; clear HA
   simp only [impl_largest.l0] at H
   by_cases c7 : x17_1 < (l1.length : Int)
   ·rw [if_pos c7] at H
    have c7b0 : decide (x17_1 < (l1.length : Int)) = true := decide_eq_true c7
    clear c7
    by_cases c8 : 0 ≤ x17_1
    ·rw [if_pos c8] at H
     have c8b0 : decide (0 ≤ x17_1) = true := decide_eq_true c8
     clear c8
     by_cases c9 : x17_1 < (l1.length : Int)
     ·rw [if_pos c9] at H
      have c9b0 : decide (x17_1 < (l1.length : Int)) = true := decide_eq_true c9
      clear c9; replace H := Option.bind_eq_some_iff.mp H; obtain ⟨t357, A100, H⟩ := H
      replace H : ((impl_one.f t357).bind fun t358 => ((impl_members.f k1 (rd l1 x17_1)).bind fun t359 => (impl_largest.l1 k1 l0 t350 x6_1 (rd l1 x17_1) (Go.bits .andNot .i64 (wrap64 (t358 - 1)) (rd l1 x17_1)) l1 (l1.length : Int) x17_1 t359 (t359.length : Int) 0))) = some r := H
      have A10 := Aside0.mk A100; clear A100; replace H := Option.bind_eq_some_iff.mp H; obtain ⟨t358, A110, H⟩ := H
      replace H : ((impl_members.f k1 (rd l1 x17_1)).bind fun t359 => (impl_largest.l1 k1 l0 t350 x6_1 (rd l1 x17_1) (Go.bits .andNot .i64 (wrap64 (t358 - 1)) (rd l1 x17_1)) l1 (l1.length : Int) x17_1 t359 (t359.length : Int) 0)) = some r := H
      have A11 := Aside0.mk A110; clear A110; replace H := Option.bind_eq_some_iff.mp H; obtain ⟨t359, A120, H⟩ := H
      replace H : (impl_largest.l1 k1 l0 t350 x6_1 (rd l1 x17_1) (Go.bits .andNot .i64 (wrap64 (t358 - 1)) (rd l1 x17_1)) l1 (l1.length : Int) x17_1 t359 (t359.length : Int) 0) = some r := H
      have A12 := Aside0.mk A120; clear A120
      have H' := Aside0.mk H
      clear H
      have p356 : 0 ≤ (x17_1 : Int) := of_decide_eq_true (by first | (with_reducible assumption) | assumption)
      have q356 : x17_1 < (l1.length : Int) := of_decide_eq_true (by first | (with_reducible assumption) | assumption)
      obtain ⟨ad356, e356, hx356_0⟩ := Kd.at_int HR1.out x17_1 p356 q356; cases e356; replace hx356_0 := (HB.out.cell (World.block_lt_of_cell? w _ hx356_0)).trans hx356_0; replace p356 := eq_true p356; replace q356 := eq_true q356
      go_wp2_with (first | ((with_reducible refine gate_callee (f := 56) rfl ?_); refine goesL_ (some 22) rfl rfl Tryd.func56 (by kernel_rfl) rfl #[.slice A0 l0.length c0] rfl lz ?_; (with_reducible refine (impl_length_int64.calls _ _ l0 t357 _ ?side1 ?side2 A10.out).mono ?_); (case side1 => have q_ := Aside0.mk (Kd.C_below HR0.out HB.out); exact cQ q_); (case side2 => exact HC0.out); rintro e w' ⟨rfl, ⟨nd, rfl⟩⟩; refine ⟨_, rfl, ?_⟩) | ((with_reducible refine gate_callee (f := 53) rfl ?_); refine goesL_ (some 23) rfl rfl Tryd.func53 (by kernel_rfl) rfl #[.int .i64 t357] rfl lz ?_; (with_reducible refine (impl_one.calls t357 t358 _ A11.out).mono ?_); rintro e w' ⟨rfl, ⟨nd, rfl⟩⟩; refine ⟨_, rfl, ?_⟩) | ((with_reducible refine gate_callee (f := 60) rfl ?_); refine goesL_ (some 28) rfl rfl Tryd.func60 (by kernel_rfl) rfl #[.int .i64 (rd l1 x17_1)] rfl lz ?_; (with_reducible refine (impl_members.calls k1 (rd l1 x17_1) t359 _ ?side1 A12.out).mono ?_); (case side1 => exact TabW.below HT.out (beQ HB)); rintro e w13 ⟨v360, rfl, ho0, hb⟩; refine ⟨_, rfl, ?_⟩; have HO361 := Aside0.mk (Kd.R_lower (Kd.R_new' (Kd.R_new' ho0 (Kd.R_lt (kdQ HO_5))) (Kd.R_lt (kdQ HO_6))) (below_size (beQ HB))); replace HO_5 := Aside0.mk (Kd.R_elder' (kdQ HO_5) (Kd.R_base ho0) hb); replace HO_6 := Aside0.mk (Kd.R_elder' (kdQ HO_6) (Kd.R_base ho0) hb); replace HB := Aside0.mk (below_step (beQ HB) hb); (try clear hb); (try clear hb2); (try clear hk); (try clear hi); (try clear hgw_); (try clear ho0); obtain ⟨Ao14, co14, eo14⟩ := Kd.R_slice HO361.out; subst eo14))
      go_loopg [9, 30] k1 (fun kq v9 v30 w' => ∃ (x9_2 : Int) (x30_2 : Int), v9 = .int .i64 x9_2 ∧ v30 = .int .i64 x30_2 ∧ Aside0 (impl_largest.l1 kq l0 t350 x6_1 (rd l1 x17_1) x9_2 l1 (l1.length : Int) x17_1 t359 (t359.length : Int) x30_2 = some r) ∧ Aside0 (kq ≤ k1) ∧ Aside0 (Kd.R (Kd.int .i64) 2 w' w.heap.size (fun k_ => some k_ ≠ (u6 : Value).ownBlock ∧ some k_ ≠ ((.slice Ao14 t359.length co14) : Value).ownBlock) v351 t350) ∧ Aside0 (Kd.R (Kd.int .i64) 2 w' w.heap.size (fun k_ => some k_ ≠ (v351 : Value).ownBlock ∧ some k_ ≠ ((.slice Ao14 t359.length co14) : Value).ownBlock) u6 x6_1) ∧ Aside0 (Kd.R (Kd.int .i64) 2 w' w.heap.size (fun k_ => some k_ ≠ (v351 : Value).ownBlock ∧ some k_ ≠ (u6 : Value).ownBlock) (.slice Ao14 t359.length co14) t359) ∧ Aside0 (Below w.heap.size w w'))
      case atStart => exact ⟨(Go.bits .andNot .i64 (wrap64 (t358 - 1)) (rd l1 x17_1)), (0), sz, sz, H', ⟨Nat.le_refl _⟩, ⟨kdQ HO_5⟩, ⟨kdQ HO_6⟩, ⟨by (with_reducible repeat (first | apply Kd.R_alloc | apply Kd.R_drewN | apply Kd.R_drew)); exact Kd.R_mono HO361.out (fun _ hk => ⟨hk.1.2, hk.2⟩)⟩, ⟨beQ HB⟩⟩
      case round =>
       clear H'
       try clear c1
       try clear p2
       try clear c3
       try clear p3
       try clear q3
       try clear hx3
       try clear c5
       try clear c6
       try clear p6
       try clear c7
       try clear c7b0
       try clear c8
       try clear c8b0
       try clear c9
       try clear c9b0
       try clear hx356_0
       try clear p2
       try clear p356
       try clear q356
       obtain ⟨x9_2, x30_2, rfl, rfl, HA, HK2, HO_5, HO_6, HO_28, HB⟩ := hrel
       cases gk with
       | zero => exact absurd HA.out (by simp [impl_largest.l1])
       | succ k2 =>
        have H := HA.out; clear HA
        simp only [impl_largest.l1] at H
        by_cases c15 : x30_2 < (t359.length : Int)
        ·rw [if_pos c15] at H
         have c15b0 : decide (x30_2 < (t359.length : Int)) = true := decide_eq_true c15
         clear c15
         by_cases c16 : 0 ≤ x30_2
         ·rw [if_pos c16] at H
          have c16b0 : decide (0 ≤ x30_2) = true := decide_eq_true c16
          clear c16
          by_cases c17 : x30_2 < (t359.length : Int)
          ·rw [if_pos c17] at H
           have c17b0 : decide (x30_2 < (t359.length : Int)) = true := decide_eq_true c17
           clear c17
           by_cases c18 : 0 ≤ (rd t359 x30_2)
           ·rw [if_pos c18] at H
            have c18b0 : decide (0 ≤ (rd t359 x30_2)) = true := decide_eq_true c18
            clear c18
            by_cases c19 : (rd t359 x30_2) < (t350.length : Int)
            ·rw [if_pos c19] at H
             have c19b0 : decide ((rd t359 x30_2) < (t350.length : Int)) = true := decide_eq_true c19
             clear c19
             have H' := Aside0.mk H
             clear H
             have p362 : 0 ≤ (x30_2 : Int) := of_decide_eq_true (by first | (with_reducible assumption) | assumption)
             have q362 : x30_2 < (t359.length : Int) := of_decide_eq_true (by first | (with_reducible assumption) | assumption)
             obtain ⟨ad362, e362, hx362_0⟩ := Kd.at_int (Kd.R_reads' HO_28.out).2.2 x30_2 p362 q362; cases e362; replace p362 := eq_true p362; replace q362 := eq_true q362; obtain ⟨Ao20, co20, eo20⟩ := Kd.R_slice HO_5.out; subst eo20
             have p363 : 0 ≤ ((rd t359 x30_2) : Int) := of_decide_eq_true (by first | (with_reducible assumption) | assumption)
             have q363 : (rd t359 x30_2) < (t350.length : Int) := of_decide_eq_true (by first | (with_reducible assumption) | assumption)
             obtain ⟨ad363, e363, hx363_0⟩ := Kd.at_int (Kd.R_reads' HO_5.out).2.2 (rd t359 x30_2) p363 q363; cases e363; replace p363 := eq_true p363; replace q363 := eq_true q363
             go_wp2
             go_roundg k2
             case measure => have := HK1.out; have := HK2.out; omega
             case rel => exact ⟨(Go.bits .and .i64 x9_2 (rd t350 (rd t359 x30_2))), (wrap64 (x30_2 + 1)), sz, sz, H', ⟨by have := HK1.out; have := HK2.out; omega⟩, ⟨kdQ HO_5⟩, ⟨kdQ HO_6⟩, ⟨kdQ HO_28⟩, ⟨beQ HB⟩⟩
            ·rw [if_neg c19] at H
             exact absurd H (by simp)
           ·rw [if_neg c18] at H
            exact absurd H (by simp)
          ·rw [if_neg c17] at H
           exact absurd H (by simp)
         ·rw [if_neg c16] at H
          exact absurd H (by simp)
        ·rw [if_neg c15] at H
         have c15b0 : decide (x30_2 < (t359.length : Int)) = false := decide_eq_false c15
         clear c15
         by_cases c21 : x9_2 = 0
         ·rw [if_pos c21] at H
          have c21b0 : (x9_2 == 0) = true := beq_iff_eq.mpr c21
          have c21b1 : (x9_2 != 0) = false := bne_eq_false_iff_eq.mpr c21
          clear c21
          by_cases c22 : x6_1.length < 17592186044416
          ·rw [if_pos c22] at H
           have LMc22 := Aside0.mk c22; clear c22
           obtain ⟨y364, hy364⟩ : ∃ y_ : List Int, y_ = (x6_1 ++ [(rd l1 x17_1)]) := ⟨_, rfl⟩
           replace H : (impl_largest.l0 k2 l0 t350 y364 l1 (l1.length : Int) (wrap64 (x17_1 + 1))) = some r := by first | (rw [hy364]; with_reducible exact H) | (have H2_ := (Option.bind_some _ _).symm.trans H; rw [hy364]; with_reducible exact H2_) | (have H2_ := (Option.bind_some _ _).symm.trans H; with_reducible exact H2_) | with_reducible exact H | (rw [hy364]; exact H) | exact H
           have Ny364 := Aside0.mk hy364; clear hy364
           have H' := Aside0.mk H
           clear H
           go_wp2_with (first | ((with_reducible refine gate_builtin (b := .append) (xs := #[.tmp 43, .tmp 45]) rfl ?_); at_builtin; refine Kd.R_append (Kd.int .i64) (w0 := w) w.heap.size rfl (.tmp 43) (.tmp 45) 22 2 (.int .i64 0) 8 rfl Tryd.underlying22 info2 rfl (by decide) (by omega) u6 x6_1 (rd l1 x17_1) [.int .i64 (rd l1 x17_1)] (fun k_ => some k_ ≠ (v351 : Value).ownBlock ∧ some k_ ≠ (.slice Ao14 t359.length co14 : Value).ownBlock) (fun _ => False) rfl rfl ?aP (fun _ hk => hk.elim) ?aF ?aO ?aB ?aS ?aL ?_; (case aP => exact rfl); (case aB => exact (beQ HB)); (case aF => exact (fun k_ hk => ⟨Kd.fresh' (Kd.R_lt (kdQ HO_5)) k_ hk, Kd.fresh' (Kd.R_lt (kdQ HO_28)) k_ hk⟩)); (case aO => exact (kdQ HO_6)); (case aS => exact (below_size (beQ HB))); (case aL => have := LMc22.out; omega); intro v365 w23 ho hb hg hat; rw [← Ny364.out] at ho; have n0_ := Aside0.mk (Kd.R_after (ok := (fun k_ => some k_ ≠ (.slice Ao14 t359.length co14 : Value).ownBlock)) (by (with_reducible repeat (first | apply Kd.R_alloc | apply Kd.R_drewN | apply Kd.R_drew)); exact Kd.R_mono HO_5.out (fun _ hk => ⟨hk.2, hk.1⟩)) hg hat); have n1_ := Aside0.mk (Kd.R_after (ok := (fun k_ => some k_ ≠ (v351 : Value).ownBlock)) (kdQ HO_28) hg hat); have n2_ := Aside0.mk (hb); have n3_ := Aside0.mk (ho); clear HO_5; clear HO_28; clear HB; clear HO_6; have HO_5 := n0_; have HO_28 := n1_; have HB := n2_; have HO366 := n3_; clear n0_ n1_ n2_ n3_; clear ho hb hg hat))
           go_roundg k2
           case measure => have := HK1.out; have := HK2.out; omega
           case rel => exact ⟨(y364), (wrap64 (x17_1 + 1)), sz, H', ⟨by have := HK1.out; have := HK2.out; omega⟩, ⟨by (with_reducible repeat (first | apply Kd.R_alloc | apply Kd.R_drewN | apply Kd.R_drew)); exact Kd.R_mono HO_5.out (fun _ hk => hk.2)⟩, ⟨by (with_reducible repeat (first | apply Kd.R_alloc | apply Kd.R_drewN | apply Kd.R_drew)); exact Kd.R_mono HO366.out (fun _ hk => hk.1)⟩, ⟨beQ HB⟩⟩
          ·rw [if_neg c22] at H
           exact absurd H (by simp)
         ·rw [if_neg c21] at H
          have c21b0 : (x9_2 == 0) = false := beq_eq_false_iff_ne.mpr c21
          have c21b1 : (x9_2 != 0) = true := bne_iff_ne.mpr c21
          have H' := Aside0.mk H
          clear H
          go_wp2
          go_roundg k2
          case measure => have := HK1.out; have := HK2.out; omega
          case rel => exact ⟨(x6_1), (wrap64 (x17_1 + 1)), sz, H', ⟨by have := HK1.out; have := HK2.out; omega⟩, ⟨by (with_reducible repeat (first | apply Kd.R_alloc | apply Kd.R_drewN | apply Kd.R_drew)); exact Kd.R_mono HO_5.out (fun _ hk => hk.1)⟩, ⟨by (with_reducible repeat (first | apply Kd.R_alloc | apply Kd.R_drewN | apply Kd.R_drew)); exact Kd.R_mono HO_6.out (fun _ hk => hk.1)⟩, ⟨beQ HB⟩⟩
     ·rw [if_neg c9] at H
      exact absurd H (by simp)
    ·rw [if_neg c8] at H
     exact absurd H (by simp)
   ·rw [if_neg c7] at H
    have c7b0 : decide (x17_1 < (l1.length : Int)) = false := decide_eq_false c7
    clear c7
    obtain rfl := Option.some.inj H
    go_wp2
    go_ret
    exact ⟨_, rz, by (with_reducible repeat (first | apply Kd.R_alloc | apply Kd.R_drewN | apply Kd.R_drew)); exact Kd.R_mono HO_6.out (fun _ hk => trivial), beQ HB⟩

/-! ### impl_MaximalCliques: function 15 -/
def impl_MaximalCliques.f (k : Nat) (l0 : List Int) : Option (List Int × Int) := (impl_CliquesOf.f k l0).bind fun bt367 => (if bt367.2 = 0 then ((impl_largest.f k l0 bt367.1).bind fun t371 => (some (t371, 0))) else (some (([] : List Int), bt367.2)))
theorem impl_MaximalCliques.mono : ∀ a0 k, LeO (impl_MaximalCliques.f k a0) (impl_MaximalCliques.f (k + 1) a0) := by
 intro a0 k
 unfold impl_MaximalCliques.f
 repeat' first
   | (with_reducible exact impl_CliquesOf.mono _ _)
   | (with_reducible exact impl_largest.mono _ _ _)
   | (with_reducible exact LeO.refl _)
   | (with_reducible exact LeO.none _)
   | (with_reducible refine LeO.ite ?_ ?_)
   | (with_reducible refine LeO.bind ?_ (fun _ => ?_))
   | exact impl_CliquesOf.mono _ _
   | exact impl_largest.mono _ _ _
   | exact LeO.none _
   | refine LeO.ite ?_ ?_
   | refine LeO.bind ?_ (fun _ => ?_)
set_option maxHeartbeats 8000000 in
set_option maxRecDepth 100000 in
theorem impl_MaximalCliques.calls (k : Nat) (A0 : Option Addr) (c0 : Nat) (l0 : List Int) (r1 : List Int) (r2 : Int) (w : World) (hr0 : Kd.C (Kd.int .i64) w A0 l0.length l0) (hc0 : l0.length ≤ c0) (hT : TabW w) (h : impl_MaximalCliques.f k l0 = some (r1, r2)) :
  Calls Tryd.prog 15 #[.slice A0 l0.length c0] w fun e w' => ∃ v0_ : Value, e = .returned (.tuple #[v0_, .int .i64 r2]) ∧ Kd.R (Kd.int .i64) 2 w' w.heap.size (fun _ => True) v0_ r1 ∧ Below w.heap.size w w' := by
 have HT := Aside0.mk hT; clear hT; have HR0 := Aside0.mk hr0; have HC0 := Aside0.mk hc0; clear hr0 hc0; have HB := Aside0.mk (Below.refl w.heap.size w)
 have H : ((impl_CliquesOf.f k l0).bind fun bt367 => (if bt367.2 = 0 then ((impl_largest.f k l0 bt367.1).bind fun t371 => (some (t371, 0))) else (some (([] : List Int), bt367.2)))) = some (r1, r2) := h
 clear h; replace H := Option.bind_eq_some_iff.mp H
 obtain ⟨⟨t367, t368⟩, A20, H⟩ := H
 replace H : (if t368 = 0 then ((impl_largest.f k l0 t367).bind fun t371 => (some (t371, 0))) else (some (([] : List Int), t368))) = some (r1, r2) := H
 have A2 := Aside0.mk A20; clear A20
 by_cases c3 : t368 = 0
 ·rw [if_pos c3] at H
  have c3b0 : (t368 == 0) = true := beq_iff_eq.mpr c3
  have c3b1 : (t368 != 0) = false := bne_eq_false_iff_eq.mpr c3
  clear c3; replace H := Option.bind_eq_some_iff.mp H; obtain ⟨t371, A40, H⟩ := H
  replace H : (some (t371, 0)) = some (r1, r2) := H
  have A4 := Aside0.mk A40; clear A40
  simp only [Option.some.injEq, Prod.mk.injEq] at H
  obtain ⟨rfl, rfl⟩ := H
  go_enter Tryd.func15, Tryd.ntmps15
  go_wp2_with (first | ((with_reducible refine gate_callee (f := 10) rfl ?_); refine goesL_ (some 8) rfl rfl Tryd.func10 (by kernel_rfl) rfl #[.slice A0 l0.length c0] rfl lz ?_; (with_reducible refine (impl_CliquesOf.calls k _ _ l0 t367 t368 _ ?side1 ?side2 ?side3 A2.out).mono ?_); (case side1 => have q_ := Aside0.mk HR0.out; exact cQ q_); (case side2 => exact HC0.out); (case side3 => exact TabW.below HT.out (beQ HB)); rintro e w5 ⟨v369, rfl, ho0, hb⟩; refine ⟨_, rfl, ?_⟩; have HO370 := Aside0.mk (Kd.R_lower ho0 (below_size (beQ HB))); replace HB := Aside0.mk (below_step (beQ HB) hb); (try clear hb); (try clear hb2); (try clear hk); (try clear hi); (try clear hgw_); (try clear ho0); obtain ⟨Ao6, co6, eo6⟩ := Kd.R_slice HO370.out; subst eo6) | ((with_reducible refine gate_callee (f := 38) rfl ?_); refine goesL_ (some 16) rfl rfl Tryd.func38 (by kernel_rfl) rfl #[.slice A0 l0.length c0, .slice Ao6 t367.length co6] rfl lz ?_; (with_reducible refine (impl_largest.calls k _ _ l0 _ _ t367 t371 _ ?side1 ?side2 ?side3 ?side4 ?side5 A4.out).mono ?_); (case side1 => have q_ := Aside0.mk (Kd.C_below HR0.out HB.out); exact cQ q_); (case side2 => exact HC0.out); (case side3 => have q_ := Aside0.mk (Kd.R_reads' HO370.out).2.2; exact cQ q_); (case side4 => exact (Kd.R_reads' HO370.out).2.1); (case side5 => exact TabW.below HT.out (beQ HB)); rintro e w7 ⟨v372, rfl, ho0, hb⟩; refine ⟨_, rfl, ?_⟩; have HO373 := Aside0.mk (Kd.R_lower (Kd.R_new' ho0 (Kd.R_lt (kdQ HO370))) (below_size (beQ HB))); replace HO370 := Aside0.mk (Kd.R_elder' (kdQ HO370) (Kd.R_base ho0) hb); replace HB := Aside0.mk (below_step (beQ HB) hb); (try clear hb); (try clear hb2); (try clear hk); (try clear hi); (try clear hgw_); (try clear ho0)))
  go_ret2
  exact ⟨_, rz, by (with_reducible repeat (first | apply Kd.R_alloc | apply Kd.R_drewN | apply Kd.R_drew)); exact Kd.R_mono HO373.out (fun _ hk => trivial), beQ HB⟩
 ·rw [if_neg c3] at H
  have c3b0 : (t368 == 0) = false := beq_eq_false_iff_ne.mpr c3
  have c3b1 : (t368 != 0) = true := bne_iff_ne.mpr c3
  simp only [Option.some.injEq, Prod.mk.injEq] at H
  obtain ⟨rfl, rfl⟩ := H
  go_enter Tryd.func15, Tryd.ntmps15
  go_wp2_with (first | ((with_reducible refine gate_callee (f := 10) rfl ?_); refine goesL_ (some 8) rfl rfl Tryd.func10 (by kernel_rfl) rfl #[.slice A0 l0.length c0] rfl lz ?_; (with_reducible refine (impl_CliquesOf.calls k _ _ l0 t367 t368 _ ?side1 ?side2 ?side3 A2.out).mono ?_); (case side1 => have q_ := Aside0.mk HR0.out; exact cQ q_); (case side2 => exact HC0.out); (case side3 => exact TabW.below HT.out (beQ HB)); rintro e w8 ⟨v369, rfl, ho0, hb⟩; refine ⟨_, rfl, ?_⟩; have HO370 := Aside0.mk (Kd.R_lower ho0 (below_size (beQ HB))); replace HB := Aside0.mk (below_step (beQ HB) hb); (try clear hb); (try clear hb2); (try clear hk); (try clear hi); (try clear hgw_); (try clear ho0)))
  go_ret2
  exact ⟨_, rz, by first | exact Kd.R_nil _ _ _ _ _ | exact Kd.N_nil _ _ _ _ _ | exact Kd.V_nil _ _ _ _ _ | exact Kd.Q_nil _ _ _ _ _ | exact Kd.S_nil _ _ _ _ _, beQ HB⟩

end Go.Proofs.YtjckfnaohikmbaaDoor.G
