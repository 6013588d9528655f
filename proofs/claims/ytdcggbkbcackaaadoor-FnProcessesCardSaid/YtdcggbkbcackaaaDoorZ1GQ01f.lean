-- A copy, with what one law needs, of a text that print.sh or a program of ours wrote
import Derived.Test.YtdcggbkbcackaaaDoorZ1G0
import Derived.Test.YtdcggbkbcackaaaDoorZ1GQ01b
import Derived.Test.YtdcggbkbcackaaaDoorZ1GQ01d
import Derived.Test.YtdcggbkbcackaaaDoorZ1GQ01e
namespace Go.Proofs.YtdcggbkbcackaaaDoor.G
open Go.RowKit Go.Proofs.YtdcggbkbcackaaaDoorW.PrintWords Go.Proofs.YtdcggbkbcackaaaDoorW.PrintLast Go.Proofs.YtdcggbkbcackaaaDoorW.PrintMore
attribute [local go_sem] max2_int min2_int max_two min_two max_three min_three max_four min_four   -- for this text's walks alone
set_option linter.unusedVariables false
set_option linter.unusedSimpArgs false
mutual
def impl_largest.l0 : Nat → List Int → List Int → List Int → List Int → Int → Int → Option (List Int)
 | 0, _, _, _, _, _, _ => none
 | k + 1, x0, x5, x6, x15, x16, x17 => if x17 < x16 then (if 0 ≤ x17 then (if x17 < (x15.length : Int) then ((impl_length_int64.f x0).bind fun t305 => ((impl_one.f t305).bind fun t306 => ((impl_members.f k (rd x15 x17)).bind fun t307 => (impl_largest.l1 k x0 x5 x6 (rd x15 x17) (Go.bits .andNot .i64 (wrap64 (t306 - 1)) (rd x15 x17)) x15 x16 x17 t307 (t307.length : Int) 0)))) else (none)) else (none)) else (some x6)
def impl_largest.l1 : Nat → List Int → List Int → List Int → Int → Int → List Int → Int → Int → List Int → Int → Int → Option (List Int)
 | 0, _, _, _, _, _, _, _, _, _, _, _ => none
 | k + 1, x0, x5, x6, x8, x9, x15, x16, x17, x28, x29, x30 => if x30 < x29 then (if 0 ≤ x30 then (if x30 < (x28.length : Int) then (if 0 ≤ (rd x28 x30) then (if (rd x28 x30) < (x5.length : Int) then (impl_largest.l1 k x0 x5 x6 x8 (Go.bits .and .i64 x9 (rd x5 (rd x28 x30))) x15 x16 x17 x28 x29 (wrap64 (x30 + 1))) else (none)) else (none)) else (none)) else (none)) else (if x9 = 0 then (if x6.length < 17592186044416 then (impl_largest.l0 k x0 x5 (x6 ++ [x8]) x15 x16 (wrap64 (x17 + 1))) else (none)) else (impl_largest.l0 k x0 x5 x6 x15 x16 (wrap64 (x17 + 1))))
end
def impl_largest.f (k : Nat) (l0 : List Int) (l1 : List Int) : Option (List Int) := (impl_mutual.f k l0).bind fun t298 => (impl_largest.l0 k l0 t298 (([] : List Int)) l1 (l1.length : Int) 0)
set_option maxHeartbeats 8000000 in
set_option maxRecDepth 100000 in
theorem impl_largest.calls (k : Nat) (A0 : Option Addr) (c0 : Nat) (l0 : List Int) (A1 : Option Addr) (c1 : Nat) (l1 : List Int) (r : List Int) (w : World) (hr0 : Kd.C (Kd.int .i64) w A0 l0.length l0) (hc0 : l0.length ≤ c0) (hr1 : Kd.C (Kd.int .i64) w A1 l1.length l1) (hc1 : l1.length ≤ c1) (hT : TabW w) (h : impl_largest.f k l0 l1 = some r) :
  Calls Tryd.prog 46 #[.slice A0 l0.length c0, .slice A1 l1.length c1] w fun e w' => ∃ v0_ : Value, e = .returned (v0_) ∧ Kd.R (Kd.int .i64) 2 w' w.heap.size (fun _ => True) v0_ r ∧ Below w.heap.size w w' := by
 have HT := Aside0.mk hT; clear hT; have HR0 := Aside0.mk hr0; have HC0 := Aside0.mk hc0; clear hr0 hc0; have HR1 := Aside0.mk hr1; have HC1 := Aside0.mk hc1; clear hr1 hc1; have HB := Aside0.mk (Below.refl w.heap.size w)
 have H : ((impl_mutual.f k l0).bind fun t298 => (impl_largest.l0 k l0 t298 (([] : List Int)) l1 (l1.length : Int) 0)) = some r := h
 clear h; replace H := Option.bind_eq_some_iff.mp H; obtain ⟨t298, A30, H⟩ := H
 replace H : (impl_largest.l0 k l0 t298 (([] : List Int)) l1 (l1.length : Int) 0) = some r := H
 have A3 := Aside0.mk A30; clear A30
 obtain ⟨y301, hy301⟩ : ∃ y_ : List Int, y_ = (([] : List Int)) := ⟨_, rfl⟩
 replace H : (impl_largest.l0 k l0 t298 y301 l1 (l1.length : Int) 0) = some r := by first | (rw [hy301]; with_reducible exact H) | (have H2_ := (Option.bind_some _ _).symm.trans H; rw [hy301]; with_reducible exact H2_) | (have H2_ := (Option.bind_some _ _).symm.trans H; with_reducible exact H2_) | with_reducible exact H | (rw [hy301]; exact H) | exact H
 have Ny301 := Aside0.mk hy301; clear hy301
 have H' := Aside0.mk H
 clear H
 go_enter Tryd.func46, Tryd.ntmps46
 go_wp2_with (first | ((with_reducible refine gate_callee (f := 55) rfl ?_); refine goesL_ (some 13) rfl rfl Tryd.func55 (by kernel_rfl) rfl #[.slice A0 l0.length c0] rfl lz ?_; (with_reducible refine (impl_mutual.calls k _ _ l0 t298 _ ?side1 ?side2 ?side3 A3.out).mono ?_); (case side1 => have q_ := Aside0.mk HR0.out; exact cQ q_); (case side2 => exact HC0.out); (case side3 => exact TabW.below HT.out (beQ HB)); rintro e w4 ⟨v299, rfl, ho0, hb⟩; refine ⟨_, rfl, ?_⟩; have HO300 := Aside0.mk (Kd.R_lower ho0 (below_size (beQ HB))); replace HB := Aside0.mk (below_step (beQ HB) hb); (try clear hb); (try clear hb2); (try clear hk); (try clear hi); (try clear hgw_); (try clear ho0)) | ((with_reducible refine gate_dst (N := 14) rfl ?_); refine Kd.R_lit (Kd.int .i64) _ 2 ?hg (N := 14) ?hd (xs := ([] : List Int)) (inner := []) (ok := fun _ => True) (okp := fun _ => True) ?hr ?hp (fun _ hk => hk) trivial (Below.refl _ _) (Nat.le_refl _) (by simp) ?_; (case hd => rfl); (case hg => rfl); (case hr => first | (go_simp; done) | (go_simp; rfl)); (case hp => exact (Reps.none _ _)); intro v302 w5 ho6 hb hg_ hnew_; clear hg_ hnew_; (first | rw [← Ny301.out] at ho6 | (simp only [Int.reduceToNat] at ho6; rw [← Ny301.out] at ho6)); have HO303 := Aside0.mk (Kd.R_lower (Kd.R_new' ho6 (Kd.R_lt (kdQ HO300))) (below_size (beQ HB))); replace HO300 := Aside0.mk (Kd.R_elder' (kdQ HO300) (Kd.R_base ho6) hb); replace HB := Aside0.mk (below_step (beQ HB) hb); clear hb ho6))
 go_loopg [6, 17] k (fun kq v6 v17 w' => ∃ (x6_1 : List Int) (x17_1 : Int), v17 = .int .i64 x17_1 ∧ Aside0 (impl_largest.l0 kq l0 t298 x6_1 l1 (l1.length : Int) x17_1 = some r) ∧ Aside0 (kq ≤ k) ∧ Aside0 (Kd.R (Kd.int .i64) 2 w' w.heap.size (fun k_ => some k_ ≠ (v6 : Value).ownBlock) v299 t298) ∧ Aside0 (Kd.R (Kd.int .i64) 2 w' w.heap.size (fun k_ => some k_ ≠ (v299 : Value).ownBlock) v6 x6_1) ∧ Aside0 (Below w.heap.size w w'))
 case atStart => exact ⟨(y301), (0), sz, H', ⟨Nat.le_refl _⟩, ⟨by (with_reducible repeat (first | apply Kd.R_alloc | apply Kd.R_drewN | apply Kd.R_drew)); exact Kd.R_mono HO300.out (fun _ hk => hk.2)⟩, ⟨by (with_reducible repeat (first | apply Kd.R_alloc | apply Kd.R_drewN | apply Kd.R_drew)); exact Kd.R_mono HO303.out (fun _ hk => hk.2)⟩, ⟨beQ HB⟩⟩
 case round =>
  clear H'
  try clear c1
  try clear p2
  try clear c4
  try clear c5
  obtain ⟨x6_1, x17_1, rfl, HA, HK1, HO_5, HO_6, HB⟩ := hrel
  cases gk with
  | zero => exact absurd HA.out (by simp [impl_largest.l0])
  | succ k1 =>
   have H := HA.out; clear HA
   simp only [impl_largest.l0] at H
   by_cases c7 : x17_1 < (l1.length : Int)
   ·rw [if_pos c7] at H
    have c7b0 : decide (x17_1 < (l1.length : Int)) = true := decide_eq_true c7
    clear c7
    by_cases c8 : 0 ≤ x17_1
    ·rw [if_pos c8] at H
     have c8b0 : decide (0 ≤ x17_1) = true := decide_eq_true c8
     clear c8
     by_cases c9 : x17_1 < (l1.length : Int)
     ·rw [if_pos c9] at H
      have c9b0 : decide (x17_1 < (l1.length : Int)) = true := decide_eq_true c9
      clear c9; replace H := Option.bind_eq_some_iff.mp H; obtain ⟨t305, A100, H⟩ := H
      replace H : ((impl_one.f t305).bind fun t306 => ((impl_members.f k1 (rd l1 x17_1)).bind fun t307 => (impl_largest.l1 k1 l0 t298 x6_1 (rd l1 x17_1) (Go.bits .andNot .i64 (wrap64 (t306 - 1)) (rd l1 x17_1)) l1 (l1.length : Int) x17_1 t307 (t307.length : Int) 0))) = some r := H
      have A10 := Aside0.mk A100; clear A100; replace H := Option.bind_eq_some_iff.mp H; obtain ⟨t306, A110, H⟩ := H
      replace H : ((impl_members.f k1 (rd l1 x17_1)).bind fun t307 => (impl_largest.l1 k1 l0 t298 x6_1 (rd l1 x17_1) (Go.bits .andNot .i64 (wrap64 (t306 - 1)) (rd l1 x17_1)) l1 (l1.length : Int) x17_1 t307 (t307.length : Int) 0)) = some r := H
      have A11 := Aside0.mk A110; clear A110; replace H := Option.bind_eq_some_iff.mp H; obtain ⟨t307, A120, H⟩ := H
      replace H : (impl_largest.l1 k1 l0 t298 x6_1 (rd l1 x17_1) (Go.bits .andNot .i64 (wrap64 (t306 - 1)) (rd l1 x17_1)) l1 (l1.length : Int) x17_1 t307 (t307.length : Int) 0) = some r := H
      have A12 := Aside0.mk A120; clear A120
      have H' := Aside0.mk H
      clear H
      have p304 : 0 ≤ (x17_1 : Int) := of_decide_eq_true (by first | (with_reducible assumption) | assumption)
      have q304 : x17_1 < (l1.length : Int) := of_decide_eq_true (by first | (with_reducible assumption) | assumption)
      obtain ⟨ad304, e304, hx304_0⟩ := Kd.at_int HR1.out x17_1 p304 q304; cases e304; replace hx304_0 := (HB.out.cell (World.block_lt_of_cell? w _ hx304_0)).trans hx304_0; replace p304 := eq_true p304; replace q304 := eq_true q304
      go_wp2_with (first | ((with_reducible refine gate_callee (f := 40) rfl ?_); refine goesL_ (some 22) rfl rfl Tryd.func40 (by kernel_rfl) rfl #[.slice A0 l0.length c0] rfl lz ?_; (with_reducible refine (impl_length_int64.calls _ _ l0 t305 _ ?side1 ?side2 A10.out).mono ?_); (case side1 => have q_ := Aside0.mk (Kd.C_below HR0.out HB.out); exact cQ q_); (case side2 => exact HC0.out); rintro e w' ⟨rfl, ⟨nd, rfl⟩⟩; refine ⟨_, rfl, ?_⟩) | ((with_reducible refine gate_callee (f := 51) rfl ?_); refine goesL_ (some 23) rfl rfl Tryd.func51 (by kernel_rfl) rfl #[.int .i64 t305] rfl lz ?_; (with_reducible refine (impl_one.calls t305 t306 _ A11.out).mono ?_); rintro e w' ⟨rfl, ⟨nd, rfl⟩⟩; refine ⟨_, rfl, ?_⟩) | ((with_reducible refine gate_callee (f := 53) rfl ?_); refine goesL_ (some 28) rfl rfl Tryd.func53 (by kernel_rfl) rfl #[.int .i64 (rd l1 x17_1)] rfl lz ?_; (with_reducible refine (impl_members.calls k1 (rd l1 x17_1) t307 _ ?side1 A12.out).mono ?_); (case side1 => exact TabW.below HT.out (beQ HB)); rintro e w13 ⟨v308, rfl, ho0, hb⟩; refine ⟨_, rfl, ?_⟩; have HO309 := Aside0.mk (Kd.R_lower (Kd.R_new' (Kd.R_new' ho0 (Kd.R_lt (kdQ HO_5))) (Kd.R_lt (kdQ HO_6))) (below_size (beQ HB))); replace HO_5 := Aside0.mk (Kd.R_elder' (kdQ HO_5) (Kd.R_base ho0) hb); replace HO_6 := Aside0.mk (Kd.R_elder' (kdQ HO_6) (Kd.R_base ho0) hb); replace HB := Aside0.mk (below_step (beQ HB) hb); (try clear hb); (try clear hb2); (try clear hk); (try clear hi); (try clear hgw_); (try clear ho0); obtain ⟨Ao14, co14, eo14⟩ := Kd.R_slice HO309.out; subst eo14))
      go_loopg [9, 30] k1 (fun kq v9 v30 w' => ∃ (x9_2 : Int) (x30_2 : Int), v9 = .int .i64 x9_2 ∧ v30 = .int .i64 x30_2 ∧ Aside0 (impl_largest.l1 kq l0 t298 x6_1 (rd l1 x17_1) x9_2 l1 (l1.length : Int) x17_1 t307 (t307.length : Int) x30_2 = some r) ∧ Aside0 (kq ≤ k1) ∧ Aside0 (Kd.R (Kd.int .i64) 2 w' w.heap.size (fun k_ => some k_ ≠ (u6 : Value).ownBlock ∧ some k_ ≠ ((.slice Ao14 t307.length co14) : Value).ownBlock) v299 t298) ∧ Aside0 (Kd.R (Kd.int .i64) 2 w' w.heap.size (fun k_ => some k_ ≠ (v299 : Value).ownBlock ∧ some k_ ≠ ((.slice Ao14 t307.length co14) : Value).ownBlock) u6 x6_1) ∧ Aside0 (Kd.R (Kd.int .i64) 2 w' w.heap.size (fun k_ => some k_ ≠ (v299 : Value).ownBlock ∧ some k_ ≠ (u6 : Value).ownBlock) (.slice Ao14 t307.length co14) t307) ∧ Aside0 (Below w.heap.size w w'))
      case atStart => exact ⟨(Go.bits .andNot .i64 (wrap64 (t306 - 1)) (rd l1 x17_1)), (0), sz, sz, H', ⟨Nat.le_refl _⟩, ⟨kdQ HO_5⟩, ⟨kdQ HO_6⟩, ⟨by (with_reducible repeat (first | apply Kd.R_alloc | apply Kd.R_drewN | apply Kd.R_drew)); exact Kd.R_mono HO309.out (fun _ hk => ⟨hk.1.2, hk.2⟩)⟩, ⟨beQ HB⟩⟩
      case round =>
       clear H'
       try clear c1
       try clear p2
       try clear p3
       try clear q3
       try clear hx3
       try clear c4
       try clear c5
       try clear p6
       try clear c7
       try clear c7b0
       try clear c8
       try clear c8b0
       try clear c9
       try clear c9b0
       try clear hx304_0
       try clear p2
       try clear p304
       try clear q304
       obtain ⟨x9_2, x30_2, rfl, rfl, HA, HK2, HO_5, HO_6, HO_28, HB⟩ := hrel
       cases gk with
       | zero => exact absurd HA.out (by simp [impl_largest.l1])
       | succ k2 =>
        have H := HA.out; clear HA
        simp only [impl_largest.l1] at H
        by_cases c15 : x30_2 < (t307.length : Int)
        ·rw [if_pos c15] at H
         have c15b0 : decide (x30_2 < (t307.length : Int)) = true := decide_eq_true c15
         clear c15
         by_cases c16 : 0 ≤ x30_2
         ·rw [if_pos c16] at H
          have c16b0 : decide (0 ≤ x30_2) = true := decide_eq_true c16
          clear c16
          by_cases c17 : x30_2 < (t307.length : Int)
          ·rw [if_pos c17] at H
           have c17b0 : decide (x30_2 < (t307.length : Int)) = true := decide_eq_true c17
           clear c17
           by_cases c18 : 0 ≤ (rd t307 x30_2)
           ·rw [if_pos c18] at H
            have c18b0 : decide (0 ≤ (rd t307 x30_2)) = true := decide_eq_true c18
            clear c18
            by_cases c19 : (rd t307 x30_2) < (t298.length : Int)
            ·rw [if_pos c19] at H
             have c19b0 : decide ((rd t307 x30_2) < (t298.length : Int)) = true := decide_eq_true c19
             clear c19
             have H' := Aside0.mk H
             clear H
             have p310 : 0 ≤ (x30_2 : Int) := of_decide_eq_true (by first | (with_reducible assumption) | assumption)
             have q310 : x30_2 < (t307.length : Int) := of_decide_eq_true (by first | (with_reducible assumption) | assumption)
             obtain ⟨ad310, e310, hx310_0⟩ := Kd.at_int (Kd.R_reads' HO_28.out).2.2 x30_2 p310 q310; cases e310; replace p310 := eq_true p310; replace q310 := eq_true q310; obtain ⟨Ao20, co20, eo20⟩ := Kd.R_slice HO_5.out; subst eo20
             have p311 : 0 ≤ ((rd t307 x30_2) : Int) := of_decide_eq_true (by first | (with_reducible assumption) | assumption)
             have q311 : (rd t307 x30_2) < (t298.length : Int) := of_decide_eq_true (by first | (with_reducible assumption) | assumption)
             obtain ⟨ad311, e311, hx311_0⟩ := Kd.at_int (Kd.R_reads' HO_5.out).2.2 (rd t307 x30_2) p311 q311; cases e311; replace p311 := eq_true p311; replace q311 := eq_true q311
             go_wp2
             go_roundg k2
             case measure => have := HK1.out; have := HK2.out; omega
             case rel => exact ⟨(Go.bits .and .i64 x9_2 (rd t298 (rd t307 x30_2))), (wrap64 (x30_2 + 1)), sz, sz, H', ⟨by have := HK1.out; have := HK2.out; omega⟩, ⟨kdQ HO_5⟩, ⟨kdQ HO_6⟩, ⟨kdQ HO_28⟩, ⟨beQ HB⟩⟩
            ·rw [if_neg c19] at H
             exact absurd H (by simp)
           ·rw [if_neg c18] at H
            exact absurd H (by simp)
          ·rw [if_neg c17] at H
           exact absurd H (by simp)
         ·rw [if_neg c16] at H
          exact absurd H (by simp)
        ·rw [if_neg c15] at H
         have c15b0 : decide (x30_2 < (t307.length : Int)) = false := decide_eq_false c15
         clear c15
         by_cases c21 : x9_2 = 0
         ·rw [if_pos c21] at H
          have c21b0 : (x9_2 == 0) = true := beq_iff_eq.mpr c21
          have c21b1 : (x9_2 != 0) = false := bne_eq_false_iff_eq.mpr c21
          clear c21
          by_cases c22 : x6_1.length < 17592186044416
          ·rw [if_pos c22] at H
           have LMc22 := Aside0.mk c22; clear c22
           obtain ⟨y312, hy312⟩ : ∃ y_ : List Int, y_ = (x6_1 ++ [(rd l1 x17_1)]) := ⟨_, rfl⟩
           replace H : (impl_largest.l0 k2 l0 t298 y312 l1 (l1.length : Int) (wrap64 (x17_1 + 1))) = some r := by first | (rw [hy312]; with_reducible exact H) | (have H2_ := (Option.bind_some _ _).symm.trans H; rw [hy312]; with_reducible exact H2_) | (have H2_ := (Option.bind_some _ _).symm.trans H; with_reducible exact H2_) | with_reducible exact H | (rw [hy312]; exact H) | exact H
           have Ny312 := Aside0.mk hy312; clear hy312
           have H' := Aside0.mk H
           clear H
           go_wp2_with (first | ((with_reducible refine gate_builtin (b := .append) (xs := #[.tmp 43, .tmp 45]) rfl ?_); at_builtin; refine Kd.R_append (Kd.int .i64) (w0 := w) w.heap.size rfl (.tmp 43) (.tmp 45) 22 2 (.int .i64 0) 8 rfl Tryd.underlying22 info2 rfl (by decide) (by omega) u6 x6_1 (rd l1 x17_1) [.int .i64 (rd l1 x17_1)] (fun k_ => some k_ ≠ (v299 : Value).ownBlock ∧ some k_ ≠ (.slice Ao14 t307.length co14 : Value).ownBlock) (fun _ => False) rfl rfl ?aP (fun _ hk => hk.elim) ?aF ?aO ?aB ?aS ?aL ?_; (case aP => exact rfl); (case aB => exact (beQ HB)); (case aF => exact (fun k_ hk => ⟨Kd.fresh' (Kd.R_lt (kdQ HO_5)) k_ hk, Kd.fresh' (Kd.R_lt (kdQ HO_28)) k_ hk⟩)); (case aO => exact (kdQ HO_6)); (case aS => exact (below_size (beQ HB))); (case aL => have := LMc22.out; omega); intro v313 w23 ho hb hg hat; rw [← Ny312.out] at ho; have n0_ := Aside0.mk (Kd.R_after (ok := (fun k_ => some k_ ≠ (.slice Ao14 t307.length co14 : Value).ownBlock)) (by (with_reducible repeat (first | apply Kd.R_alloc | apply Kd.R_drewN | apply Kd.R_drew)); exact Kd.R_mono HO_5.out (fun _ hk => ⟨hk.2, hk.1⟩)) hg hat); have n1_ := Aside0.mk (Kd.R_after (ok := (fun k_ => some k_ ≠ (v299 : Value).ownBlock)) (kdQ HO_28) hg hat); have n2_ := Aside0.mk (hb); have n3_ := Aside0.mk (ho); clear HO_5; clear HO_28; clear HB; clear HO_6; have HO_5 := n0_; have HO_28 := n1_; have HB := n2_; have HO314 := n3_; clear n0_ n1_ n2_ n3_; clear ho hb hg hat))
           go_roundg k2
           case measure => have := HK1.out; have := HK2.out; omega
           case rel => exact ⟨(y312), (wrap64 (x17_1 + 1)), sz, H', ⟨by have := HK1.out; have := HK2.out; omega⟩, ⟨by (with_reducible repeat (first | apply Kd.R_alloc | apply Kd.R_drewN | apply Kd.R_drew)); exact Kd.R_mono HO_5.out (fun _ hk => hk.2)⟩, ⟨by (with_reducible repeat (first | apply Kd.R_alloc | apply Kd.R_drewN | apply Kd.R_drew)); exact Kd.R_mono HO314.out (fun _ hk => hk.1)⟩, ⟨beQ HB⟩⟩
          ·rw [if_neg c22] at H
           exact absurd H (by simp)
         ·rw [if_neg c21] at H
          have c21b0 : (x9_2 == 0) = false := beq_eq_false_iff_ne.mpr c21
          have c21b1 : (x9_2 != 0) = true := bne_iff_ne.mpr c21
          have H' := Aside0.mk H
          clear H
          go_wp2
          go_roundg k2
          case measure => have := HK1.out; have := HK2.out; omega
          case rel => exact ⟨(x6_1), (wrap64 (x17_1 + 1)), sz, H', ⟨by have := HK1.out; have := HK2.out; omega⟩, ⟨by (with_reducible repeat (first | apply Kd.R_alloc | apply Kd.R_drewN | apply Kd.R_drew)); exact Kd.R_mono HO_5.out (fun _ hk => hk.1)⟩, ⟨by (with_reducible repeat (first | apply Kd.R_alloc | apply Kd.R_drewN | apply Kd.R_drew)); exact Kd.R_mono HO_6.out (fun _ hk => hk.1)⟩, ⟨beQ HB⟩⟩
     ·rw [if_neg c9] at H
      exact absurd H (by simp)
    ·rw [if_neg c8] at H
     exact absurd H (by simp)
   ·rw [if_neg c7] at H
    have c7b0 : decide (x17_1 < (l1.length : Int)) = false := decide_eq_false c7
    clear c7
    obtain rfl := Option.some.inj H
    go_wp2
    go_ret
    exact ⟨_, rz, by (with_reducible repeat (first | apply Kd.R_alloc | apply Kd.R_drewN | apply Kd.R_drew)); exact Kd.R_mono HO_6.out (fun _ hk => trivial), beQ HB⟩
def delZ (l : List Int) : Option (List Int) := if l.all (fun x => !decide (x = 0)) then some l else if l = [0] then some [] else none
theorem run_clear1 {P : Program} (w : World) (t ty e : TypeId) (g c : Nat) (u : Value) (hu : P.underlying t = some (.slice e)) (hz : (zeroValue e).run P w = .ok (.int .i64 0) w) (hc : w.cell? ⟨g, 0, none⟩ = some u) (hf : w.frozen? ⟨g, 0, none⟩ = false) :
    (Builtin.clear_ #[t] ty #[.slice (some ⟨g, 0, none⟩) 1 c]).run P w = .ok (.tuple #[]) (w.setCell ⟨g, 0, none⟩ (.int .i64 0)) := by
  have hst := run_storeCells_cells (P := P) g 0 [.int .i64 0] 0 w (by simp [hc]) (by simp [hf]) (by simp [Value.oneCell'])
  simp only [World.setCells, Nat.zero_add] at hst
  have hzc : (Builtin.zeroCells (Value.int .i64 0).cells 1).toList = [.int .i64 0] := by simp [Builtin.zeroCells, Value.cells, List.range_succ]
  simp [Builtin.clear_, run_underlying hu, hz, hzc, hst]
theorem run_zero {P : Program} (w : World) {e : TypeId} {z : Value} {s b : Nat} (hi : (P.info? e).map (fun i => (i.zero, i.size, i.bytes)) = some (some z, s, b)) : (zeroValue e).run P w = .ok z w := by
  cases h : P.info? e with
  | none => rw [h] at hi; cases hi
  | some i =>
    rw [h] at hi
    have hz : i.zero = some z := by
      have := Option.some.inj hi
      exact congrArg (fun x => x.1) this
    simp [zeroValue, typeInfo, h, hz]
theorem R_zero {w : World} {base : Nat} {v : Value} {l : List Int} (h : Kd.R (Kd.int .i64) 2 w base (fun _ => True) v l) (hl : l = [0]) : ∃ g c, v = .slice (some ⟨g, 0, none⟩) 1 c ∧ base ≤ g ∧ w.cell? ⟨g, 0, none⟩ = some (.int .i64 0) ∧ w.frozen? ⟨g, 0, none⟩ = false ∧ Kd.R (Kd.int .i64) 2 (w.setCell ⟨g, 0, none⟩ (.int .i64 0)) base (fun _ => True) (.slice (some ⟨g, 0, none⟩) 0 c) [] := by
  subst hl
  have hR := h
  obtain ⟨_, inner, ho, _⟩ := h
  rcases ho.2 with ⟨_, h0⟩ | ⟨g, cap, cur, rfl, hg, hh, hn, hm, hs, ht⟩
  · cases h0
  · refine ⟨g, cap, rfl, hg, ?_, blk_frozen hh 0, ?_⟩
    · exact (Kd.R_cell (enc := Value.int .i64) 0 hR 0 (by omega) (by simp)).1
    · exact ⟨fun _ _ => trivial, [], ⟨rfl, .inr ⟨g, cap, _, rfl, hg, blk_set hh 0 _, Nat.zero_le _, hm, by rw [Array.size_setIfInBounds]; exact hs, rfl⟩⟩, Reps.none _ _⟩
set_option maxHeartbeats 2000000 in
theorem del_pred (x : Int) (q : Nat) (w : World) :
    Calls Tryd.prog 47 (#[.int .i64 x] ++ #[]) (w.drewN q) fun e w' => e = .returned (.bool (decide (x = 0))) ∧ ∃ q', w' = (w.drewN q).drewN q' := by
  have e0 : (#[.int .i64 x] ++ #[] : Array Value) = #[.int .i64 x] := by simp
  rw [e0]
  have hd : (x == 0) = decide (x = 0) := by rw [Bool.eq_iff_iff, beq_iff_eq, decide_eq_true_iff]
  have HD := Aside0.mk hd
  clear hd e0
  go_enter Tryd.func47, Tryd.ntmps47
  go_wp2
  go_ret
  exact ⟨by rw [HD.out]; rfl, ⟨0, rfl⟩⟩
set_option maxHeartbeats 4000000 in
theorem del_any (base : Nat) (l r : List Int) (v : Value) (w : World) (h : Kd.R (Kd.int .i64) 2 w base (fun _ => True) v l) (hb : base ≤ w.heap.size) (hr : delZ l = some r) :
    Calls Tryd.prog 45 #[v, .func (.func 47) #[] #[]] w fun e w' => ∃ v' : Value, e = .returned v' ∧ Kd.R (Kd.int .i64) 2 w' base (fun _ => True) v' r ∧ Below base w w' := by
  have EG := Aside0.mk (enters_of Tryd.func47 (by kernel_rfl) rfl)
  have HB0 := Aside0.mk (Below.refl base w)
  obtain ⟨A0, c0, e0, hc0, hC⟩ := Kd.R_reads h
  have hcon := IndexFuncInt.any (fun x => decide (x = 0)) 47 #[] EG.out A0 c0 l w hC (fun x q => del_pred x q w)
  have hu := Tryd.underlying22
  unfold delZ at hr
  by_cases hall : (l.all fun x => !decide (x = 0)) = true
  · rw [if_pos hall] at hr
    obtain rfl := Option.some.inj hr
    have hi : idxP (fun x => decide (x = 0)) l = -1 := idxP_miss (fun j hj => by
      rw [List.all_eq_true] at hall
      have := hall _ (List.getElem_mem hj)
      simpa using this)
    rw [hi] at hcon
    have HC := Aside0.mk hcon
    have HR := Aside0.mk h
    clear hi hall hr hcon hC h hb EG
    subst e0
    go_enter Tryd.func45, Tryd.ntmps45
    go_wp2_with (go_at_call 57; refine HC.out.mono ?_; rintro e w' ⟨rfl, ⟨q, rfl⟩⟩)
    go_ret
    exact ⟨_, rfl, by repeat (first | exact HR.out | apply Kd.R_drewN), by repeat (first | exact HB0.out | apply pw_below_drewN)⟩
  · rw [if_neg hall] at hr
    by_cases hl : l = [0]
    · rw [if_pos hl] at hr
      obtain rfl := Option.some.inj hr
      obtain ⟨g, c, e1, hg, hcell, hfz, hR⟩ := R_zero h hl
      rw [e0] at e1
      subst hl
      injection e1 with e2 e3 e4
      subst e2 e4
      have hi : idxP (fun x => decide (x = 0)) [0] = 0 := by rfl
      rw [hi] at hcon
      subst e0
      simp only [List.length_singleton] at hcon ⊢
      have HC := Aside0.mk hcon
      have HR := Aside0.mk hR
      have HG := Aside0.mk hg
      clear hi hall hr hcon hC h hR hg EG
      have HZ := Aside0.mk hcell
      have HF := Aside0.mk hfz
      go_enter Tryd.func45, Tryd.ntmps45
      go_wp2_with (go_at_call 57; refine HC.out.mono ?_; rintro e w' ⟨rfl, ⟨q, rfl⟩⟩)
      go_loopg [5, 6, 7] 0 (fun gg s5 s6 _ wr => s5 = .int .i64 0 ∧ s6 = .int .i64 1 ∧ wr = w.drewN q)
      case atStart => exact ⟨rfl, rfl, rfl⟩
      case round =>
        obtain ⟨rfl, rfl, rfl⟩ := hrel
        have hcl : ∀ ty, (Builtin.clear_ #[22] ty #[.slice (some ⟨g, 0, none⟩) 1 c0]).run Tryd.prog (w.drewN q) = .ok (.tuple #[]) ((w.drewN q).setCell ⟨g, 0, none⟩ (.int .i64 0)) := fun ty => run_clear1 _ _ ty 2 g c0 _ hu (run_zero _ info2) HZ.out HF.out
        go_wp2
        go_ret
        exact ⟨_, rfl, Kd.R_drewN HR.out q, (pw_below_drewN HB0.out q).setCell HG.out _⟩
    · rw [if_neg hl] at hr
      cases hr
def impl_processesOf.f (k : Nat) (a0_0 : Int) (l0_1 : List Int) : Option (List Int) := (impl_cliques.f k l0_1).bind fun bt => (impl_largest.f k l0_1 bt.1).bind fun L => delZ L
set_option maxHeartbeats 4000000 in
theorem impl_processesOf.calls (k : Nat) (a0_0 : Int) (A0_1 : Option Addr) (c0_1 : Nat) (l0_1 : List Int) (r : List Int) (w : World) (hr0_1 : Kd.C (Kd.int .i64) w A0_1 l0_1.length l0_1) (hc0_1 : l0_1.length ≤ c0_1) (hT : TabW w) (h : impl_processesOf.f k a0_0 l0_1 = some r) :
    Calls Tryd.prog 27 #[.agg #[.int .i64 a0_0, .slice A0_1 l0_1.length c0_1]] w fun e w' => ∃ v0_ : Value, e = .returned (v0_) ∧ Kd.R (Kd.int .i64) 2 w' w.heap.size (fun _ => True) v0_ r ∧ Below w.heap.size w w' := by
  have hu := Tryd.underlying28
  have HT := Aside0.mk hT
  have HR0 := Aside0.mk hr0_1
  have HC0 := Aside0.mk hc0_1
  have HB := Aside0.mk (Below.refl w.heap.size w)
  clear hT hr0_1 hc0_1
  unfold impl_processesOf.f at h
  replace h := Option.bind_eq_some_iff.mp h
  obtain ⟨⟨L, c⟩, hL, h⟩ := h
  replace h := Option.bind_eq_some_iff.mp h
  obtain ⟨M, hM, h⟩ := h
  have AL := Aside0.mk hL
  have AM := Aside0.mk hM
  have AD := Aside0.mk h
  clear hL hM h
  go_enter Tryd.func27, Tryd.ntmps27
  go_wp2_with (first
    | ((with_reducible refine gate_dst (N := 1) rfl ?_); refine box_event ?hg (N := 1) ?hd (cs := #[.int .i64 a0_0, .slice A0_1 l0_1.length c0_1]) (t := 28) ?hr ?_; (case hd => rfl); (case hg => rfl); (case hr => first | (go_simp; done) | (go_simp; rfl)); intro gb hg w4 hbox hb; have BK := Aside0.mk hbox; have HB0 := Aside0.mk (below_step HB.out hb); clear hb hbox hg; have hcz0 : w4.cell? ⟨gb, 0, none⟩ = some (.int .i64 a0_0) := bc BK 0; have hcz1 : w4.cell? ⟨gb, 1, none⟩ = some (.slice A0_1 l0_1.length c0_1) := bc BK 1)
    | (go_at_call 44; refine (impl_cliques.calls k A0_1 c0_1 l0_1 L c _ ?s1 HC0.out ?s2 AL.out).mono ?_; (case s1 => exact Kd.C_below HR0.out HB0.out); (case s2 => exact HT.out.below HB0.out); rintro e w1 ⟨v1, rfl, ho1, hb1⟩; obtain ⟨A1, c1, e1, hc1, hC1⟩ := Kd.R_reads ho1; subst e1; have HC1 := Aside0.mk hc1; have HR1 := Aside0.mk hC1; have HB1 := Aside0.mk (below_step HB0.out hb1); have BK1 := Aside0.mk (blk_below BK.out hb1); clear ho1 hc1 hC1 hb1; have hcz0' : w1.cell? ⟨gb, 0, none⟩ = some (.int .i64 a0_0) := bc BK1 0; have hcz1' : w1.cell? ⟨gb, 1, none⟩ = some (.slice A0_1 l0_1.length c0_1) := bc BK1 1)
    | (go_at_call 46; refine (impl_largest.calls k A0_1 c0_1 l0_1 A1 c1 L M _ ?s1 HC0.out HR1.out HC1.out ?s2 AM.out).mono ?_; (case s1 => exact Kd.C_below HR0.out HB1.out); (case s2 => exact HT.out.below HB1.out); rintro e w2 ⟨v2, rfl, ho2, hb2⟩; have HB2 := Aside0.mk (below_step HB1.out hb2); have HO2 := Aside0.mk (Kd.R_lower ho2 (below_size HB1.out)); clear ho2 hb2)
    | (go_at_call 45; refine (del_any w.heap.size M r v2 _ HO2.out (below_size HB2.out) AD.out).mono ?_; rintro e w3 ⟨v3, rfl, ho3, hb3⟩; have HB3 := Aside0.mk (HB2.out.trans hb3); have HO3 := Aside0.mk ho3; clear ho3 hb3))
  go_ret
  exact ⟨_, rfl, HO3.out, HB3.out⟩
def impl_ProcessesOf.f (k : Nat) (a0_0 : Int) (l0_1 : List Int) : Option (List Int × Int) := (impl_IsAlphabet.f k a0_0 l0_1).bind fun t316 => (if t316 = true then ((impl_processesOf.f k a0_0 l0_1).bind fun t317 => (if (t317.length : Int) > 16 then (some (([] : List Int), 3)) else (some (t317, 0)))) else (some (([] : List Int), 1)))
set_option maxHeartbeats 8000000 in
set_option maxRecDepth 100000 in
theorem impl_ProcessesOf.calls (k : Nat) (a0_0 : Int) (A0_1 : Option Addr) (c0_1 : Nat) (l0_1 : List Int) (r1 : List Int) (r2 : Int) (w : World) (hr0_1 : Kd.C (Kd.int .i64) w A0_1 l0_1.length l0_1) (hc0_1 : l0_1.length ≤ c0_1) (hT : TabW w) (h : impl_ProcessesOf.f k a0_0 l0_1 = some (r1, r2)) :
  Calls Tryd.prog 8 #[.agg #[.int .i64 a0_0, .slice A0_1 l0_1.length c0_1]] w fun e w' => ∃ v0_ : Value, e = .returned (.tuple #[v0_, .int .i64 r2]) ∧ Kd.R (Kd.int .i64) 2 w' w.heap.size (fun _ => True) v0_ r1 ∧ Below w.heap.size w w' := by
 have hu28 := Tryd.underlying28; have HT := Aside0.mk hT; clear hT; have HR0_1 := Aside0.mk hr0_1; have HC0_1 := Aside0.mk hc0_1; clear hr0_1 hc0_1; have HB := Aside0.mk (Below.refl w.heap.size w)
 have H : ((impl_IsAlphabet.f k a0_0 l0_1).bind fun t316 => (if t316 = true then ((impl_processesOf.f k a0_0 l0_1).bind fun t317 => (if (t317.length : Int) > 16 then (some (([] : List Int), 3)) else (some (t317, 0)))) else (some (([] : List Int), 1)))) = some (r1, r2) := h
 clear h; replace H := Option.bind_eq_some_iff.mp H; obtain ⟨t316, A20, H⟩ := H
 replace H : (if t316 = true then ((impl_processesOf.f k a0_0 l0_1).bind fun t317 => (if (t317.length : Int) > 16 then (some (([] : List Int), 3)) else (some (t317, 0)))) else (some (([] : List Int), 1))) = some (r1, r2) := H
 have A2 := Aside0.mk A20; clear A20
 by_cases c3 : t316 = true
 ·subst c3
  have H1 : ((impl_processesOf.f k a0_0 l0_1).bind fun t317 => (if (t317.length : Int) > 16 then (some (([] : List Int), 3)) else (some (t317, 0)))) = some (r1, r2) := by rw [if_pos rfl] at H; exact H
  clear H; have H := H1; clear H1; replace H := Option.bind_eq_some_iff.mp H; obtain ⟨t317, A40, H⟩ := H
  replace H : (if (t317.length : Int) > 16 then (some (([] : List Int), 3)) else (some (t317, 0))) = some (r1, r2) := H
  have A4 := Aside0.mk A40; clear A40
  by_cases c5 : (t317.length : Int) > 16
  ·rw [if_pos c5] at H
   have c5b0 : decide (16 < (t317.length : Int)) = true := decide_eq_true c5
   have c5b1 : decide (16 < t317.length) = true := decide_eq_true (by omega)
   clear c5
   simp only [Option.some.injEq, Prod.mk.injEq] at H
   obtain ⟨rfl, rfl⟩ := H
   go_enter Tryd.func8, Tryd.ntmps8
   go_wp2_with (first | ((with_reducible refine gate_dst (N := 1) rfl ?_); refine box_event ?hg (N := 1) ?hd (cs := #[.int .i64 a0_0, .slice A0_1 l0_1.length c0_1]) (t := 28) ?hr ?_; (case hd => rfl); (case hg => rfl); (case hr => first | (go_simp; done) | (go_simp; rfl)); intro gb315 hg w6 hbox hb; have BK315 := Aside0.mk (hbox); have GW315 := Aside0.mk ((by rw [hg]; exact (below_size (beQ HB)) : w.heap.size ≤ gb315)); have GE315 := Aside0.mk ((by rw [hg]; exact (below_size (beQ HB)) : w.heap.size ≤ gb315)); replace HB := Aside0.mk (below_step (beQ HB) hb); clear hb hbox hg; have hcz7_0 : w6.cell? ⟨gb315, 0, none⟩ = some (.int .i64 a0_0) := bc BK315 0; have hcz7_1 : w6.cell? ⟨gb315, 1, none⟩ = some (.slice A0_1 l0_1.length c0_1) := bc BK315 1; have hfz7_0 := blk_frozen BK315.out 0; have hfz7_1 := blk_frozen BK315.out 1) | ((with_reducible refine gate_callee (f := 26) rfl ?_); refine goesL_ (some 6) rfl rfl Tryd.func26 (by kernel_rfl) rfl #[.agg #[.int .i64 a0_0, .slice A0_1 l0_1.length c0_1]] rfl lz ?_; (with_reducible refine (impl_IsAlphabet.calls k a0_0 _ _ l0_1 true _ ?side1 ?side2 ?side3 A2.out).mono ?_); (case side1 => have q_ := Aside0.mk (Kd.C_below HR0_1.out HB.out); exact cQ q_); (case side2 => exact HC0_1.out); (case side3 => exact TabW.below HT.out (beQ HB)); rintro e w8 ⟨rfl, hb⟩; refine ⟨_, rfl, ?_⟩; replace BK315 := bb BK315 hb; replace HB := Aside0.mk (below_step (beQ HB) hb); (try clear hb); (try clear hb2); (try clear hk); (try clear hi); (try clear hgw_); have hcz9_0 : w8.cell? ⟨gb315, 0, none⟩ = some (.int .i64 a0_0) := bc BK315 0; have hcz9_1 : w8.cell? ⟨gb315, 1, none⟩ = some (.slice A0_1 l0_1.length c0_1) := bc BK315 1; have hfz9_0 := blk_frozen BK315.out 0; have hfz9_1 := blk_frozen BK315.out 1) | ((with_reducible refine gate_callee (f := 27) rfl ?_); refine goesL_ (some 9) rfl rfl Tryd.func27 (by kernel_rfl) rfl #[.agg #[.int .i64 a0_0, .slice A0_1 l0_1.length c0_1]] rfl lz ?_; (with_reducible refine (impl_processesOf.calls k a0_0 _ _ l0_1 t317 _ ?side1 ?side2 ?side3 A4.out).mono ?_); (case side1 => have q_ := Aside0.mk (Kd.C_below HR0_1.out HB.out); exact cQ q_); (case side2 => exact HC0_1.out); (case side3 => exact TabW.below HT.out (beQ HB)); rintro e w10 ⟨v318, rfl, ho0, hb⟩; refine ⟨_, rfl, ?_⟩; have HO319 := Aside0.mk (Kd.R_lower ho0 (below_size (beQ HB))); replace BK315 := bb BK315 hb; replace HB := Aside0.mk (below_step (beQ HB) hb); (try clear hb); (try clear hb2); (try clear hk); (try clear hi); (try clear hgw_); (try clear ho0); obtain ⟨Ao11, co11, eo11⟩ := Kd.R_slice HO319.out; subst eo11))
   go_ret2
   exact ⟨_, rz, by first | exact Kd.R_nil _ _ _ _ _ | exact Kd.N_nil _ _ _ _ _ | exact Kd.V_nil _ _ _ _ _ | exact Kd.Q_nil _ _ _ _ _ | exact Kd.S_nil _ _ _ _ _, beQ HB⟩
  ·rw [if_neg c5] at H
   have c5b0 : decide (16 < (t317.length : Int)) = false := decide_eq_false c5
   have c5b1 : decide (16 < t317.length) = false := decide_eq_false (by omega)
   clear c5
   simp only [Option.some.injEq, Prod.mk.injEq] at H
   obtain ⟨rfl, rfl⟩ := H
   go_enter Tryd.func8, Tryd.ntmps8
   go_wp2_with (first | ((with_reducible refine gate_dst (N := 1) rfl ?_); refine box_event ?hg (N := 1) ?hd (cs := #[.int .i64 a0_0, .slice A0_1 l0_1.length c0_1]) (t := 28) ?hr ?_; (case hd => rfl); (case hg => rfl); (case hr => first | (go_simp; done) | (go_simp; rfl)); intro gb315 hg w12 hbox hb; have BK315 := Aside0.mk (hbox); have GW315 := Aside0.mk ((by rw [hg]; exact (below_size (beQ HB)) : w.heap.size ≤ gb315)); have GE315 := Aside0.mk ((by rw [hg]; exact (below_size (beQ HB)) : w.heap.size ≤ gb315)); replace HB := Aside0.mk (below_step (beQ HB) hb); clear hb hbox hg; have hcz13_0 : w12.cell? ⟨gb315, 0, none⟩ = some (.int .i64 a0_0) := bc BK315 0; have hcz13_1 : w12.cell? ⟨gb315, 1, none⟩ = some (.slice A0_1 l0_1.length c0_1) := bc BK315 1; have hfz13_0 := blk_frozen BK315.out 0; have hfz13_1 := blk_frozen BK315.out 1) | ((with_reducible refine gate_callee (f := 26) rfl ?_); refine goesL_ (some 6) rfl rfl Tryd.func26 (by kernel_rfl) rfl #[.agg #[.int .i64 a0_0, .slice A0_1 l0_1.length c0_1]] rfl lz ?_; (with_reducible refine (impl_IsAlphabet.calls k a0_0 _ _ l0_1 true _ ?side1 ?side2 ?side3 A2.out).mono ?_); (case side1 => have q_ := Aside0.mk (Kd.C_below HR0_1.out HB.out); exact cQ q_); (case side2 => exact HC0_1.out); (case side3 => exact TabW.below HT.out (beQ HB)); rintro e w14 ⟨rfl, hb⟩; refine ⟨_, rfl, ?_⟩; replace BK315 := bb BK315 hb; replace HB := Aside0.mk (below_step (beQ HB) hb); (try clear hb); (try clear hb2); (try clear hk); (try clear hi); (try clear hgw_); have hcz15_0 : w14.cell? ⟨gb315, 0, none⟩ = some (.int .i64 a0_0) := bc BK315 0; have hcz15_1 : w14.cell? ⟨gb315, 1, none⟩ = some (.slice A0_1 l0_1.length c0_1) := bc BK315 1; have hfz15_0 := blk_frozen BK315.out 0; have hfz15_1 := blk_frozen BK315.out 1) | ((with_reducible refine gate_callee (f := 27) rfl ?_); refine goesL_ (some 9) rfl rfl Tryd.func27 (by kernel_rfl) rfl #[.agg #[.int .i64 a0_0, .slice A0_1 l0_1.length c0_1]] rfl lz ?_; (with_reducible refine (impl_processesOf.calls k a0_0 _ _ l0_1 t317 _ ?side1 ?side2 ?side3 A4.out).mono ?_); (case side1 => have q_ := Aside0.mk (Kd.C_below HR0_1.out HB.out); exact cQ q_); (case side2 => exact HC0_1.out); (case side3 => exact TabW.below HT.out (beQ HB)); rintro e w16 ⟨v318, rfl, ho0, hb⟩; refine ⟨_, rfl, ?_⟩; have HO319 := Aside0.mk (Kd.R_lower ho0 (below_size (beQ HB))); replace BK315 := bb BK315 hb; replace HB := Aside0.mk (below_step (beQ HB) hb); (try clear hb); (try clear hb2); (try clear hk); (try clear hi); (try clear hgw_); (try clear ho0); obtain ⟨Ao17, co17, eo17⟩ := Kd.R_slice HO319.out; subst eo17))
   go_ret2
   exact ⟨_, rz, kdQ HO319, beQ HB⟩
 ·replace c3 := Bool.eq_false_iff.mpr c3
  subst c3
  have H1 : (some (([] : List Int), 1)) = some (r1, r2) := by rw [if_neg (show ¬ (false = true) by decide)] at H; exact H
  clear H; have H := H1; clear H1
  simp only [Option.some.injEq, Prod.mk.injEq] at H
  obtain ⟨rfl, rfl⟩ := H
  go_enter Tryd.func8, Tryd.ntmps8
  go_wp2_with (first | ((with_reducible refine gate_dst (N := 1) rfl ?_); refine box_event ?hg (N := 1) ?hd (cs := #[.int .i64 a0_0, .slice A0_1 l0_1.length c0_1]) (t := 28) ?hr ?_; (case hd => rfl); (case hg => rfl); (case hr => first | (go_simp; done) | (go_simp; rfl)); intro gb315 hg w18 hbox hb; have BK315 := Aside0.mk (hbox); have GW315 := Aside0.mk ((by rw [hg]; exact (below_size (beQ HB)) : w.heap.size ≤ gb315)); have GE315 := Aside0.mk ((by rw [hg]; exact (below_size (beQ HB)) : w.heap.size ≤ gb315)); replace HB := Aside0.mk (below_step (beQ HB) hb); clear hb hbox hg; have hcz19_0 : w18.cell? ⟨gb315, 0, none⟩ = some (.int .i64 a0_0) := bc BK315 0; have hcz19_1 : w18.cell? ⟨gb315, 1, none⟩ = some (.slice A0_1 l0_1.length c0_1) := bc BK315 1; have hfz19_0 := blk_frozen BK315.out 0; have hfz19_1 := blk_frozen BK315.out 1) | ((with_reducible refine gate_callee (f := 26) rfl ?_); refine goesL_ (some 6) rfl rfl Tryd.func26 (by kernel_rfl) rfl #[.agg #[.int .i64 a0_0, .slice A0_1 l0_1.length c0_1]] rfl lz ?_; (with_reducible refine (impl_IsAlphabet.calls k a0_0 _ _ l0_1 false _ ?side1 ?side2 ?side3 A2.out).mono ?_); (case side1 => have q_ := Aside0.mk (Kd.C_below HR0_1.out HB.out); exact cQ q_); (case side2 => exact HC0_1.out); (case side3 => exact TabW.below HT.out (beQ HB)); rintro e w20 ⟨rfl, hb⟩; refine ⟨_, rfl, ?_⟩; replace BK315 := bb BK315 hb; replace HB := Aside0.mk (below_step (beQ HB) hb); (try clear hb); (try clear hb2); (try clear hk); (try clear hi); (try clear hgw_)))
  go_ret2
  exact ⟨_, rz, by first | exact Kd.R_nil _ _ _ _ _ | exact Kd.N_nil _ _ _ _ _ | exact Kd.V_nil _ _ _ _ _ | exact Kd.Q_nil _ _ _ _ _ | exact Kd.S_nil _ _ _ _ _, beQ HB⟩
end Go.Proofs.YtdcggbkbcackaaaDoor.G
