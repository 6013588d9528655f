-- A copy, with what one law needs, of a text that print.sh or a program of ours wrote
import Derived.Test.YtleeihpmniabhaaDoorZ1G0
import Derived.Test.YtleeihpmniabhaaDoorZ1GQ00a
import Derived.Test.YtleeihpmniabhaaDoorZ1GQ00d
import Derived.Test.YtleeihpmniabhaaDoorZ1GQ02c
import Derived.Test.YtleeihpmniabhaaDoorZ1GQ05
import Derived.Test.YtleeihpmniabhaaDoorZ1GQ08a
import Derived.Test.YtleeihpmniabhaaDoorZ1GQ08b
import Derived.Test.YtleeihpmniabhaaDoorZ1GQ09b
import Derived.Test.YtleeihpmniabhaaDoorZ1GQ11
namespace Go.Proofs.YtleeihpmniabhaaDoor.G
open Go.RowKit Go.Proofs.YtleeihpmniabhaaDoorW.PrintWords Go.Proofs.YtleeihpmniabhaaDoorW.PrintLast Go.Proofs.YtleeihpmniabhaaDoorW.PrintMore
attribute [local go_sem] max2_int min2_int max_two min_two max_three min_three max_four min_four   -- for this text's walks alone
set_option linter.unusedVariables false
set_option linter.unusedSimpArgs false
mutual
def laws_FnSameTraces.j0 : Nat → List Int → List Int → Bool → Int → Bool → Int → List Int → Option (Bool)
 | 0, _, _, _, _, _, _, _ => none
 | k + 1, x4, x5, x6, x7, x51, x683000, x683001 => if x51 = true then (some false) else (if x7 = 0 then ((impl_NormalForm.f k x683000 x683001 x4).bind fun bt687 => ((impl_NormalForm.f k x683000 x683001 x5).bind fun bt691 => ((impl_FoataForm.f k x683000 x683001 x4).bind fun bt695 => ((impl_FoataForm.f k x683000 x683001 x5).bind fun bt699 => ((impl_PairProjections.f k x683000 x683001 x4).bind fun bt703 => ((impl_PairProjections.f k x683000 x683001 x5).bind fun bt707 => (if bt687.2 = 0 then (if bt691.2 = 0 then (if bt695.2 = 0 then (if bt699.2 = 0 then (if bt703.2 = 0 then (laws_FnSameTraces.j1 k x6 bt687.1 bt691.1 bt695.1 bt699.1 bt703.1 bt707.1 (bt707.2 != 0)) else (laws_FnSameTraces.j1 k x6 bt687.1 bt691.1 bt695.1 bt699.1 bt703.1 bt707.1 true)) else (laws_FnSameTraces.j1 k x6 bt687.1 bt691.1 bt695.1 bt699.1 bt703.1 bt707.1 true)) else (laws_FnSameTraces.j1 k x6 bt687.1 bt691.1 bt695.1 bt699.1 bt703.1 bt707.1 true)) else (laws_FnSameTraces.j1 k x6 bt687.1 bt691.1 bt695.1 bt699.1 bt703.1 bt707.1 true)) else (laws_FnSameTraces.j1 k x6 bt687.1 bt691.1 bt695.1 bt699.1 bt703.1 bt707.1 true)))))))) else (some true))
def laws_FnSameTraces.j1 : Nat → Bool → List Int → List Int → List Int → List Int → List (List Int) → List (List Int) → Bool → Option (Bool)
 | 0, _, _, _, _, _, _, _, _ => none
 | k + 1, x6, x10, x12, x14, x16, x18, x20, x111 => if x111 = true then (some false) else ((laws_likeInts.f k x10 x12).bind fun t711 => (if (t711 == x6) = true then ((laws_likeInts.f k x14 x16).bind fun t712 => (if (t712 == x6) = true then ((laws_likeRows5.f k x18 x20).bind fun t713 => (some (t713 == x6))) else (some false))) else (some false)))
end
def laws_FnSameTraces.f (k : Nat) (l0 : List Int) : Option (Bool) := (laws_big.f l0).bind fun t671 => (if t671 = true then (some true) else ((spec_DrawAreSameTrace.f k l0).bind fun bt672 => ((impl_AreSameTrace.f k bt672.1 bt672.2.1 bt672.2.2.1 bt672.2.2.2).bind fun bt683 => ((spec_AreSameTrace.f k bt672.1 bt672.2.1 bt672.2.2.1 bt672.2.2.2).bind fun bt685 => (if bt683.2 = bt685.2 then (laws_FnSameTraces.j0 k bt672.2.2.1 bt672.2.2.2 bt683.1 bt683.2 (bt683.1 != bt685.1) bt672.1 bt672.2.1) else (laws_FnSameTraces.j0 k bt672.2.2.1 bt672.2.2.2 bt683.1 bt683.2 true bt672.1 bt672.2.1))))))
set_option maxHeartbeats 8000000 in
set_option maxRecDepth 100000 in
theorem laws_FnSameTraces.calls (k : Nat) (A0 : Option Addr) (c0 : Nat) (l0 : List Int) (r : Bool) (w : World) (hr0 : Kd.C (Kd.int .u8) w A0 l0.length l0) (hc0 : l0.length ≤ c0) (hT : TabW w) (h : laws_FnSameTraces.f k l0 = some r) :
  Calls Tryd.prog 4 #[.slice A0 l0.length c0] w fun e w' => e = .returned (.bool r) ∧ Below w.heap.size w w' := by
 have hu26 := Tryd.underlying26; have HT := Aside0.mk hT; clear hT; have HR0 := Aside0.mk hr0; have HC0 := Aside0.mk hc0; clear hr0 hc0; have HB := Aside0.mk (Below.refl w.heap.size w)
 have H : ((laws_big.f l0).bind fun t671 => (if t671 = true then (some true) else ((spec_DrawAreSameTrace.f k l0).bind fun bt672 => ((impl_AreSameTrace.f k bt672.1 bt672.2.1 bt672.2.2.1 bt672.2.2.2).bind fun bt683 => ((spec_AreSameTrace.f k bt672.1 bt672.2.1 bt672.2.2.1 bt672.2.2.2).bind fun bt685 => (if bt683.2 = bt685.2 then (laws_FnSameTraces.j0 k bt672.2.2.1 bt672.2.2.2 bt683.1 bt683.2 (bt683.1 != bt685.1) bt672.1 bt672.2.1) else (laws_FnSameTraces.j0 k bt672.2.2.1 bt672.2.2.2 bt683.1 bt683.2 true bt672.1 bt672.2.1))))))) = some r := h
 clear h; replace H := Option.bind_eq_some_iff.mp H; obtain ⟨t671, A20, H⟩ := H
 replace H : (if t671 = true then (some true) else ((spec_DrawAreSameTrace.f k l0).bind fun bt672 => ((impl_AreSameTrace.f k bt672.1 bt672.2.1 bt672.2.2.1 bt672.2.2.2).bind fun bt683 => ((spec_AreSameTrace.f k bt672.1 bt672.2.1 bt672.2.2.1 bt672.2.2.2).bind fun bt685 => (if bt683.2 = bt685.2 then (laws_FnSameTraces.j0 k bt672.2.2.1 bt672.2.2.2 bt683.1 bt683.2 (bt683.1 != bt685.1) bt672.1 bt672.2.1) else (laws_FnSameTraces.j0 k bt672.2.2.1 bt672.2.2.2 bt683.1 bt683.2 true bt672.1 bt672.2.1)))))) = some r := H
 have A2 := Aside0.mk A20; clear A20
 by_cases c3 : t671 = true
 ·subst c3
  have H1 : (some true) = some r := by rw [if_pos rfl] at H; exact H
  clear H; have H := H1; clear H1
  obtain rfl := Option.some.inj H
  go_enter Tryd.func4, Tryd.ntmps4
  go_wp2_with (first | ((with_reducible refine gate_callee (f := 9) rfl ?_); refine goesL_ (some 23) rfl rfl Tryd.func9 (by kernel_rfl) rfl #[.slice A0 l0.length c0] rfl lz ?_; (with_reducible refine (laws_big.calls _ _ l0 true _ ?side1 ?side2 A2.out).mono ?_); (case side1 => have q_ := Aside0.mk HR0.out; exact cQ q_); (case side2 => exact HC0.out); rintro e w' ⟨rfl, ⟨nd, rfl⟩⟩; refine ⟨_, rfl, ?_⟩))
  go_ret
  exact ⟨rz, beQ HB⟩
 ·replace c3 := Bool.eq_false_iff.mpr c3
  subst c3
  have H1 : ((spec_DrawAreSameTrace.f k l0).bind fun bt672 => ((impl_AreSameTrace.f k bt672.1 bt672.2.1 bt672.2.2.1 bt672.2.2.2).bind fun bt683 => ((spec_AreSameTrace.f k bt672.1 bt672.2.1 bt672.2.2.1 bt672.2.2.2).bind fun bt685 => (if bt683.2 = bt685.2 then (laws_FnSameTraces.j0 k bt672.2.2.1 bt672.2.2.2 bt683.1 bt683.2 (bt683.1 != bt685.1) bt672.1 bt672.2.1) else (laws_FnSameTraces.j0 k bt672.2.2.1 bt672.2.2.2 bt683.1 bt683.2 true bt672.1 bt672.2.1))))) = some r := by rw [if_neg (show ¬ (false = true) by decide)] at H; exact H
  clear H; have H := H1; clear H1; replace H := Option.bind_eq_some_iff.mp H
  obtain ⟨⟨t672, t673, t676, t679⟩, A40, H⟩ := H
  replace H : ((impl_AreSameTrace.f k t672 t673 t676 t679).bind fun bt683 => ((spec_AreSameTrace.f k t672 t673 t676 t679).bind fun bt685 => (if bt683.2 = bt685.2 then (laws_FnSameTraces.j0 k t676 t679 bt683.1 bt683.2 (bt683.1 != bt685.1) t672 t673) else (laws_FnSameTraces.j0 k t676 t679 bt683.1 bt683.2 true t672 t673)))) = some r := H
  have A4 := Aside0.mk A40; clear A40; replace H := Option.bind_eq_some_iff.mp H
  obtain ⟨⟨t683, t684⟩, A50, H⟩ := H
  replace H : ((spec_AreSameTrace.f k t672 t673 t676 t679).bind fun bt685 => (if t684 = bt685.2 then (laws_FnSameTraces.j0 k t676 t679 t683 t684 (t683 != bt685.1) t672 t673) else (laws_FnSameTraces.j0 k t676 t679 t683 t684 true t672 t673))) = some r := H
  have A5 := Aside0.mk A50; clear A50; replace H := Option.bind_eq_some_iff.mp H
  obtain ⟨⟨t685, t686⟩, A60, H⟩ := H
  replace H : (if t684 = t686 then (laws_FnSameTraces.j0 k t676 t679 t683 t684 (t683 != t685) t672 t673) else (laws_FnSameTraces.j0 k t676 t679 t683 t684 true t672 t673)) = some r := H
  have A6 := Aside0.mk A60; clear A60; have HC7 := Aside0.mk H; clear H
  go_enter Tryd.func4, Tryd.ntmps4
  go_upto_region 6 with (first | ((with_reducible refine gate_callee (f := 9) rfl ?_); refine goesL_ (some 23) rfl rfl Tryd.func9 (by kernel_rfl) rfl #[.slice A0 l0.length c0] rfl lz ?_; (with_reducible refine (laws_big.calls _ _ l0 false _ ?side1 ?side2 A2.out).mono ?_); (case side1 => have q_ := Aside0.mk HR0.out; exact cQ q_); (case side2 => exact HC0.out); rintro e w' ⟨rfl, ⟨nd, rfl⟩⟩; refine ⟨_, rfl, ?_⟩) | ((with_reducible refine gate_callee (f := 21) rfl ?_); refine goesL_ (some 26) rfl rfl Tryd.func21 (by kernel_rfl) rfl #[.slice A0 l0.length c0] rfl lz ?_; (with_reducible refine (spec_DrawAreSameTrace.calls k _ _ l0 t672 t673 t676 t679 _ ?side1 ?side2 A4.out).mono ?_); (case side1 => have q_ := Aside0.mk HR0.out; exact cQ q_); (case side2 => exact HC0.out); rintro e w8 ⟨v674, v677, v680, rfl, ho0, ho1, ho2, hb⟩; refine ⟨_, rfl, ?_⟩; have HO675 := Aside0.mk (Kd.R_lower ho0 (below_size (beQ HB))); have HO678 := Aside0.mk (Kd.R_lower ho1 (below_size (beQ HB))); have HO681 := Aside0.mk (Kd.R_lower ho2 (below_size (beQ HB))); replace HB := Aside0.mk (below_step (beQ HB) hb); (try clear hb); (try clear hb2); (try clear hk); (try clear hi); (try clear hgw_); (try clear ho0); (try clear ho1); (try clear ho2)) | ((with_reducible refine gate_dst (N := 3) rfl ?_); refine box_event ?hg (N := 3) ?hd (cs := #[.int .i64 0, .slice none 0 0]) (t := 26) ?hr ?_; (case hd => rfl); (case hg => rfl); (case hr => first | (go_simp; done) | (go_simp; rfl)); intro gb682 hg w9 hbox hb; replace HO675 := kb HO675 hb; replace HO678 := kb HO678 hb; replace HO681 := kb HO681 hb; have BK682 := Aside0.mk (hbox); have GW682 := Aside0.mk ((by rw [hg]; exact (below_size (beQ HB)) : w.heap.size ≤ gb682)); have GE682 := Aside0.mk ((by rw [hg]; exact (below_size (beQ HB)) : w.heap.size ≤ gb682)); replace HB := Aside0.mk (below_step (beQ HB) hb); clear hb hbox hg; have hcz10_0 : w9.cell? ⟨gb682, 0, none⟩ = some (.int .i64 0) := bc BK682 0; have hcz10_1 : w9.cell? ⟨gb682, 1, none⟩ = some (.slice none 0 0) := bc BK682 1; have hfz10_0 := blk_frozen BK682.out 0; have hfz10_1 := blk_frozen BK682.out 1; obtain ⟨Ao11, co11, eo11⟩ := Kd.R_slice HO675.out; subst eo11) | ((with_reducible refine gate_store (t := 26) (p := 3) rfl ?_); refine store_event (t := 26) (p := 3) (v := ?vo_w12) (w1 := ((w9.setCell ⟨gb682, 0, none⟩ (.int .i64 t672)).setCell ⟨gb682, 1, none⟩ (.slice Ao11 t673.length co11))) ?hg ?ho ?hn ?hr ?_; (case ho => rfl); (case hg => rfl); (case hn => rfl); (case hr => first | (go_simp; done) | (go_simp; rfl)); intro w12 hw; have n0_ : Aside0 (Kd.R (Kd.int .i64) 2 w12 w.heap.size (fun k_ => some k_ ≠ (v677 : Value).ownBlock ∧ some k_ ≠ (v680 : Value).ownBlock) (.slice Ao11 t673.length co11) t673) := ⟨(by rw [hw]; exact (by (with_reducible repeat (first | apply Kd.R_alloc | apply Kd.R_drewN | apply Kd.R_drew)); exact Kd.R_mono (Kd.R_far (p := ⟨gb682, 1, none⟩) (Kd.R_far (p := ⟨gb682, 0, none⟩) (Kd.R_types HO675.out BK682.out (by decide)) (fun _ hk => hk.2) (.int .i64 t672)) (fun _ hk => hk.2) (.slice Ao11 t673.length co11)) (fun _ hk => ⟨hk.1.1, hk.1.2⟩)))⟩; have n1_ : Aside0 (Kd.R (Kd.int .i64) 2 w12 w.heap.size (fun k_ => some k_ ≠ (.slice Ao11 t673.length co11 : Value).ownBlock ∧ some k_ ≠ (v680 : Value).ownBlock) v677 t676) := ⟨(by rw [hw]; exact (by (with_reducible repeat (first | apply Kd.R_alloc | apply Kd.R_drewN | apply Kd.R_drew)); exact Kd.R_mono (Kd.R_far (p := ⟨gb682, 1, none⟩) (Kd.R_far (p := ⟨gb682, 0, none⟩) (Kd.R_types HO678.out BK682.out (by decide)) (fun _ hk => hk.2) (.int .i64 t672)) (fun _ hk => hk.2) (.slice Ao11 t673.length co11)) (fun _ hk => ⟨hk.1.1, hk.1.2⟩)))⟩; have n2_ : Aside0 (Kd.R (Kd.int .i64) 2 w12 w.heap.size (fun k_ => some k_ ≠ (.slice Ao11 t673.length co11 : Value).ownBlock ∧ some k_ ≠ (v677 : Value).ownBlock) v680 t679) := ⟨(by rw [hw]; exact (by (with_reducible repeat (first | apply Kd.R_alloc | apply Kd.R_drewN | apply Kd.R_drew)); exact Kd.R_mono (Kd.R_far (p := ⟨gb682, 1, none⟩) (Kd.R_far (p := ⟨gb682, 0, none⟩) (Kd.R_types HO681.out BK682.out (by decide)) (fun _ hk => hk.2) (.int .i64 t672)) (fun _ hk => hk.2) (.slice Ao11 t673.length co11)) (fun _ hk => ⟨hk.1.1, hk.1.2⟩)))⟩; have n3_ : Aside0 (w12.heap[gb682]? = some (.cells #[.int .i64 t672, .slice Ao11 t673.length co11] 26 (0, 0))) := ⟨(by rw [hw]; exact (by (with_reducible repeat (first | refine blk_drewN ?_ _ | refine blk_drew ?_ | refine blk_alloc ?_ _)); refine blk_put (cs := #[.int .i64 t672, .slice none 0 0]) ?_ 1 _ rfl; (with_reducible repeat (first | refine blk_drewN ?_ _ | refine blk_drew ?_ | refine blk_alloc ?_ _)); refine blk_put (cs := #[.int .i64 0, .slice none 0 0]) ?_ 0 _ rfl; (with_reducible repeat (first | refine blk_drewN ?_ _ | refine blk_drew ?_ | refine blk_alloc ?_ _)); exact BK682.out))⟩; have n4_ : Aside0 (Below w.heap.size w w12) := ⟨(by rw [hw]; exact (beQ HB))⟩; clear hw; clear HO675; clear HO678; clear HO681; clear BK682; clear HB; have HO675 := n0_; have HO678 := n1_; have HO681 := n2_; have BK682 := n3_; have HB := n4_; clear n0_ n1_ n2_ n3_ n4_; have hcz13_0 : w12.cell? ⟨gb682, 0, none⟩ = some (.int .i64 t672) := bc BK682 0; have hcz13_1 : w12.cell? ⟨gb682, 1, none⟩ = some (.slice Ao11 t673.length co11) := bc BK682 1; have hfz13_0 := blk_frozen BK682.out 0; have hfz13_1 := blk_frozen BK682.out 1; obtain ⟨Ao14, co14, eo14⟩ := Kd.R_slice HO678.out; subst eo14; obtain ⟨Ao15, co15, eo15⟩ := Kd.R_slice HO681.out; subst eo15) | ((with_reducible refine gate_callee (f := 17) rfl ?_); refine goesL_ (some 34) rfl rfl Tryd.func17 (by kernel_rfl) rfl #[.agg #[.int .i64 t672, .slice Ao11 t673.length co11], .slice Ao14 t676.length co14, .slice Ao15 t679.length co15] rfl lz ?_; (with_reducible refine (impl_AreSameTrace.calls k t672 _ _ t673 (fun k_ => some k_ = (.slice Ao14 t676.length co14 : Value).ownBlock) _ _ t676 (fun k_ => some k_ = (.slice Ao15 t679.length co15 : Value).ownBlock) _ _ t679 t683 t684 _ ?side1 ?side2 ?side3 ?side4 ?side5 A5.out).mono ?_); (case side1 => have q_ := Aside0.mk (Kd.R_reads' HO675.out).2.2; exact cQ q_); (case side2 => exact (Kd.R_reads' HO675.out).2.1); (case side3 => exact Kd.R_V (Kd.R_tight rfl (Kd.R_types (HO678.out) BK682.out (by decide)))); (case side4 => exact Kd.R_V (Kd.R_tight rfl (Kd.R_types (HO681.out) BK682.out (by decide)))); (case side5 => exact TabW.below HT.out (beQ HB)); rintro e w16 ⟨rfl, hb⟩; refine ⟨_, rfl, ?_⟩; replace HO675 := kb HO675 hb; replace HO678 := kb HO678 hb; replace HO681 := kb HO681 hb; replace BK682 := bb BK682 hb; replace HB := Aside0.mk (below_step (beQ HB) hb); (try clear hb); (try clear hb2); (try clear hk); (try clear hi); (try clear hgw_); have hcz17_0 : w16.cell? ⟨gb682, 0, none⟩ = some (.int .i64 t672) := bc BK682 0; have hcz17_1 : w16.cell? ⟨gb682, 1, none⟩ = some (.slice Ao11 t673.length co11) := bc BK682 1; have hfz17_0 := blk_frozen BK682.out 0; have hfz17_1 := blk_frozen BK682.out 1) | ((with_reducible refine gate_callee (f := 22) rfl ?_); refine goesL_ (some 41) rfl rfl Tryd.func22 (by kernel_rfl) rfl #[.agg #[.int .i64 t672, .slice Ao11 t673.length co11], .slice Ao14 t676.length co14, .slice Ao15 t679.length co15] rfl lz ?_; (with_reducible refine (spec_AreSameTrace.calls k t672 _ _ t673 _ _ t676 _ _ t679 t685 t686 _ ?side1 ?side2 ?side3 ?side4 ?side5 ?side6 A6.out).mono ?_); (case side1 => have q_ := Aside0.mk (Kd.R_reads' HO675.out).2.2; exact cQ q_); (case side2 => exact (Kd.R_reads' HO675.out).2.1); (case side3 => have q_ := Aside0.mk (Kd.R_reads' HO678.out).2.2; exact cQ q_); (case side4 => exact (Kd.R_reads' HO678.out).2.1); (case side5 => have q_ := Aside0.mk (Kd.R_reads' HO681.out).2.2; exact cQ q_); (case side6 => exact (Kd.R_reads' HO681.out).2.1); rintro e w18 ⟨rfl, hb⟩; refine ⟨_, rfl, ?_⟩; replace HO675 := kb HO675 hb; replace HO678 := kb HO678 hb; replace HO681 := kb HO681 hb; replace BK682 := bb BK682 hb; replace HB := Aside0.mk (below_step (beQ HB) hb); (try clear hb); (try clear hb2); (try clear hk); (try clear hi); (try clear hgw_)))
  (try simp only [Act.put, List.setIfInBounds_toArray, List.set_cons_zero, List.set_cons_succ])
  go_cut [51] (fun v51 wc => ∃ (kq : Nat) (x51_6 : Bool), v51 = .bool x51_6 ∧ Aside0 (laws_FnSameTraces.j0 kq t676 t679 t683 t684 x51_6 t672 t673 = some r) ∧ Aside0 (kq ≤ k) ∧ Aside0 (Kd.R (Kd.int .i64) 2 wc w.heap.size (fun k_ => some k_ ≠ ((.slice Ao15 t679.length co15) : Value).ownBlock ∧ some k_ ≠ ((.slice Ao11 t673.length co11) : Value).ownBlock) (.slice Ao14 t676.length co14) t676) ∧ Aside0 (Kd.R (Kd.int .i64) 2 wc w.heap.size (fun k_ => some k_ ≠ ((.slice Ao14 t676.length co14) : Value).ownBlock ∧ some k_ ≠ ((.slice Ao11 t673.length co11) : Value).ownBlock) (.slice Ao15 t679.length co15) t679) ∧ Aside0 (Kd.R (Kd.int .i64) 2 wc w.heap.size (fun k_ => some k_ ≠ ((.slice Ao14 t676.length co14) : Value).ownBlock ∧ some k_ ≠ ((.slice Ao15 t679.length co15) : Value).ownBlock) (.slice Ao11 t673.length co11) t673) ∧ Aside0 (wc.heap[gb682]? = some (.cells #[.int .i64 t672, (.slice Ao11 t673.length co11)] 26 (0, 0))) ∧ Aside0 (Below w.heap.size w wc))
  case first =>
   have H := HC7.out; clear HC7
   by_cases c19 : t684 = t686
   ·rw [if_pos c19] at H
    have c19b0 : (t684 == t686) = true := beq_iff_eq.mpr c19
    have c19b1 : (t684 != t686) = false := bne_eq_false_iff_eq.mpr c19
    clear c19
    (first | rw [c19b0] | (simp only [i64_w, i32_w]; rw [c19b0]) | skip)
    have H' := Aside0.mk H
    clear H
    go_wp2
    go_meet
    case rel => exact ⟨_, ((t683 != t685)), sz, H', ⟨by first | omega | exact Nat.le_refl _⟩, ⟨by (with_reducible repeat (first | apply Kd.R_alloc | apply Kd.R_drewN | apply Kd.R_drew)); exact Kd.R_mono HO678.out (fun _ hk => ⟨hk.2, hk.1⟩)⟩, ⟨by (with_reducible repeat (first | apply Kd.R_alloc | apply Kd.R_drewN | apply Kd.R_drew)); exact Kd.R_mono HO681.out (fun _ hk => ⟨hk.2, hk.1⟩)⟩, ⟨kdQ HO675⟩, ⟨blkQ BK682⟩, ⟨beQ HB⟩⟩
   ·rw [if_neg c19] at H
    have c19b0 : (t684 == t686) = false := beq_eq_false_iff_ne.mpr c19
    have c19b1 : (t684 != t686) = true := bne_iff_ne.mpr c19
    (first | rw [c19b0] | (simp only [i64_w, i32_w]; rw [c19b0]) | skip)
    have H' := Aside0.mk H
    clear H
    go_wp2
    go_meet
    case rel => exact ⟨_, (true), sz, H', ⟨by first | omega | exact Nat.le_refl _⟩, ⟨by (with_reducible repeat (first | apply Kd.R_alloc | apply Kd.R_drewN | apply Kd.R_drew)); exact Kd.R_mono HO678.out (fun _ hk => ⟨hk.2, hk.1⟩)⟩, ⟨by (with_reducible repeat (first | apply Kd.R_alloc | apply Kd.R_drewN | apply Kd.R_drew)); exact Kd.R_mono HO681.out (fun _ hk => ⟨hk.2, hk.1⟩)⟩, ⟨kdQ HO675⟩, ⟨blkQ BK682⟩, ⟨beQ HB⟩⟩
  case rest =>
   clear HC7
   try clear c1
   try clear c2
   try clear p2
   try clear c3
   try clear c4
   try clear c9
   try clear c17
   try clear c19
   try clear c19b0
   try clear c19b1
   try clear hcz10_0
   try clear hcz10_1
   try clear hcz13_0
   try clear hcz13_1
   try clear hcz17_0
   try clear hcz17_1
   try clear hfz10_0
   try clear hfz10_1
   try clear hfz13_0
   try clear hfz13_1
   try clear hfz17_0
   try clear hfz17_1
   obtain ⟨kq, x51_6, rfl, HA, HJ6, HO_4, HO_5, HO_683001, BK682, HB⟩ := hcut
   cases kq with
   | zero => exact absurd HA.out (by simp [laws_FnSameTraces.j0])
   | succ kj6 =>
    have H := HA.out; clear HA
    simp only [laws_FnSameTraces.j0] at H
    by_cases c20 : x51_6 = true
    ·subst c20
     have H1 : (some false) = some r := by rw [if_pos rfl] at H; exact H
     clear H; have H := H1; clear H1
     obtain rfl := Option.some.inj H
     go_wp2
     go_ret
     exact ⟨rz, beQ HB⟩
    ·replace c20 := Bool.eq_false_iff.mpr c20
     subst c20
     have H1 : (if t684 = 0 then ((impl_NormalForm.f kj6 t672 t673 t676).bind fun bt687 => ((impl_NormalForm.f kj6 t672 t673 t679).bind fun bt691 => ((impl_FoataForm.f kj6 t672 t673 t676).bind fun bt695 => ((impl_FoataForm.f kj6 t672 t673 t679).bind fun bt699 => ((impl_PairProjections.f kj6 t672 t673 t676).bind fun bt703 => ((impl_PairProjections.f kj6 t672 t673 t679).bind fun bt707 => (if bt687.2 = 0 then (if bt691.2 = 0 then (if bt695.2 = 0 then (if bt699.2 = 0 then (if bt703.2 = 0 then (laws_FnSameTraces.j1 kj6 t683 bt687.1 bt691.1 bt695.1 bt699.1 bt703.1 bt707.1 (bt707.2 != 0)) else (laws_FnSameTraces.j1 kj6 t683 bt687.1 bt691.1 bt695.1 bt699.1 bt703.1 bt707.1 true)) else (laws_FnSameTraces.j1 kj6 t683 bt687.1 bt691.1 bt695.1 bt699.1 bt703.1 bt707.1 true)) else (laws_FnSameTraces.j1 kj6 t683 bt687.1 bt691.1 bt695.1 bt699.1 bt703.1 bt707.1 true)) else (laws_FnSameTraces.j1 kj6 t683 bt687.1 bt691.1 bt695.1 bt699.1 bt703.1 bt707.1 true)) else (laws_FnSameTraces.j1 kj6 t683 bt687.1 bt691.1 bt695.1 bt699.1 bt703.1 bt707.1 true)))))))) else (some true)) = some r := by rw [if_neg (show ¬ (false = true) by decide)] at H; exact H
     clear H; have H := H1; clear H1
     by_cases c21 : t684 = 0
     ·rw [if_pos c21] at H
      have c21b0 : (t684 == 0) = true := beq_iff_eq.mpr c21
      have c21b1 : (t684 != 0) = false := bne_eq_false_iff_eq.mpr c21
      clear c21; replace H := Option.bind_eq_some_iff.mp H
      obtain ⟨⟨t687, t690⟩, A220, H⟩ := H
      replace H : ((impl_NormalForm.f kj6 t672 t673 t679).bind fun bt691 => ((impl_FoataForm.f kj6 t672 t673 t676).bind fun bt695 => ((impl_FoataForm.f kj6 t672 t673 t679).bind fun bt699 => ((impl_PairProjections.f kj6 t672 t673 t676).bind fun bt703 => ((impl_PairProjections.f kj6 t672 t673 t679).bind fun bt707 => (if t690 = 0 then (if bt691.2 = 0 then (if bt695.2 = 0 then (if bt699.2 = 0 then (if bt703.2 = 0 then (laws_FnSameTraces.j1 kj6 t683 t687 bt691.1 bt695.1 bt699.1 bt703.1 bt707.1 (bt707.2 != 0)) else (laws_FnSameTraces.j1 kj6 t683 t687 bt691.1 bt695.1 bt699.1 bt703.1 bt707.1 true)) else (laws_FnSameTraces.j1 kj6 t683 t687 bt691.1 bt695.1 bt699.1 bt703.1 bt707.1 true)) else (laws_FnSameTraces.j1 kj6 t683 t687 bt691.1 bt695.1 bt699.1 bt703.1 bt707.1 true)) else (laws_FnSameTraces.j1 kj6 t683 t687 bt691.1 bt695.1 bt699.1 bt703.1 bt707.1 true)) else (laws_FnSameTraces.j1 kj6 t683 t687 bt691.1 bt695.1 bt699.1 bt703.1 bt707.1 true))))))) = some r := H
      have A22 := Aside0.mk A220; clear A220; replace H := Option.bind_eq_some_iff.mp H
      obtain ⟨⟨t691, t694⟩, A230, H⟩ := H
      replace H : ((impl_FoataForm.f kj6 t672 t673 t676).bind fun bt695 => ((impl_FoataForm.f kj6 t672 t673 t679).bind fun bt699 => ((impl_PairProjections.f kj6 t672 t673 t676).bind fun bt703 => ((impl_PairProjections.f kj6 t672 t673 t679).bind fun bt707 => (if t690 = 0 then (if t694 = 0 then (if bt695.2 = 0 then (if bt699.2 = 0 then (if bt703.2 = 0 then (laws_FnSameTraces.j1 kj6 t683 t687 t691 bt695.1 bt699.1 bt703.1 bt707.1 (bt707.2 != 0)) else (laws_FnSameTraces.j1 kj6 t683 t687 t691 bt695.1 bt699.1 bt703.1 bt707.1 true)) else (laws_FnSameTraces.j1 kj6 t683 t687 t691 bt695.1 bt699.1 bt703.1 bt707.1 true)) else (laws_FnSameTraces.j1 kj6 t683 t687 t691 bt695.1 bt699.1 bt703.1 bt707.1 true)) else (laws_FnSameTraces.j1 kj6 t683 t687 t691 bt695.1 bt699.1 bt703.1 bt707.1 true)) else (laws_FnSameTraces.j1 kj6 t683 t687 t691 bt695.1 bt699.1 bt703.1 bt707.1 true)))))) = some r := H
      have A23 := Aside0.mk A230; clear A230; replace H := Option.bind_eq_some_iff.mp H
      obtain ⟨⟨t695, t698⟩, A240, H⟩ := H
      replace H : ((impl_FoataForm.f kj6 t672 t673 t679).bind fun bt699 => ((impl_PairProjections.f kj6 t672 t673 t676).bind fun bt703 => ((impl_PairProjections.f kj6 t672 t673 t679).bind fun bt707 => (if t690 = 0 then (if t694 = 0 then (if t698 = 0 then (if bt699.2 = 0 then (if bt703.2 = 0 then (laws_FnSameTraces.j1 kj6 t683 t687 t691 t695 bt699.1 bt703.1 bt707.1 (bt707.2 != 0)) else (laws_FnSameTraces.j1 kj6 t683 t687 t691 t695 bt699.1 bt703.1 bt707.1 true)) else (laws_FnSameTraces.j1 kj6 t683 t687 t691 t695 bt699.1 bt703.1 bt707.1 true)) else (laws_FnSameTraces.j1 kj6 t683 t687 t691 t695 bt699.1 bt703.1 bt707.1 true)) else (laws_FnSameTraces.j1 kj6 t683 t687 t691 t695 bt699.1 bt703.1 bt707.1 true)) else (laws_FnSameTraces.j1 kj6 t683 t687 t691 t695 bt699.1 bt703.1 bt707.1 true))))) = some r := H
      have A24 := Aside0.mk A240; clear A240; replace H := Option.bind_eq_some_iff.mp H
      obtain ⟨⟨t699, t702⟩, A250, H⟩ := H
      replace H : ((impl_PairProjections.f kj6 t672 t673 t676).bind fun bt703 => ((impl_PairProjections.f kj6 t672 t673 t679).bind fun bt707 => (if t690 = 0 then (if t694 = 0 then (if t698 = 0 then (if t702 = 0 then (if bt703.2 = 0 then (laws_FnSameTraces.j1 kj6 t683 t687 t691 t695 t699 bt703.1 bt707.1 (bt707.2 != 0)) else (laws_FnSameTraces.j1 kj6 t683 t687 t691 t695 t699 bt703.1 bt707.1 true)) else (laws_FnSameTraces.j1 kj6 t683 t687 t691 t695 t699 bt703.1 bt707.1 true)) else (laws_FnSameTraces.j1 kj6 t683 t687 t691 t695 t699 bt703.1 bt707.1 true)) else (laws_FnSameTraces.j1 kj6 t683 t687 t691 t695 t699 bt703.1 bt707.1 true)) else (laws_FnSameTraces.j1 kj6 t683 t687 t691 t695 t699 bt703.1 bt707.1 true)))) = some r := H
      have A25 := Aside0.mk A250; clear A250; replace H := Option.bind_eq_some_iff.mp H
      obtain ⟨⟨t703, t706⟩, A260, H⟩ := H
      replace H : ((impl_PairProjections.f kj6 t672 t673 t679).bind fun bt707 => (if t690 = 0 then (if t694 = 0 then (if t698 = 0 then (if t702 = 0 then (if t706 = 0 then (laws_FnSameTraces.j1 kj6 t683 t687 t691 t695 t699 t703 bt707.1 (bt707.2 != 0)) else (laws_FnSameTraces.j1 kj6 t683 t687 t691 t695 t699 t703 bt707.1 true)) else (laws_FnSameTraces.j1 kj6 t683 t687 t691 t695 t699 t703 bt707.1 true)) else (laws_FnSameTraces.j1 kj6 t683 t687 t691 t695 t699 t703 bt707.1 true)) else (laws_FnSameTraces.j1 kj6 t683 t687 t691 t695 t699 t703 bt707.1 true)) else (laws_FnSameTraces.j1 kj6 t683 t687 t691 t695 t699 t703 bt707.1 true))) = some r := H
      have A26 := Aside0.mk A260; clear A260; replace H := Option.bind_eq_some_iff.mp H
      obtain ⟨⟨t707, t710⟩, A270, H⟩ := H
      replace H : (if t690 = 0 then (if t694 = 0 then (if t698 = 0 then (if t702 = 0 then (if t706 = 0 then (laws_FnSameTraces.j1 kj6 t683 t687 t691 t695 t699 t703 t707 (t710 != 0)) else (laws_FnSameTraces.j1 kj6 t683 t687 t691 t695 t699 t703 t707 true)) else (laws_FnSameTraces.j1 kj6 t683 t687 t691 t695 t699 t703 t707 true)) else (laws_FnSameTraces.j1 kj6 t683 t687 t691 t695 t699 t703 t707 true)) else (laws_FnSameTraces.j1 kj6 t683 t687 t691 t695 t699 t703 t707 true)) else (laws_FnSameTraces.j1 kj6 t683 t687 t691 t695 t699 t703 t707 true)) = some r := H
      have A27 := Aside0.mk A270; clear A270; have HC28 := Aside0.mk H; clear H
      have hcz29_0 : wc.cell? ⟨gb682, 0, none⟩ = some (.int .i64 t672) := bc BK682 0
      have hcz29_1 : wc.cell? ⟨gb682, 1, none⟩ = some (.slice Ao11 t673.length co11) := bc BK682 1
      have hfz29_0 := blk_frozen BK682.out 0; have hfz29_1 := blk_frozen BK682.out 1
      go_upto_region 16 with (first | ((with_reducible refine gate_callee (f := 11) rfl ?_); refine goesL_ (some 57) rfl rfl Tryd.func11 (by kernel_rfl) rfl #[.agg #[.int .i64 t672, .slice Ao11 t673.length co11], .slice Ao14 t676.length co14] rfl lz ?_; (with_reducible refine (impl_NormalForm.calls kj6 t672 _ _ t673 (fun k_ => some k_ = (.slice Ao14 t676.length co14 : Value).ownBlock) _ _ t676 t687 t690 _ ?side1 ?side2 ?side3 ?side4 A22.out).mono ?_); (case side1 => have q_ := Aside0.mk (Kd.R_reads' HO_683001.out).2.2; exact cQ q_); (case side2 => exact (Kd.R_reads' HO_683001.out).2.1); (case side3 => exact Kd.R_V (Kd.R_tight rfl (Kd.R_types (HO_4.out) BK682.out (by decide)))); (case side4 => exact TabW.below HT.out (beQ HB)); rintro e w30 ⟨v688, rfl, ho0, hb⟩; refine ⟨_, rfl, ?_⟩; have HO689 := Aside0.mk (Kd.R_lower (Kd.R_new' (Kd.R_new' (Kd.R_new' (Kd.R_mono (ok' := fun k_ => True) ho0 (fun _ hk_ => trivial)) (Kd.R_lt (kdQ HO_4))) (Kd.R_lt (kdQ HO_5))) (Kd.R_lt (kdQ HO_683001))) (below_size (beQ HB))); replace HO_4 := Aside0.mk (Kd.R_elder' (kdQ HO_4) (Kd.R_base ho0) hb); replace HO_5 := Aside0.mk (Kd.R_elder' (kdQ HO_5) (Kd.R_base ho0) hb); replace HO_683001 := Aside0.mk (Kd.R_elder' (kdQ HO_683001) (Kd.R_base ho0) hb); replace BK682 := bb BK682 hb; replace HB := Aside0.mk (below_step (beQ HB) hb); (try clear hb); (try clear hb2); (try clear hk); (try clear hi); (try clear hgw_); (try clear ho0); have hcz31_0 : w30.cell? ⟨gb682, 0, none⟩ = some (.int .i64 t672) := bc BK682 0; have hcz31_1 : w30.cell? ⟨gb682, 1, none⟩ = some (.slice Ao11 t673.length co11) := bc BK682 1; have hfz31_0 := blk_frozen BK682.out 0; have hfz31_1 := blk_frozen BK682.out 1) | ((with_reducible refine gate_callee (f := 11) rfl ?_); refine goesL_ (some 63) rfl rfl Tryd.func11 (by kernel_rfl) rfl #[.agg #[.int .i64 t672, .slice Ao11 t673.length co11], .slice Ao15 t679.length co15] rfl lz ?_; (with_reducible refine (impl_NormalForm.calls kj6 t672 _ _ t673 (fun k_ => some k_ = (.slice Ao15 t679.length co15 : Value).ownBlock) _ _ t679 t691 t694 _ ?side1 ?side2 ?side3 ?side4 A23.out).mono ?_); (case side1 => have q_ := Aside0.mk (Kd.R_reads' HO_683001.out).2.2; exact cQ q_); (case side2 => exact (Kd.R_reads' HO_683001.out).2.1); (case side3 => exact Kd.R_V (Kd.R_tight rfl (Kd.R_types (HO_5.out) BK682.out (by decide)))); (case side4 => exact TabW.below HT.out (beQ HB)); rintro e w32 ⟨v692, rfl, ho0, hb⟩; refine ⟨_, rfl, ?_⟩; have HO693 := Aside0.mk (Kd.R_lower (Kd.R_new' (Kd.R_new' (Kd.R_new' (Kd.R_new' (Kd.R_mono (ok' := fun k_ => True) ho0 (fun _ hk_ => trivial)) (Kd.R_lt (kdQ HO_4))) (Kd.R_lt (kdQ HO_5))) (Kd.R_lt (kdQ HO_683001))) (Kd.R_lt (kdQ HO689))) (below_size (beQ HB))); replace HO_4 := Aside0.mk (Kd.R_elder' (kdQ HO_4) (Kd.R_base ho0) hb); replace HO_5 := Aside0.mk (Kd.R_elder' (kdQ HO_5) (Kd.R_base ho0) hb); replace HO_683001 := Aside0.mk (Kd.R_elder' (kdQ HO_683001) (Kd.R_base ho0) hb); replace HO689 := Aside0.mk (Kd.R_elder' (kdQ HO689) (Kd.R_base ho0) hb); replace BK682 := bb BK682 hb; replace HB := Aside0.mk (below_step (beQ HB) hb); (try clear hb); (try clear hb2); (try clear hk); (try clear hi); (try clear hgw_); (try clear ho0); have hcz33_0 : w32.cell? ⟨gb682, 0, none⟩ = some (.int .i64 t672) := bc BK682 0; have hcz33_1 : w32.cell? ⟨gb682, 1, none⟩ = some (.slice Ao11 t673.length co11) := bc BK682 1; have hfz33_0 := blk_frozen BK682.out 0; have hfz33_1 := blk_frozen BK682.out 1) | ((with_reducible refine gate_callee (f := 23) rfl ?_); refine goesL_ (some 69) rfl rfl Tryd.func23 (by kernel_rfl) rfl #[.agg #[.int .i64 t672, .slice Ao11 t673.length co11], .slice Ao14 t676.length co14] rfl lz ?_; (with_reducible refine (impl_FoataForm.calls kj6 t672 _ _ t673 (fun k_ => some k_ = (.slice Ao14 t676.length co14 : Value).ownBlock) _ _ t676 t695 t698 _ ?side1 ?side2 ?side3 ?side4 A24.out).mono ?_); (case side1 => have q_ := Aside0.mk (Kd.R_reads' HO_683001.out).2.2; exact cQ q_); (case side2 => exact (Kd.R_reads' HO_683001.out).2.1); (case side3 => exact Kd.R_V (Kd.R_tight rfl (Kd.R_types (HO_4.out) BK682.out (by decide)))); (case side4 => exact TabW.below HT.out (beQ HB)); rintro e w34 ⟨v696, rfl, ho0, hb⟩; refine ⟨_, rfl, ?_⟩; have HO697 := Aside0.mk (Kd.R_lower (Kd.R_new' (Kd.R_new' (Kd.R_new' (Kd.R_new' (Kd.R_new' (Kd.R_mono (ok' := fun k_ => True) ho0 (fun _ hk_ => trivial)) (Kd.R_lt (kdQ HO_4))) (Kd.R_lt (kdQ HO_5))) (Kd.R_lt (kdQ HO_683001))) (Kd.R_lt (kdQ HO689))) (Kd.R_lt (kdQ HO693))) (below_size (beQ HB))); replace HO_4 := Aside0.mk (Kd.R_elder' (kdQ HO_4) (Kd.R_base ho0) hb); replace HO_5 := Aside0.mk (Kd.R_elder' (kdQ HO_5) (Kd.R_base ho0) hb); replace HO_683001 := Aside0.mk (Kd.R_elder' (kdQ HO_683001) (Kd.R_base ho0) hb); replace HO689 := Aside0.mk (Kd.R_elder' (kdQ HO689) (Kd.R_base ho0) hb); replace HO693 := Aside0.mk (Kd.R_elder' (kdQ HO693) (Kd.R_base ho0) hb); replace BK682 := bb BK682 hb; replace HB := Aside0.mk (below_step (beQ HB) hb); (try clear hb); (try clear hb2); (try clear hk); (try clear hi); (try clear hgw_); (try clear ho0); have hcz35_0 : w34.cell? ⟨gb682, 0, none⟩ = some (.int .i64 t672) := bc BK682 0; have hcz35_1 : w34.cell? ⟨gb682, 1, none⟩ = some (.slice Ao11 t673.length co11) := bc BK682 1; have hfz35_0 := blk_frozen BK682.out 0; have hfz35_1 := blk_frozen BK682.out 1) | ((with_reducible refine gate_callee (f := 23) rfl ?_); refine goesL_ (some 75) rfl rfl Tryd.func23 (by kernel_rfl) rfl #[.agg #[.int .i64 t672, .slice Ao11 t673.length co11], .slice Ao15 t679.length co15] rfl lz ?_; (with_reducible refine (impl_FoataForm.calls kj6 t672 _ _ t673 (fun k_ => some k_ = (.slice Ao15 t679.length co15 : Value).ownBlock) _ _ t679 t699 t702 _ ?side1 ?side2 ?side3 ?side4 A25.out).mono ?_); (case side1 => have q_ := Aside0.mk (Kd.R_reads' HO_683001.out).2.2; exact cQ q_); (case side2 => exact (Kd.R_reads' HO_683001.out).2.1); (case side3 => exact Kd.R_V (Kd.R_tight rfl (Kd.R_types (HO_5.out) BK682.out (by decide)))); (case side4 => exact TabW.below HT.out (beQ HB)); rintro e w36 ⟨v700, rfl, ho0, hb⟩; refine ⟨_, rfl, ?_⟩; have HO701 := Aside0.mk (Kd.R_lower (Kd.R_new' (Kd.R_new' (Kd.R_new' (Kd.R_new' (Kd.R_new' (Kd.R_new' (Kd.R_mono (ok' := fun k_ => True) ho0 (fun _ hk_ => trivial)) (Kd.R_lt (kdQ HO_4))) (Kd.R_lt (kdQ HO_5))) (Kd.R_lt (kdQ HO_683001))) (Kd.R_lt (kdQ HO689))) (Kd.R_lt (kdQ HO693))) (Kd.R_lt (kdQ HO697))) (below_size (beQ HB))); replace HO_4 := Aside0.mk (Kd.R_elder' (kdQ HO_4) (Kd.R_base ho0) hb); replace HO_5 := Aside0.mk (Kd.R_elder' (kdQ HO_5) (Kd.R_base ho0) hb); replace HO_683001 := Aside0.mk (Kd.R_elder' (kdQ HO_683001) (Kd.R_base ho0) hb); replace HO689 := Aside0.mk (Kd.R_elder' (kdQ HO689) (Kd.R_base ho0) hb); replace HO693 := Aside0.mk (Kd.R_elder' (kdQ HO693) (Kd.R_base ho0) hb); replace HO697 := Aside0.mk (Kd.R_elder' (kdQ HO697) (Kd.R_base ho0) hb); replace BK682 := bb BK682 hb; replace HB := Aside0.mk (below_step (beQ HB) hb); (try clear hb); (try clear hb2); (try clear hk); (try clear hi); (try clear hgw_); (try clear ho0); have hcz37_0 : w36.cell? ⟨gb682, 0, none⟩ = some (.int .i64 t672) := bc BK682 0; have hcz37_1 : w36.cell? ⟨gb682, 1, none⟩ = some (.slice Ao11 t673.length co11) := bc BK682 1; have hfz37_0 := blk_frozen BK682.out 0; have hfz37_1 := blk_frozen BK682.out 1) | ((with_reducible refine gate_callee (f := 24) rfl ?_); refine goesL_ (some 81) rfl rfl Tryd.func24 (by kernel_rfl) rfl #[.agg #[.int .i64 t672, .slice Ao11 t673.length co11], .slice Ao14 t676.length co14] rfl lz ?_; (with_reducible refine (impl_PairProjections.calls kj6 t672 _ _ t673 (fun k_ => some k_ = (.slice Ao14 t676.length co14 : Value).ownBlock) _ _ t676 t703 t706 _ ?side1 ?side2 ?side3 ?side4 A26.out).mono ?_); (case side1 => have q_ := Aside0.mk (Kd.R_reads' HO_683001.out).2.2; exact cQ q_); (case side2 => exact (Kd.R_reads' HO_683001.out).2.1); (case side3 => exact Kd.R_V (Kd.R_tight rfl (Kd.R_types (HO_4.out) BK682.out (by decide)))); (case side4 => exact TabW.below HT.out (beQ HB)); rintro e w38 ⟨v704, rfl, ho0, hb⟩; refine ⟨_, rfl, ?_⟩; have HO705 := Aside0.mk (Kd.N_lower (Kd.N_mono (ok' := fun k_ => some k_ ≠ (.slice Ao15 t679.length co15 : Value).ownBlock ∧ some k_ ≠ (.slice Ao11 t673.length co11 : Value).ownBlock ∧ some k_ ≠ (v688 : Value).ownBlock ∧ some k_ ≠ (v692 : Value).ownBlock ∧ some k_ ≠ (v696 : Value).ownBlock ∧ some k_ ≠ (v700 : Value).ownBlock ∧ k_ ≠ gb682) ho0 (fun k_ hk_ => ⟨Or.elim hk_ (fun hs_ => ((Kd.R_types (HO_4.out) BK682.out (by decide)).1 k_ hs_.symm).1.1.1.1.1.1) (fun hn_ => (Kd.fresh' (Kd.R_lt (kdQ HO_5)) k_ hn_)), Or.elim hk_ (fun hs_ => ((Kd.R_types (HO_4.out) BK682.out (by decide)).1 k_ hs_.symm).1.1.1.1.1.2) (fun hn_ => (Kd.fresh' (Kd.R_lt (kdQ HO_683001)) k_ hn_)), Or.elim hk_ (fun hs_ => ((Kd.R_types (HO_4.out) BK682.out (by decide)).1 k_ hs_.symm).1.1.1.1.2) (fun hn_ => (Kd.fresh' (Kd.R_lt (kdQ HO689)) k_ hn_)), Or.elim hk_ (fun hs_ => ((Kd.R_types (HO_4.out) BK682.out (by decide)).1 k_ hs_.symm).1.1.1.2) (fun hn_ => (Kd.fresh' (Kd.R_lt (kdQ HO693)) k_ hn_)), Or.elim hk_ (fun hs_ => ((Kd.R_types (HO_4.out) BK682.out (by decide)).1 k_ hs_.symm).1.1.2) (fun hn_ => (Kd.fresh' (Kd.R_lt (kdQ HO697)) k_ hn_)), Or.elim hk_ (fun hs_ => ((Kd.R_types (HO_4.out) BK682.out (by decide)).1 k_ hs_.symm).1.2) (fun hn_ => (Kd.fresh' (Kd.R_lt (kdQ HO701)) k_ hn_)), Or.elim hk_ (fun hs_ => ((Kd.R_types (HO_4.out) BK682.out (by decide)).1 k_ hs_.symm).2) (fun hn_ => (Kd.freshB (g := gb682) (o := .cells #[.int .i64 t672, .slice Ao11 t673.length co11] 26 (0, 0)) (blkQ BK682) k_ hn_))⟩)) (below_size (beQ HB))); replace HO_4 := kb HO_4 hb; replace HO_5 := kb HO_5 hb; replace HO_683001 := kb HO_683001 hb; replace HO689 := kb HO689 hb; replace HO693 := kb HO693 hb; replace HO697 := kb HO697 hb; replace HO701 := kb HO701 hb; replace BK682 := bb BK682 hb; replace HB := Aside0.mk (below_step (beQ HB) hb); (try clear hb); (try clear hb2); (try clear hk); (try clear hi); (try clear hgw_); (try clear ho0); have hcz39_0 : w38.cell? ⟨gb682, 0, none⟩ = some (.int .i64 t672) := bc BK682 0; have hcz39_1 : w38.cell? ⟨gb682, 1, none⟩ = some (.slice Ao11 t673.length co11) := bc BK682 1; have hfz39_0 := blk_frozen BK682.out 0; have hfz39_1 := blk_frozen BK682.out 1) | ((with_reducible refine gate_callee (f := 24) rfl ?_); refine goesL_ (some 87) rfl rfl Tryd.func24 (by kernel_rfl) rfl #[.agg #[.int .i64 t672, .slice Ao11 t673.length co11], .slice Ao15 t679.length co15] rfl lz ?_; (with_reducible refine (impl_PairProjections.calls kj6 t672 _ _ t673 (fun k_ => some k_ = (.slice Ao15 t679.length co15 : Value).ownBlock) _ _ t679 t707 t710 _ ?side1 ?side2 ?side3 ?side4 A27.out).mono ?_); (case side1 => have q_ := Aside0.mk (Kd.R_reads' HO_683001.out).2.2; exact cQ q_); (case side2 => exact (Kd.R_reads' HO_683001.out).2.1); (case side3 => exact Kd.R_V (Kd.R_tight rfl (Kd.R_types (Kd.R_apart' (HO_5.out) (Kd.N_typed HO705.out) (by decide)) BK682.out (by decide)))); (case side4 => exact TabW.below HT.out (beQ HB)); rintro e w40 ⟨v708, rfl, ho0, hb⟩; refine ⟨_, rfl, ?_⟩; have HO709 := Aside0.mk (Kd.N_lower (Kd.N_mono (ok' := fun k_ => some k_ ≠ (.slice Ao14 t676.length co14 : Value).ownBlock ∧ some k_ ≠ (.slice Ao11 t673.length co11 : Value).ownBlock ∧ some k_ ≠ (v688 : Value).ownBlock ∧ some k_ ≠ (v692 : Value).ownBlock ∧ some k_ ≠ (v696 : Value).ownBlock ∧ some k_ ≠ (v700 : Value).ownBlock ∧ some k_ ≠ (v704 : Value).ownBlock ∧ k_ ≠ gb682) ho0 (fun k_ hk_ => ⟨Or.elim hk_ (fun hs_ => ((Kd.R_types (Kd.R_apart' (HO_5.out) (Kd.N_typed HO705.out) (by decide)) BK682.out (by decide)).1 k_ hs_.symm).1.1.1.1.1.1.1) (fun hn_ => (Kd.fresh' (Kd.R_lt (kdQ HO_4)) k_ hn_)), Or.elim hk_ (fun hs_ => ((Kd.R_types (Kd.R_apart' (HO_5.out) (Kd.N_typed HO705.out) (by decide)) BK682.out (by decide)).1 k_ hs_.symm).1.1.1.1.1.1.2) (fun hn_ => (Kd.fresh' (Kd.R_lt (kdQ HO_683001)) k_ hn_)), Or.elim hk_ (fun hs_ => ((Kd.R_types (Kd.R_apart' (HO_5.out) (Kd.N_typed HO705.out) (by decide)) BK682.out (by decide)).1 k_ hs_.symm).1.1.1.1.1.2) (fun hn_ => (Kd.fresh' (Kd.R_lt (kdQ HO689)) k_ hn_)), Or.elim hk_ (fun hs_ => ((Kd.R_types (Kd.R_apart' (HO_5.out) (Kd.N_typed HO705.out) (by decide)) BK682.out (by decide)).1 k_ hs_.symm).1.1.1.1.2) (fun hn_ => (Kd.fresh' (Kd.R_lt (kdQ HO693)) k_ hn_)), Or.elim hk_ (fun hs_ => ((Kd.R_types (Kd.R_apart' (HO_5.out) (Kd.N_typed HO705.out) (by decide)) BK682.out (by decide)).1 k_ hs_.symm).1.1.1.2) (fun hn_ => (Kd.fresh' (Kd.R_lt (kdQ HO697)) k_ hn_)), Or.elim hk_ (fun hs_ => ((Kd.R_types (Kd.R_apart' (HO_5.out) (Kd.N_typed HO705.out) (by decide)) BK682.out (by decide)).1 k_ hs_.symm).1.1.2) (fun hn_ => (Kd.fresh' (Kd.R_lt (kdQ HO701)) k_ hn_)), Or.elim hk_ (fun hs_ => ((Kd.R_types (Kd.R_apart' (HO_5.out) (Kd.N_typed HO705.out) (by decide)) BK682.out (by decide)).1 k_ hs_.symm).1.2) (fun hn_ => (Kd.fresh' (Kd.N_lt (by (with_reducible repeat (first | apply Kd.N_alloc | apply Kd.N_drewN | apply Kd.N_drew)); exact HO705.out)) k_ hn_)), Or.elim hk_ (fun hs_ => ((Kd.R_types (Kd.R_apart' (HO_5.out) (Kd.N_typed HO705.out) (by decide)) BK682.out (by decide)).1 k_ hs_.symm).2) (fun hn_ => (Kd.freshB (g := gb682) (o := .cells #[.int .i64 t672, .slice Ao11 t673.length co11] 26 (0, 0)) (blkQ BK682) k_ hn_))⟩)) (below_size (beQ HB))); replace HO_4 := kb HO_4 hb; replace HO_5 := kb HO_5 hb; replace HO_683001 := kb HO_683001 hb; replace HO689 := kb HO689 hb; replace HO693 := kb HO693 hb; replace HO697 := kb HO697 hb; replace HO701 := kb HO701 hb; replace HO705 := Aside0.mk (Kd.N_elder' (by (with_reducible repeat (first | apply Kd.N_alloc | apply Kd.N_drewN | apply Kd.N_drew)); exact HO705.out) (Kd.N_base ho0) hb); replace BK682 := bb BK682 hb; replace HB := Aside0.mk (below_step (beQ HB) hb); (try clear hb); (try clear hb2); (try clear hk); (try clear hi); (try clear hgw_); (try clear ho0)))
      (try simp only [Act.put, List.setIfInBounds_toArray, List.set_cons_zero, List.set_cons_succ])
      go_cut [111] (fun v111 wc => ∃ (kq : Nat) (x111_27 : Bool), v111 = .bool x111_27 ∧ Aside0 (laws_FnSameTraces.j1 kq t683 t687 t691 t695 t699 t703 t707 x111_27 = some r) ∧ Aside0 (kq ≤ kj6) ∧ Aside0 (Kd.R (Kd.int .i64) 2 wc w.heap.size (fun k_ => some k_ ≠ (v692 : Value).ownBlock ∧ some k_ ≠ (v696 : Value).ownBlock ∧ some k_ ≠ (v700 : Value).ownBlock ∧ some k_ ≠ ((.slice Ao11 t673.length co11) : Value).ownBlock) v688 t687) ∧ Aside0 (Kd.R (Kd.int .i64) 2 wc w.heap.size (fun k_ => some k_ ≠ (v688 : Value).ownBlock ∧ some k_ ≠ (v696 : Value).ownBlock ∧ some k_ ≠ (v700 : Value).ownBlock ∧ some k_ ≠ ((.slice Ao11 t673.length co11) : Value).ownBlock) v692 t691) ∧ Aside0 (Kd.R (Kd.int .i64) 2 wc w.heap.size (fun k_ => some k_ ≠ (v688 : Value).ownBlock ∧ some k_ ≠ (v692 : Value).ownBlock ∧ some k_ ≠ (v700 : Value).ownBlock ∧ some k_ ≠ ((.slice Ao11 t673.length co11) : Value).ownBlock) v696 t695) ∧ Aside0 (Kd.R (Kd.int .i64) 2 wc w.heap.size (fun k_ => some k_ ≠ (v688 : Value).ownBlock ∧ some k_ ≠ (v692 : Value).ownBlock ∧ some k_ ≠ (v696 : Value).ownBlock ∧ some k_ ≠ ((.slice Ao11 t673.length co11) : Value).ownBlock) v700 t699) ∧ Aside0 (Kd.N (Kd.slice 2 (Kd.int .i64)) 24 wc w.heap.size (fun k_ => some k_ ≠ (v688 : Value).ownBlock ∧ some k_ ≠ (v692 : Value).ownBlock ∧ some k_ ≠ (v696 : Value).ownBlock ∧ some k_ ≠ (v700 : Value).ownBlock ∧ some k_ ≠ (v708 : Value).ownBlock ∧ some k_ ≠ ((.slice Ao11 t673.length co11) : Value).ownBlock ∧ k_ ≠ gb682) v704 t703) ∧ Aside0 (Kd.N (Kd.slice 2 (Kd.int .i64)) 24 wc w.heap.size (fun k_ => some k_ ≠ (v688 : Value).ownBlock ∧ some k_ ≠ (v692 : Value).ownBlock ∧ some k_ ≠ (v696 : Value).ownBlock ∧ some k_ ≠ (v700 : Value).ownBlock ∧ some k_ ≠ (v704 : Value).ownBlock ∧ some k_ ≠ ((.slice Ao11 t673.length co11) : Value).ownBlock ∧ k_ ≠ gb682) v708 t707) ∧ Aside0 (Kd.R (Kd.int .i64) 2 wc w.heap.size (fun k_ => some k_ ≠ (v688 : Value).ownBlock ∧ some k_ ≠ (v692 : Value).ownBlock ∧ some k_ ≠ (v696 : Value).ownBlock ∧ some k_ ≠ (v700 : Value).ownBlock) (.slice Ao11 t673.length co11) t673) ∧ Aside0 (wc.heap[gb682]? = some (.cells #[.int .i64 t672, (.slice Ao11 t673.length co11)] 26 (0, 0))) ∧ Aside0 (Below w.heap.size w wc))
      case first =>
       have H := HC28.out; clear HC28
       by_cases c41 : t690 = 0
       ·rw [if_pos c41] at H
        have c41b0 : (t690 == 0) = true := beq_iff_eq.mpr c41
        have c41b1 : (t690 != 0) = false := bne_eq_false_iff_eq.mpr c41
        clear c41
        (first | rw [c41b0] | (simp only [i64_w, i32_w]; rw [c41b0]) | skip)
        by_cases c42 : t694 = 0
        ·rw [if_pos c42] at H
         have c42b0 : (t694 == 0) = true := beq_iff_eq.mpr c42
         have c42b1 : (t694 != 0) = false := bne_eq_false_iff_eq.mpr c42
         clear c42
         by_cases c43 : t698 = 0
         ·rw [if_pos c43] at H
          have c43b0 : (t698 == 0) = true := beq_iff_eq.mpr c43
          have c43b1 : (t698 != 0) = false := bne_eq_false_iff_eq.mpr c43
          clear c43
          by_cases c44 : t702 = 0
          ·rw [if_pos c44] at H
           have c44b0 : (t702 == 0) = true := beq_iff_eq.mpr c44
           have c44b1 : (t702 != 0) = false := bne_eq_false_iff_eq.mpr c44
           clear c44
           by_cases c45 : t706 = 0
           ·rw [if_pos c45] at H
            have c45b0 : (t706 == 0) = true := beq_iff_eq.mpr c45
            have c45b1 : (t706 != 0) = false := bne_eq_false_iff_eq.mpr c45
            clear c45
            have H' := Aside0.mk H
            clear H
            go_wp2
            go_meet
            case rel => exact ⟨_, ((t710 != 0)), sz, H', ⟨by have := HJ6.out; first | omega | exact Nat.le_refl _⟩, ⟨by (with_reducible repeat (first | apply Kd.R_alloc | apply Kd.R_drewN | apply Kd.R_drew)); exact Kd.R_mono HO689.out (fun _ hk => ⟨hk.1.1.2, ⟨hk.1.2, ⟨hk.2, hk.1.1.1.2⟩⟩⟩)⟩, ⟨by (with_reducible repeat (first | apply Kd.R_alloc | apply Kd.R_drewN | apply Kd.R_drew)); exact Kd.R_mono HO693.out (fun _ hk => ⟨hk.1.1.2, ⟨hk.1.2, ⟨hk.2, hk.1.1.1.2⟩⟩⟩)⟩, ⟨by (with_reducible repeat (first | apply Kd.R_alloc | apply Kd.R_drewN | apply Kd.R_drew)); exact Kd.R_mono HO697.out (fun _ hk => ⟨hk.1.1.2, ⟨hk.1.2, ⟨hk.2, hk.1.1.1.2⟩⟩⟩)⟩, ⟨by (with_reducible repeat (first | apply Kd.R_alloc | apply Kd.R_drewN | apply Kd.R_drew)); exact Kd.R_mono HO701.out (fun _ hk => ⟨hk.1.1.2, ⟨hk.1.2, ⟨hk.2, hk.1.1.1.2⟩⟩⟩)⟩, ⟨by (with_reducible repeat (first | apply Kd.N_alloc | apply Kd.N_drewN | apply Kd.N_drew)); exact Kd.N_mono HO705.out (fun _ hk => ⟨hk.1.2.2.1, ⟨hk.1.2.2.2.1, ⟨hk.1.2.2.2.2.1, ⟨hk.1.2.2.2.2.2.1, ⟨hk.2, ⟨hk.1.2.1, hk.1.2.2.2.2.2.2⟩⟩⟩⟩⟩⟩)⟩, ⟨by (with_reducible repeat (first | apply Kd.N_alloc | apply Kd.N_drewN | apply Kd.N_drew)); exact Kd.N_mono HO709.out (fun _ hk => ⟨hk.2.2.1, ⟨hk.2.2.2.1, ⟨hk.2.2.2.2.1, ⟨hk.2.2.2.2.2.1, ⟨hk.2.2.2.2.2.2.1, ⟨hk.2.1, hk.2.2.2.2.2.2.2⟩⟩⟩⟩⟩⟩)⟩, ⟨by (with_reducible repeat (first | apply Kd.R_alloc | apply Kd.R_drewN | apply Kd.R_drew)); exact Kd.R_mono HO_683001.out (fun _ hk => ⟨hk.1.1.1.2, ⟨hk.1.1.2, ⟨hk.1.2, hk.2⟩⟩⟩)⟩, ⟨blkQ BK682⟩, ⟨beQ HB⟩⟩
           ·rw [if_neg c45] at H
            have c45b0 : (t706 == 0) = false := beq_eq_false_iff_ne.mpr c45
            have c45b1 : (t706 != 0) = true := bne_iff_ne.mpr c45
            have H' := Aside0.mk H
            clear H
            go_wp2
            go_meet
            case rel => exact ⟨_, (true), sz, H', ⟨by have := HJ6.out; first | omega | exact Nat.le_refl _⟩, ⟨by (with_reducible repeat (first | apply Kd.R_alloc | apply Kd.R_drewN | apply Kd.R_drew)); exact Kd.R_mono HO689.out (fun _ hk => ⟨hk.1.1.2, ⟨hk.1.2, ⟨hk.2, hk.1.1.1.2⟩⟩⟩)⟩, ⟨by (with_reducible repeat (first | apply Kd.R_alloc | apply Kd.R_drewN | apply Kd.R_drew)); exact Kd.R_mono HO693.out (fun _ hk => ⟨hk.1.1.2, ⟨hk.1.2, ⟨hk.2, hk.1.1.1.2⟩⟩⟩)⟩, ⟨by (with_reducible repeat (first | apply Kd.R_alloc | apply Kd.R_drewN | apply Kd.R_drew)); exact Kd.R_mono HO697.out (fun _ hk => ⟨hk.1.1.2, ⟨hk.1.2, ⟨hk.2, hk.1.1.1.2⟩⟩⟩)⟩, ⟨by (with_reducible repeat (first | apply Kd.R_alloc | apply Kd.R_drewN | apply Kd.R_drew)); exact Kd.R_mono HO701.out (fun _ hk => ⟨hk.1.1.2, ⟨hk.1.2, ⟨hk.2, hk.1.1.1.2⟩⟩⟩)⟩, ⟨by (with_reducible repeat (first | apply Kd.N_alloc | apply Kd.N_drewN | apply Kd.N_drew)); exact Kd.N_mono HO705.out (fun _ hk => ⟨hk.1.2.2.1, ⟨hk.1.2.2.2.1, ⟨hk.1.2.2.2.2.1, ⟨hk.1.2.2.2.2.2.1, ⟨hk.2, ⟨hk.1.2.1, hk.1.2.2.2.2.2.2⟩⟩⟩⟩⟩⟩)⟩, ⟨by (with_reducible repeat (first | apply Kd.N_alloc | apply Kd.N_drewN | apply Kd.N_drew)); exact Kd.N_mono HO709.out (fun _ hk => ⟨hk.2.2.1, ⟨hk.2.2.2.1, ⟨hk.2.2.2.2.1, ⟨hk.2.2.2.2.2.1, ⟨hk.2.2.2.2.2.2.1, ⟨hk.2.1, hk.2.2.2.2.2.2.2⟩⟩⟩⟩⟩⟩)⟩, ⟨by (with_reducible repeat (first | apply Kd.R_alloc | apply Kd.R_drewN | apply Kd.R_drew)); exact Kd.R_mono HO_683001.out (fun _ hk => ⟨hk.1.1.1.2, ⟨hk.1.1.2, ⟨hk.1.2, hk.2⟩⟩⟩)⟩, ⟨blkQ BK682⟩, ⟨beQ HB⟩⟩
          ·rw [if_neg c44] at H
           have c44b0 : (t702 == 0) = false := beq_eq_false_iff_ne.mpr c44
           have c44b1 : (t702 != 0) = true := bne_iff_ne.mpr c44
           have H' := Aside0.mk H
           clear H
           go_wp2
           go_meet
           case rel => exact ⟨_, (true), sz, H', ⟨by have := HJ6.out; first | omega | exact Nat.le_refl _⟩, ⟨by (with_reducible repeat (first | apply Kd.R_alloc | apply Kd.R_drewN | apply Kd.R_drew)); exact Kd.R_mono HO689.out (fun _ hk => ⟨hk.1.1.2, ⟨hk.1.2, ⟨hk.2, hk.1.1.1.2⟩⟩⟩)⟩, ⟨by (with_reducible repeat (first | apply Kd.R_alloc | apply Kd.R_drewN | apply Kd.R_drew)); exact Kd.R_mono HO693.out (fun _ hk => ⟨hk.1.1.2, ⟨hk.1.2, ⟨hk.2, hk.1.1.1.2⟩⟩⟩)⟩, ⟨by (with_reducible repeat (first | apply Kd.R_alloc | apply Kd.R_drewN | apply Kd.R_drew)); exact Kd.R_mono HO697.out (fun _ hk => ⟨hk.1.1.2, ⟨hk.1.2, ⟨hk.2, hk.1.1.1.2⟩⟩⟩)⟩, ⟨by (with_reducible repeat (first | apply Kd.R_alloc | apply Kd.R_drewN | apply Kd.R_drew)); exact Kd.R_mono HO701.out (fun _ hk => ⟨hk.1.1.2, ⟨hk.1.2, ⟨hk.2, hk.1.1.1.2⟩⟩⟩)⟩, ⟨by (with_reducible repeat (first | apply Kd.N_alloc | apply Kd.N_drewN | apply Kd.N_drew)); exact Kd.N_mono HO705.out (fun _ hk => ⟨hk.1.2.2.1, ⟨hk.1.2.2.2.1, ⟨hk.1.2.2.2.2.1, ⟨hk.1.2.2.2.2.2.1, ⟨hk.2, ⟨hk.1.2.1, hk.1.2.2.2.2.2.2⟩⟩⟩⟩⟩⟩)⟩, ⟨by (with_reducible repeat (first | apply Kd.N_alloc | apply Kd.N_drewN | apply Kd.N_drew)); exact Kd.N_mono HO709.out (fun _ hk => ⟨hk.2.2.1, ⟨hk.2.2.2.1, ⟨hk.2.2.2.2.1, ⟨hk.2.2.2.2.2.1, ⟨hk.2.2.2.2.2.2.1, ⟨hk.2.1, hk.2.2.2.2.2.2.2⟩⟩⟩⟩⟩⟩)⟩, ⟨by (with_reducible repeat (first | apply Kd.R_alloc | apply Kd.R_drewN | apply Kd.R_drew)); exact Kd.R_mono HO_683001.out (fun _ hk => ⟨hk.1.1.1.2, ⟨hk.1.1.2, ⟨hk.1.2, hk.2⟩⟩⟩)⟩, ⟨blkQ BK682⟩, ⟨beQ HB⟩⟩
         ·rw [if_neg c43] at H
          have c43b0 : (t698 == 0) = false := beq_eq_false_iff_ne.mpr c43
          have c43b1 : (t698 != 0) = true := bne_iff_ne.mpr c43
          have H' := Aside0.mk H
          clear H
          go_wp2
          go_meet
          case rel => exact ⟨_, (true), sz, H', ⟨by have := HJ6.out; first | omega | exact Nat.le_refl _⟩, ⟨by (with_reducible repeat (first | apply Kd.R_alloc | apply Kd.R_drewN | apply Kd.R_drew)); exact Kd.R_mono HO689.out (fun _ hk => ⟨hk.1.1.2, ⟨hk.1.2, ⟨hk.2, hk.1.1.1.2⟩⟩⟩)⟩, ⟨by (with_reducible repeat (first | apply Kd.R_alloc | apply Kd.R_drewN | apply Kd.R_drew)); exact Kd.R_mono HO693.out (fun _ hk => ⟨hk.1.1.2, ⟨hk.1.2, ⟨hk.2, hk.1.1.1.2⟩⟩⟩)⟩, ⟨by (with_reducible repeat (first | apply Kd.R_alloc | apply Kd.R_drewN | apply Kd.R_drew)); exact Kd.R_mono HO697.out (fun _ hk => ⟨hk.1.1.2, ⟨hk.1.2, ⟨hk.2, hk.1.1.1.2⟩⟩⟩)⟩, ⟨by (with_reducible repeat (first | apply Kd.R_alloc | apply Kd.R_drewN | apply Kd.R_drew)); exact Kd.R_mono HO701.out (fun _ hk => ⟨hk.1.1.2, ⟨hk.1.2, ⟨hk.2, hk.1.1.1.2⟩⟩⟩)⟩, ⟨by (with_reducible repeat (first | apply Kd.N_alloc | apply Kd.N_drewN | apply Kd.N_drew)); exact Kd.N_mono HO705.out (fun _ hk => ⟨hk.1.2.2.1, ⟨hk.1.2.2.2.1, ⟨hk.1.2.2.2.2.1, ⟨hk.1.2.2.2.2.2.1, ⟨hk.2, ⟨hk.1.2.1, hk.1.2.2.2.2.2.2⟩⟩⟩⟩⟩⟩)⟩, ⟨by (with_reducible repeat (first | apply Kd.N_alloc | apply Kd.N_drewN | apply Kd.N_drew)); exact Kd.N_mono HO709.out (fun _ hk => ⟨hk.2.2.1, ⟨hk.2.2.2.1, ⟨hk.2.2.2.2.1, ⟨hk.2.2.2.2.2.1, ⟨hk.2.2.2.2.2.2.1, ⟨hk.2.1, hk.2.2.2.2.2.2.2⟩⟩⟩⟩⟩⟩)⟩, ⟨by (with_reducible repeat (first | apply Kd.R_alloc | apply Kd.R_drewN | apply Kd.R_drew)); exact Kd.R_mono HO_683001.out (fun _ hk => ⟨hk.1.1.1.2, ⟨hk.1.1.2, ⟨hk.1.2, hk.2⟩⟩⟩)⟩, ⟨blkQ BK682⟩, ⟨beQ HB⟩⟩
        ·rw [if_neg c42] at H
         have c42b0 : (t694 == 0) = false := beq_eq_false_iff_ne.mpr c42
         have c42b1 : (t694 != 0) = true := bne_iff_ne.mpr c42
         have H' := Aside0.mk H
         clear H
         go_wp2
         go_meet
         case rel => exact ⟨_, (true), sz, H', ⟨by have := HJ6.out; first | omega | exact Nat.le_refl _⟩, ⟨by (with_reducible repeat (first | apply Kd.R_alloc | apply Kd.R_drewN | apply Kd.R_drew)); exact Kd.R_mono HO689.out (fun _ hk => ⟨hk.1.1.2, ⟨hk.1.2, ⟨hk.2, hk.1.1.1.2⟩⟩⟩)⟩, ⟨by (with_reducible repeat (first | apply Kd.R_alloc | apply Kd.R_drewN | apply Kd.R_drew)); exact Kd.R_mono HO693.out (fun _ hk => ⟨hk.1.1.2, ⟨hk.1.2, ⟨hk.2, hk.1.1.1.2⟩⟩⟩)⟩, ⟨by (with_reducible repeat (first | apply Kd.R_alloc | apply Kd.R_drewN | apply Kd.R_drew)); exact Kd.R_mono HO697.out (fun _ hk => ⟨hk.1.1.2, ⟨hk.1.2, ⟨hk.2, hk.1.1.1.2⟩⟩⟩)⟩, ⟨by (with_reducible repeat (first | apply Kd.R_alloc | apply Kd.R_drewN | apply Kd.R_drew)); exact Kd.R_mono HO701.out (fun _ hk => ⟨hk.1.1.2, ⟨hk.1.2, ⟨hk.2, hk.1.1.1.2⟩⟩⟩)⟩, ⟨by (with_reducible repeat (first | apply Kd.N_alloc | apply Kd.N_drewN | apply Kd.N_drew)); exact Kd.N_mono HO705.out (fun _ hk => ⟨hk.1.2.2.1, ⟨hk.1.2.2.2.1, ⟨hk.1.2.2.2.2.1, ⟨hk.1.2.2.2.2.2.1, ⟨hk.2, ⟨hk.1.2.1, hk.1.2.2.2.2.2.2⟩⟩⟩⟩⟩⟩)⟩, ⟨by (with_reducible repeat (first | apply Kd.N_alloc | apply Kd.N_drewN | apply Kd.N_drew)); exact Kd.N_mono HO709.out (fun _ hk => ⟨hk.2.2.1, ⟨hk.2.2.2.1, ⟨hk.2.2.2.2.1, ⟨hk.2.2.2.2.2.1, ⟨hk.2.2.2.2.2.2.1, ⟨hk.2.1, hk.2.2.2.2.2.2.2⟩⟩⟩⟩⟩⟩)⟩, ⟨by (with_reducible repeat (first | apply Kd.R_alloc | apply Kd.R_drewN | apply Kd.R_drew)); exact Kd.R_mono HO_683001.out (fun _ hk => ⟨hk.1.1.1.2, ⟨hk.1.1.2, ⟨hk.1.2, hk.2⟩⟩⟩)⟩, ⟨blkQ BK682⟩, ⟨beQ HB⟩⟩
       ·rw [if_neg c41] at H
        have c41b0 : (t690 == 0) = false := beq_eq_false_iff_ne.mpr c41
        have c41b1 : (t690 != 0) = true := bne_iff_ne.mpr c41
        (first | rw [c41b0] | (simp only [i64_w, i32_w]; rw [c41b0]) | skip)
        have H' := Aside0.mk H
        clear H
        go_wp2
        go_meet
        case rel => exact ⟨_, (true), sz, H', ⟨by have := HJ6.out; first | omega | exact Nat.le_refl _⟩, ⟨by (with_reducible repeat (first | apply Kd.R_alloc | apply Kd.R_drewN | apply Kd.R_drew)); exact Kd.R_mono HO689.out (fun _ hk => ⟨hk.1.1.2, ⟨hk.1.2, ⟨hk.2, hk.1.1.1.2⟩⟩⟩)⟩, ⟨by (with_reducible repeat (first | apply Kd.R_alloc | apply Kd.R_drewN | apply Kd.R_drew)); exact Kd.R_mono HO693.out (fun _ hk => ⟨hk.1.1.2, ⟨hk.1.2, ⟨hk.2, hk.1.1.1.2⟩⟩⟩)⟩, ⟨by (with_reducible repeat (first | apply Kd.R_alloc | apply Kd.R_drewN | apply Kd.R_drew)); exact Kd.R_mono HO697.out (fun _ hk => ⟨hk.1.1.2, ⟨hk.1.2, ⟨hk.2, hk.1.1.1.2⟩⟩⟩)⟩, ⟨by (with_reducible repeat (first | apply Kd.R_alloc | apply Kd.R_drewN | apply Kd.R_drew)); exact Kd.R_mono HO701.out (fun _ hk => ⟨hk.1.1.2, ⟨hk.1.2, ⟨hk.2, hk.1.1.1.2⟩⟩⟩)⟩, ⟨by (with_reducible repeat (first | apply Kd.N_alloc | apply Kd.N_drewN | apply Kd.N_drew)); exact Kd.N_mono HO705.out (fun _ hk => ⟨hk.1.2.2.1, ⟨hk.1.2.2.2.1, ⟨hk.1.2.2.2.2.1, ⟨hk.1.2.2.2.2.2.1, ⟨hk.2, ⟨hk.1.2.1, hk.1.2.2.2.2.2.2⟩⟩⟩⟩⟩⟩)⟩, ⟨by (with_reducible repeat (first | apply Kd.N_alloc | apply Kd.N_drewN | apply Kd.N_drew)); exact Kd.N_mono HO709.out (fun _ hk => ⟨hk.2.2.1, ⟨hk.2.2.2.1, ⟨hk.2.2.2.2.1, ⟨hk.2.2.2.2.2.1, ⟨hk.2.2.2.2.2.2.1, ⟨hk.2.1, hk.2.2.2.2.2.2.2⟩⟩⟩⟩⟩⟩)⟩, ⟨by (with_reducible repeat (first | apply Kd.R_alloc | apply Kd.R_drewN | apply Kd.R_drew)); exact Kd.R_mono HO_683001.out (fun _ hk => ⟨hk.1.1.1.2, ⟨hk.1.1.2, ⟨hk.1.2, hk.2⟩⟩⟩)⟩, ⟨blkQ BK682⟩, ⟨beQ HB⟩⟩
      case rest =>
       clear HC28
       try clear c1
       try clear c2
       try clear p2
       try clear c3
       try clear c4
       try clear c9
       try clear c11
       try clear c17
       try clear c19
       try clear c19b0
       try clear c19b1
       try clear c20
       try clear c21
       try clear c21b0
       try clear c21b1
       try clear c22
       try clear c23
       try clear c24
       try clear c41
       try clear c41b0
       try clear c41b1
       try clear c42
       try clear c42b0
       try clear c42b1
       try clear c43
       try clear c43b0
       try clear c43b1
       try clear c44
       try clear c44b0
       try clear c44b1
       try clear c45
       try clear c45b0
       try clear c45b1
       try clear hcz10_0
       try clear hcz10_1
       try clear hcz13_0
       try clear hcz13_1
       try clear hcz17_0
       try clear hcz17_1
       try clear hcz29_0
       try clear hcz29_1
       try clear hcz31_0
       try clear hcz31_1
       try clear hcz33_0
       try clear hcz33_1
       try clear hcz35_0
       try clear hcz35_1
       try clear hcz37_0
       try clear hcz37_1
       try clear hcz39_0
       try clear hcz39_1
       try clear hfz10_0
       try clear hfz10_1
       try clear hfz13_0
       try clear hfz13_1
       try clear hfz17_0
       try clear hfz17_1
       try clear hfz29_0
       try clear hfz29_1
       try clear hfz31_0
       try clear hfz31_1
       try clear hfz33_0
       try clear hfz33_1
       try clear hfz35_0
       try clear hfz35_1
       try clear hfz37_0
       try clear hfz37_1
       try clear hfz39_0
       try clear hfz39_1
       try clear p2
       obtain ⟨kq, x111_27, rfl, HA, HJ27, HO_10, HO_12, HO_14, HO_16, HO_18, HO_20, HO_683001, BK682, HB⟩ := hcut
       cases kq with
       | zero => exact absurd HA.out (by simp [laws_FnSameTraces.j1])
       | succ kj27 =>
        have H := HA.out; clear HA
        simp only [laws_FnSameTraces.j1] at H
        by_cases c46 : x111_27 = true
        ·subst c46
         have H1 : (some false) = some r := by rw [if_pos rfl] at H; exact H
         clear H; have H := H1; clear H1
         obtain rfl := Option.some.inj H
         go_wp2
         go_ret
         exact ⟨rz, beQ HB⟩
        ·replace c46 := Bool.eq_false_iff.mpr c46
         subst c46
         have H1 : ((laws_likeInts.f kj27 t687 t691).bind fun t711 => (if (t711 == t683) = true then ((laws_likeInts.f kj27 t695 t699).bind fun t712 => (if (t712 == t683) = true then ((laws_likeRows5.f kj27 t703 t707).bind fun t713 => (some (t713 == t683))) else (some false))) else (some false))) = some r := by rw [if_neg (show ¬ (false = true) by decide)] at H; exact H
         clear H; have H := H1; clear H1; replace H := Option.bind_eq_some_iff.mp H; obtain ⟨t711, A470, H⟩ := H
         replace H : (if (t711 == t683) = true then ((laws_likeInts.f kj27 t695 t699).bind fun t712 => (if (t712 == t683) = true then ((laws_likeRows5.f kj27 t703 t707).bind fun t713 => (some (t713 == t683))) else (some false))) else (some false)) = some r := H
         have A47 := Aside0.mk A470; clear A470
         by_cases c48 : (t711 == t683) = true
         ·rw [if_pos c48] at H
          have c48b0 : (t711 == t683) = true := c48
          (try (have c48b1 : decide (t711 = t683) = true := by simpa using c48))
          (try (have c48b2 : (t711 == t683) = true := by simpa using c48))
          clear c48; replace H := Option.bind_eq_some_iff.mp H; obtain ⟨t712, A490, H⟩ := H
          replace H : (if (t712 == t683) = true then ((laws_likeRows5.f kj27 t703 t707).bind fun t713 => (some (t713 == t683))) else (some false)) = some r := H
          have A49 := Aside0.mk A490; clear A490
          by_cases c50 : (t712 == t683) = true
          ·rw [if_pos c50] at H
           have c50b0 : (t712 == t683) = true := c50
           (try (have c50b1 : decide (t712 = t683) = true := by simpa using c50))
           (try (have c50b2 : (t712 == t683) = true := by simpa using c50))
           clear c50; replace H := Option.bind_eq_some_iff.mp H; obtain ⟨t713, A510, H⟩ := H
           replace H : (some (t713 == t683)) = some r := H
           have A51 := Aside0.mk A510; clear A510
           obtain rfl := Option.some.inj H
           obtain ⟨Ao52, co52, eo52⟩ := Kd.R_slice HO_10.out; subst eo52; obtain ⟨Ao53, co53, eo53⟩ := Kd.R_slice HO_12.out; subst eo53
           go_wp2_with (first | ((with_reducible refine gate_callee (f := 13) rfl ?_); refine goesL_ (some 114) rfl rfl Tryd.func13 (by kernel_rfl) rfl #[.slice Ao52 t687.length co52, .slice Ao53 t691.length co53] rfl lz ?_; (with_reducible refine (laws_likeInts.calls kj27 _ _ t687 _ _ t691 t711 _ ?side1 ?side2 ?side3 ?side4 A47.out).mono ?_); (case side1 => have q_ := Aside0.mk (Kd.R_reads' HO_10.out).2.2; exact cQ q_); (case side2 => exact (Kd.R_reads' HO_10.out).2.1); (case side3 => have q_ := Aside0.mk (Kd.R_reads' HO_12.out).2.2; exact cQ q_); (case side4 => exact (Kd.R_reads' HO_12.out).2.1); rintro e w' ⟨rfl, ⟨nd, rfl⟩⟩; refine ⟨_, rfl, ?_⟩; obtain ⟨Ao54, co54, eo54⟩ := Kd.R_slice HO_14.out; subst eo54; obtain ⟨Ao55, co55, eo55⟩ := Kd.R_slice HO_16.out; subst eo55) | (go_at_call 13; (with_reducible refine (laws_likeInts.calls kj27 _ _ t695 _ _ t699 t712 _ ?side1 ?side2 ?side3 ?side4 A49.out).mono ?_); (case side1 => have q_ := Aside0.mk (Kd.R_reads' HO_14.out).2.2; exact cQ q_); (case side2 => exact (Kd.R_reads' HO_14.out).2.1); (case side3 => have q_ := Aside0.mk (Kd.R_reads' HO_16.out).2.2; exact cQ q_); (case side4 => exact (Kd.R_reads' HO_16.out).2.1); rintro e w' ⟨rfl, ⟨nd, rfl⟩⟩; obtain ⟨Ao56, co56, eo56⟩ := Kd.N_slice HO_18.out; subst eo56; obtain ⟨Ao57, co57, eo57⟩ := Kd.N_slice HO_20.out; subst eo57) | (go_at_call 25; (with_reducible refine (laws_likeRows5.calls kj27 _ _ t703 _ _ t707 t713 _ ?side1 ?side2 ?side3 ?side4 A51.out).mono ?_); (case side1 => have q_ := Aside0.mk (Kd.N_reads' HO_18.out).2.2; exact cQ q_); (case side2 => exact (Kd.N_reads' HO_18.out).2.1); (case side3 => have q_ := Aside0.mk (Kd.N_reads' HO_20.out).2.2; exact cQ q_); (case side4 => exact (Kd.N_reads' HO_20.out).2.1); rintro e w' ⟨rfl, ⟨nd, rfl⟩⟩))
           go_ret
           exact ⟨rz, beQ HB⟩
          ·rw [if_neg c50] at H
           have c50b0 : (t712 == t683) = false := by simpa using c50
           (try (have c50b1 : decide (t712 = t683) = false := by simpa using c50))
           (try (have c50b2 : (t712 == t683) = false := by simpa using c50))
           (try (have c50b3 : ¬ (t712 = t683) := by simpa using c50))
           clear c50
           obtain rfl := Option.some.inj H
           obtain ⟨Ao58, co58, eo58⟩ := Kd.R_slice HO_10.out; subst eo58; obtain ⟨Ao59, co59, eo59⟩ := Kd.R_slice HO_12.out; subst eo59
           go_wp2_with (first | ((with_reducible refine gate_callee (f := 13) rfl ?_); refine goesL_ (some 114) rfl rfl Tryd.func13 (by kernel_rfl) rfl #[.slice Ao58 t687.length co58, .slice Ao59 t691.length co59] rfl lz ?_; (with_reducible refine (laws_likeInts.calls kj27 _ _ t687 _ _ t691 t711 _ ?side1 ?side2 ?side3 ?side4 A47.out).mono ?_); (case side1 => have q_ := Aside0.mk (Kd.R_reads' HO_10.out).2.2; exact cQ q_); (case side2 => exact (Kd.R_reads' HO_10.out).2.1); (case side3 => have q_ := Aside0.mk (Kd.R_reads' HO_12.out).2.2; exact cQ q_); (case side4 => exact (Kd.R_reads' HO_12.out).2.1); rintro e w' ⟨rfl, ⟨nd, rfl⟩⟩; refine ⟨_, rfl, ?_⟩; obtain ⟨Ao60, co60, eo60⟩ := Kd.R_slice HO_14.out; subst eo60; obtain ⟨Ao61, co61, eo61⟩ := Kd.R_slice HO_16.out; subst eo61) | (go_at_call 13; (with_reducible refine (laws_likeInts.calls kj27 _ _ t695 _ _ t699 t712 _ ?side1 ?side2 ?side3 ?side4 A49.out).mono ?_); (case side1 => have q_ := Aside0.mk (Kd.R_reads' HO_14.out).2.2; exact cQ q_); (case side2 => exact (Kd.R_reads' HO_14.out).2.1); (case side3 => have q_ := Aside0.mk (Kd.R_reads' HO_16.out).2.2; exact cQ q_); (case side4 => exact (Kd.R_reads' HO_16.out).2.1); rintro e w' ⟨rfl, ⟨nd, rfl⟩⟩))
           go_ret
           exact ⟨rz, beQ HB⟩
         ·rw [if_neg c48] at H
          have c48b0 : (t711 == t683) = false := by simpa using c48
          (try (have c48b1 : decide (t711 = t683) = false := by simpa using c48))
          (try (have c48b2 : (t711 == t683) = false := by simpa using c48))
          (try (have c48b3 : ¬ (t711 = t683) := by simpa using c48))
          clear c48
          obtain rfl := Option.some.inj H
          obtain ⟨Ao62, co62, eo62⟩ := Kd.R_slice HO_10.out; subst eo62; obtain ⟨Ao63, co63, eo63⟩ := Kd.R_slice HO_12.out; subst eo63
          go_wp2_with (first | ((with_reducible refine gate_callee (f := 13) rfl ?_); refine goesL_ (some 114) rfl rfl Tryd.func13 (by kernel_rfl) rfl #[.slice Ao62 t687.length co62, .slice Ao63 t691.length co63] rfl lz ?_; (with_reducible refine (laws_likeInts.calls kj27 _ _ t687 _ _ t691 t711 _ ?side1 ?side2 ?side3 ?side4 A47.out).mono ?_); (case side1 => have q_ := Aside0.mk (Kd.R_reads' HO_10.out).2.2; exact cQ q_); (case side2 => exact (Kd.R_reads' HO_10.out).2.1); (case side3 => have q_ := Aside0.mk (Kd.R_reads' HO_12.out).2.2; exact cQ q_); (case side4 => exact (Kd.R_reads' HO_12.out).2.1); rintro e w' ⟨rfl, ⟨nd, rfl⟩⟩; refine ⟨_, rfl, ?_⟩))
          go_ret
          exact ⟨rz, beQ HB⟩
     ·rw [if_neg c21] at H
      have c21b0 : (t684 == 0) = false := beq_eq_false_iff_ne.mpr c21
      have c21b1 : (t684 != 0) = true := bne_iff_ne.mpr c21
      obtain rfl := Option.some.inj H
      go_wp2
      go_ret
      exact ⟨rz, beQ HB⟩
end Go.Proofs.YtleeihpmniabhaaDoor.G
