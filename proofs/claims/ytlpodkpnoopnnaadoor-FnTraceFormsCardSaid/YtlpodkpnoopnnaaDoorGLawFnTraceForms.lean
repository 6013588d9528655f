/- How the program's functions compute, function by function: each is told by a plain Lean function of the same answers, under the condition that this one answers. Written by a program of this project over the seat's translation; Lean checks it. -/
import Derived.Test.YtlpodkpnoopnnaaDoorG0
import Derived.Test.YtlpodkpnoopnnaaDoorGQ12
import Derived.Test.YtlpodkpnoopnnaaDoorGQ19
import Derived.Test.YtlpodkpnoopnnaaDoorGQ25
import Derived.Test.YtlpodkpnoopnnaaDoorGQ26
import Derived.Test.YtlpodkpnoopnnaaDoorGQ31
namespace Go.Proofs.YtlpodkpnoopnnaaDoor.G
open Go.RowKit Go.Proofs.YtlpodkpnoopnnaaDoorW.PrintWords Go.Proofs.YtlpodkpnoopnnaaDoorW.PrintLast Go.Proofs.YtlpodkpnoopnnaaDoorW.PrintMore
attribute [local go_sem] max2_int min2_int max_two min_two max_three min_three max_four min_four   -- for this text's walks alone
set_option linter.unusedVariables false
set_option linter.unusedSimpArgs false

/-! ### laws_FnTraceForms: function 14 -/
mutual
def laws_FnTraceForms.j0 : Nat → List Int → List Int → Bool → Int → List Int → Option (Bool)
 | 0, _, _, _, _, _ => none
 | k + 1, x1, x2, x30, x1100000, x1100001 => if x30 = true then (some true) else ((impl_AreSameTrace.f k x1100000 x1100001 x1 x2).bind fun bt1100 => ((spec_AreSameTrace.f k x1100000 x1100001 x1 x2).bind fun bt1102 => (if bt1100.2 = bt1102.2 then (laws_FnTraceForms.j1 k x1 x2 bt1100.1 bt1100.2 (bt1100.1 != bt1102.1) x1100000 x1100001) else (laws_FnTraceForms.j1 k x1 x2 bt1100.1 bt1100.2 true x1100000 x1100001))))
def laws_FnTraceForms.j1 : Nat → List Int → List Int → Bool → Int → Bool → Int → List Int → Option (Bool)
 | 0, _, _, _, _, _, _, _ => none
 | k + 1, x1, x2, x7, x8, x52, x1100000, x1100001 => if x52 = true then (some false) else (if x8 = 0 then ((impl_NormalForm.f k x1100000 x1100001 x1).bind fun bt1104 => ((impl_NormalForm.f k x1100000 x1100001 x2).bind fun bt1108 => ((impl_FoataForm.f k x1100000 x1100001 x1).bind fun bt1112 => ((impl_FoataForm.f k x1100000 x1100001 x2).bind fun bt1116 => ((impl_PairProjections.f k x1100000 x1100001 x1).bind fun bt1120 => ((impl_PairProjections.f k x1100000 x1100001 x2).bind fun bt1124 => (if bt1104.2 = 0 then (if bt1108.2 = 0 then (if bt1112.2 = 0 then (if bt1116.2 = 0 then (laws_FnTraceForms.j2 k x7 bt1104.1 bt1108.1 bt1112.1 bt1116.1 bt1120.1 bt1120.2 bt1124.1 (bt1120.2 != bt1124.2)) else (laws_FnTraceForms.j2 k x7 bt1104.1 bt1108.1 bt1112.1 bt1116.1 bt1120.1 bt1120.2 bt1124.1 true)) else (laws_FnTraceForms.j2 k x7 bt1104.1 bt1108.1 bt1112.1 bt1116.1 bt1120.1 bt1120.2 bt1124.1 true)) else (laws_FnTraceForms.j2 k x7 bt1104.1 bt1108.1 bt1112.1 bt1116.1 bt1120.1 bt1120.2 bt1124.1 true)) else (laws_FnTraceForms.j2 k x7 bt1104.1 bt1108.1 bt1112.1 bt1116.1 bt1120.1 bt1120.2 bt1124.1 true)))))))) else (some true))
def laws_FnTraceForms.j2 : Nat → Bool → List Int → List Int → List Int → List Int → List (List Int) → Int → List (List Int) → Bool → Option (Bool)
 | 0, _, _, _, _, _, _, _, _, _ => none
 | k + 1, x7, x11, x13, x15, x17, x19, x20, x21, x109 => if x109 = true then (some false) else ((laws_likeInts.f k x11 x13).bind fun t1128 => (if (t1128 != x7) = true then (some false) else ((laws_likeInts.f k x15 x17).bind fun t1129 => (if (t1129 != x7) = true then (some false) else (if x20 = 0 then ((laws_likeRows5.f k x19 x21).bind fun t1130 => (some (t1130 == x7))) else (some true))))))
end
def laws_FnTraceForms.f (k : Nat) (a0_0 : Int) (l0_1 : List Int) (l1 : List Int) (l2 : List Int) : Option (Bool) := if (l1.length : Int) > 65536 then (laws_FnTraceForms.j0 k l1 l2 true a0_0 l0_1) else (laws_FnTraceForms.j0 k l1 l2 (decide ((l2.length : Int) > 65536)) a0_0 l0_1)
theorem laws_FnTraceForms.mono_l : ∀ k, (∀ y0 y1 y2 y3 y4, LeO (laws_FnTraceForms.j0 k y0 y1 y2 y3 y4) (laws_FnTraceForms.j0 (k + 1) y0 y1 y2 y3 y4)) ∧ (∀ y0 y1 y2 y3 y4 y5 y6, LeO (laws_FnTraceForms.j1 k y0 y1 y2 y3 y4 y5 y6) (laws_FnTraceForms.j1 (k + 1) y0 y1 y2 y3 y4 y5 y6)) ∧ (∀ y0 y1 y2 y3 y4 y5 y6 y7 y8, LeO (laws_FnTraceForms.j2 k y0 y1 y2 y3 y4 y5 y6 y7 y8) (laws_FnTraceForms.j2 (k + 1) y0 y1 y2 y3 y4 y5 y6 y7 y8))
 | 0 => ⟨fun _ _ _ _ _ r h => by simp [laws_FnTraceForms.j0] at h, fun _ _ _ _ _ _ _ r h => by simp [laws_FnTraceForms.j1] at h, fun _ _ _ _ _ _ _ _ _ r h => by simp [laws_FnTraceForms.j2] at h⟩
 | k + 1 => by
  obtain ⟨ih0, ih1, ih2⟩ := laws_FnTraceForms.mono_l k
  refine ⟨?_, ?_, ?_⟩
  ·intro y0 y1 y2 y3 y4
   unfold laws_FnTraceForms.j0
   repeat' first
   | (with_reducible exact ih0 _ _ _ _ _)
   | (with_reducible exact ih1 _ _ _ _ _ _ _)
   | (with_reducible exact ih2 _ _ _ _ _ _ _ _ _)
   | (with_reducible exact impl_AreSameTrace.mono _ _ _ _ _)
   | (with_reducible exact impl_FoataForm.mono _ _ _ _)
   | (with_reducible exact impl_NormalForm.mono _ _ _ _)
   | (with_reducible exact impl_PairProjections.mono _ _ _ _)
   | (with_reducible exact laws_likeInts.mono _ _ _)
   | (with_reducible exact laws_likeRows5.mono _ _ _)
   | (with_reducible exact spec_AreSameTrace.mono _ _ _ _ _)
   | (with_reducible exact LeO.refl _)
   | (with_reducible exact LeO.none _)
   | (with_reducible refine LeO.ite ?_ ?_)
   | (with_reducible refine LeO.bind ?_ (fun _ => ?_))
   | exact ih0 _ _ _ _ _
   | exact ih1 _ _ _ _ _ _ _
   | exact ih2 _ _ _ _ _ _ _ _ _
   | exact impl_AreSameTrace.mono _ _ _ _ _
   | exact impl_FoataForm.mono _ _ _ _
   | exact impl_NormalForm.mono _ _ _ _
   | exact impl_PairProjections.mono _ _ _ _
   | exact laws_likeInts.mono _ _ _
   | exact laws_likeRows5.mono _ _ _
   | exact spec_AreSameTrace.mono _ _ _ _ _
   | exact LeO.none _
   | refine LeO.ite ?_ ?_
   | refine LeO.bind ?_ (fun _ => ?_)
  ·intro y0 y1 y2 y3 y4 y5 y6
   unfold laws_FnTraceForms.j1
   repeat' first
   | (with_reducible exact ih0 _ _ _ _ _)
   | (with_reducible exact ih1 _ _ _ _ _ _ _)
   | (with_reducible exact ih2 _ _ _ _ _ _ _ _ _)
   | (with_reducible exact impl_AreSameTrace.mono _ _ _ _ _)
   | (with_reducible exact impl_FoataForm.mono _ _ _ _)
   | (with_reducible exact impl_NormalForm.mono _ _ _ _)
   | (with_reducible exact impl_PairProjections.mono _ _ _ _)
   | (with_reducible exact laws_likeInts.mono _ _ _)
   | (with_reducible exact laws_likeRows5.mono _ _ _)
   | (with_reducible exact spec_AreSameTrace.mono _ _ _ _ _)
   | (with_reducible exact LeO.refl _)
   | (with_reducible exact LeO.none _)
   | (with_reducible refine LeO.ite ?_ ?_)
   | (with_reducible refine LeO.bind ?_ (fun _ => ?_))
   | exact ih0 _ _ _ _ _
   | exact ih1 _ _ _ _ _ _ _
   | exact ih2 _ _ _ _ _ _ _ _ _
   | exact impl_AreSameTrace.mono _ _ _ _ _
   | exact impl_FoataForm.mono _ _ _ _
   | exact impl_NormalForm.mono _ _ _ _
   | exact impl_PairProjections.mono _ _ _ _
   | exact laws_likeInts.mono _ _ _
   | exact laws_likeRows5.mono _ _ _
   | exact spec_AreSameTrace.mono _ _ _ _ _
   | exact LeO.none _
   | refine LeO.ite ?_ ?_
   | refine LeO.bind ?_ (fun _ => ?_)
  ·intro y0 y1 y2 y3 y4 y5 y6 y7 y8
   unfold laws_FnTraceForms.j2
   repeat' first
   | (with_reducible exact ih0 _ _ _ _ _)
   | (with_reducible exact ih1 _ _ _ _ _ _ _)
   | (with_reducible exact ih2 _ _ _ _ _ _ _ _ _)
   | (with_reducible exact impl_AreSameTrace.mono _ _ _ _ _)
   | (with_reducible exact impl_FoataForm.mono _ _ _ _)
   | (with_reducible exact impl_NormalForm.mono _ _ _ _)
   | (with_reducible exact impl_PairProjections.mono _ _ _ _)
   | (with_reducible exact laws_likeInts.mono _ _ _)
   | (with_reducible exact laws_likeRows5.mono _ _ _)
   | (with_reducible exact spec_AreSameTrace.mono _ _ _ _ _)
   | (with_reducible exact LeO.refl _)
   | (with_reducible exact LeO.none _)
   | (with_reducible refine LeO.ite ?_ ?_)
   | (with_reducible refine LeO.bind ?_ (fun _ => ?_))
   | exact ih0 _ _ _ _ _
   | exact ih1 _ _ _ _ _ _ _
   | exact ih2 _ _ _ _ _ _ _ _ _
   | exact impl_AreSameTrace.mono _ _ _ _ _
   | exact impl_FoataForm.mono _ _ _ _
   | exact impl_NormalForm.mono _ _ _ _
   | exact impl_PairProjections.mono _ _ _ _
   | exact laws_likeInts.mono _ _ _
   | exact laws_likeRows5.mono _ _ _
   | exact spec_AreSameTrace.mono _ _ _ _ _
   | exact LeO.none _
   | refine LeO.ite ?_ ?_
   | refine LeO.bind ?_ (fun _ => ?_)
theorem laws_FnTraceForms.mono : ∀ a0 a1 a2 a3 k, LeO (laws_FnTraceForms.f k a0 a1 a2 a3) (laws_FnTraceForms.f (k + 1) a0 a1 a2 a3) := by
 intro a0 a1 a2 a3 k
 obtain ⟨ih0, ih1, ih2⟩ := laws_FnTraceForms.mono_l k
 unfold laws_FnTraceForms.f
 repeat' first
   | (with_reducible exact ih0 _ _ _ _ _)
   | (with_reducible exact ih1 _ _ _ _ _ _ _)
   | (with_reducible exact ih2 _ _ _ _ _ _ _ _ _)
   | (with_reducible exact impl_AreSameTrace.mono _ _ _ _ _)
   | (with_reducible exact impl_FoataForm.mono _ _ _ _)
   | (with_reducible exact impl_NormalForm.mono _ _ _ _)
   | (with_reducible exact impl_PairProjections.mono _ _ _ _)
   | (with_reducible exact laws_likeInts.mono _ _ _)
   | (with_reducible exact laws_likeRows5.mono _ _ _)
   | (with_reducible exact spec_AreSameTrace.mono _ _ _ _ _)
   | (with_reducible exact LeO.refl _)
   | (with_reducible exact LeO.none _)
   | (with_reducible refine LeO.ite ?_ ?_)
   | (with_reducible refine LeO.bind ?_ (fun _ => ?_))
   | exact ih0 _ _ _ _ _
   | exact ih1 _ _ _ _ _ _ _
   | exact ih2 _ _ _ _ _ _ _ _ _
   | exact impl_AreSameTrace.mono _ _ _ _ _
   | exact impl_FoataForm.mono _ _ _ _
   | exact impl_NormalForm.mono _ _ _ _
   | exact impl_PairProjections.mono _ _ _ _
   | exact laws_likeInts.mono _ _ _
   | exact laws_likeRows5.mono _ _ _
   | exact spec_AreSameTrace.mono _ _ _ _ _
   | exact LeO.none _
   | refine LeO.ite ?_ ?_
   | refine LeO.bind ?_ (fun _ => ?_)
set_option maxHeartbeats 8000000 in
set_option maxRecDepth 100000 in
theorem laws_FnTraceForms.calls (k : Nat) (a0_0 : Int) (A0_1 : Option Addr) (c0_1 : Nat) (l0_1 : List Int) (A1 : Option Addr) (c1 : Nat) (l1 : List Int) (A2 : Option Addr) (c2 : Nat) (l2 : List Int) (r : Bool) (w : World) (hr0_1 : Kd.C (Kd.int .i64) w A0_1 l0_1.length l0_1) (hc0_1 : l0_1.length ≤ c0_1) (hr1 : Kd.C (Kd.int .i64) w A1 l1.length l1) (hc1 : l1.length ≤ c1) (hr2 : Kd.C (Kd.int .i64) w A2 l2.length l2) (hc2 : l2.length ≤ c2) (hT : TabW w) (h : laws_FnTraceForms.f k a0_0 l0_1 l1 l2 = some r) :
  Calls Tryd.prog 14 #[.agg #[.int .i64 a0_0, .slice A0_1 l0_1.length c0_1], .slice A1 l1.length c1, .slice A2 l2.length c2] w fun e w' => e = .returned (.bool r) ∧ Below w.heap.size w w' := by
 have hu28 := Tryd.underlying28; have HT := Aside0.mk hT; clear hT; have HR0_1 := Aside0.mk hr0_1; have HC0_1 := Aside0.mk hc0_1; clear hr0_1 hc0_1; have HR1 := Aside0.mk hr1; have HC1 := Aside0.mk hc1; clear hr1 hc1; have HR2 := Aside0.mk hr2; have HC2 := Aside0.mk hc2; clear hr2 hc2; have HB := Aside0.mk (Below.refl w.heap.size w)
 have H : (if (l1.length : Int) > 65536 then (laws_FnTraceForms.j0 k l1 l2 true a0_0 l0_1) else (laws_FnTraceForms.j0 k l1 l2 (decide ((l2.length : Int) > 65536)) a0_0 l0_1)) = some r := h
 clear h; have HC4 := Aside0.mk H; clear H
 go_enter Tryd.func14, Tryd.ntmps14
 go_upto_region 1 with (first | ((with_reducible refine gate_dst (N := 3) rfl ?_); (try (refine gate_guard (by rfl) ?_; dsimp only)); refine box_event ?hg (N := 3) ?hd (cs := #[.int .i64 a0_0, .slice A0_1 l0_1.length c0_1]) (t := 28) ?hr ?_; (case hd => rfl); (case hg => rfl); (case hr => first | (go_simp; done) | (go_simp; rfl)); intro gb1099 hg w5 hbox hb; have BK1099 := Aside0.mk (hbox); have GW1099 := Aside0.mk ((by rw [hg]; exact (below_size (beQ HB)) : w.heap.size ≤ gb1099)); have GE1099 := Aside0.mk ((by rw [hg]; exact (below_size (beQ HB)) : w.heap.size ≤ gb1099)); replace HB := Aside0.mk (below_step (beQ HB) hb); clear hb hbox hg))
 (try simp only [Act.put, List.setIfInBounds_toArray, List.set_cons_zero, List.set_cons_succ])
 go_cut [30] (fun v30 wc => ∃ (kq : Nat) (x30_3 : Bool), v30 = .bool x30_3 ∧ Aside0 (laws_FnTraceForms.j0 kq l1 l2 x30_3 a0_0 l0_1 = some r) ∧ Aside0 (kq ≤ k) ∧ Aside0 (wc.heap[gb1099]? = some (.cells #[.int .i64 a0_0, (.slice A0_1 l0_1.length c0_1)] 28 (0, 0))) ∧ Aside0 (Below w.heap.size w wc))
 case first =>
  have H := HC4.out; clear HC4
  by_cases c6 : (l1.length : Int) > 65536
  ·rw [if_pos c6] at H
   have c6b0 : decide (65536 < (l1.length : Int)) = true := decide_eq_true c6
   have c6b1 : decide (65536 < l1.length) = true := decide_eq_true (by omega)
   clear c6
   (first | rw [c6b0] | (simp only [i64_w, i32_w]; rw [c6b0]) | skip)
   have H' := Aside0.mk H
   clear H
   go_wp2
   go_meet
   case rel => exact ⟨_, (true), sz, H', ⟨by first | omega | exact Nat.le_refl _⟩, ⟨blkQ BK1099⟩, ⟨beQ HB⟩⟩
  ·rw [if_neg c6] at H
   have c6b0 : decide (65536 < (l1.length : Int)) = false := decide_eq_false c6
   have c6b1 : decide (65536 < l1.length) = false := decide_eq_false (by omega)
   clear c6
   (first | rw [c6b0] | (simp only [i64_w, i32_w]; rw [c6b0]) | skip)
   have H' := Aside0.mk H
   clear H
   go_wp2
   go_meet
   case rel => exact ⟨_, (decide ((l2.length : Int) > 65536)), sz, H', ⟨by first | omega | exact Nat.le_refl _⟩, ⟨blkQ BK1099⟩, ⟨beQ HB⟩⟩
 case rest =>
  clear HC4
  try clear c1
  try clear c2
  try clear p2
  try clear c6
  try clear c6b0
  try clear c6b1
  obtain ⟨kq, x30_3, rfl, HA, HJ3, BK1099, HB⟩ := hcut
  cases kq with
  | zero => exact absurd HA.out (by simp [laws_FnTraceForms.j0])
  | succ kj3 =>
   have H := HA.out; clear HA
   simp only [laws_FnTraceForms.j0] at H
   by_cases c7 : x30_3 = true
   ·subst c7
    have H1 : (some true) = some r := by rw [if_pos rfl] at H; exact H
    clear H; have H := H1; clear H1
    obtain rfl := Option.some.inj H
    go_wp2
    go_ret
    exact ⟨rz, beQ HB⟩
   ·replace c7 := Bool.eq_false_iff.mpr c7
    subst c7
    have H1 : ((impl_AreSameTrace.f kj3 a0_0 l0_1 l1 l2).bind fun bt1100 => ((spec_AreSameTrace.f kj3 a0_0 l0_1 l1 l2).bind fun bt1102 => (if bt1100.2 = bt1102.2 then (laws_FnTraceForms.j1 kj3 l1 l2 bt1100.1 bt1100.2 (bt1100.1 != bt1102.1) a0_0 l0_1) else (laws_FnTraceForms.j1 kj3 l1 l2 bt1100.1 bt1100.2 true a0_0 l0_1)))) = some r := by rw [if_neg (show ¬ (false = true) by decide)] at H; exact H
    clear H; have H := H1; clear H1; replace H := Option.bind_eq_some_iff.mp H
    obtain ⟨⟨t1100, t1101⟩, A80, H⟩ := H
    replace H : ((spec_AreSameTrace.f kj3 a0_0 l0_1 l1 l2).bind fun bt1102 => (if t1101 = bt1102.2 then (laws_FnTraceForms.j1 kj3 l1 l2 t1100 t1101 (t1100 != bt1102.1) a0_0 l0_1) else (laws_FnTraceForms.j1 kj3 l1 l2 t1100 t1101 true a0_0 l0_1))) = some r := H
    have A8 := Aside0.mk A80; clear A80; replace H := Option.bind_eq_some_iff.mp H
    obtain ⟨⟨t1102, t1103⟩, A90, H⟩ := H
    replace H : (if t1101 = t1103 then (laws_FnTraceForms.j1 kj3 l1 l2 t1100 t1101 (t1100 != t1102) a0_0 l0_1) else (laws_FnTraceForms.j1 kj3 l1 l2 t1100 t1101 true a0_0 l0_1)) = some r := H
    have A9 := Aside0.mk A90; clear A90; have HC10 := Aside0.mk H; clear H
    have hcz11_0 : wc.cell? ⟨gb1099, 0, none⟩ = some (.int .i64 a0_0) := bc BK1099 0
    have hcz11_1 : wc.cell? ⟨gb1099, 1, none⟩ = some (.slice A0_1 l0_1.length c0_1) := bc BK1099 1
    have hfz11_0 := blk_frozen BK1099.out 0; have hfz11_1 := blk_frozen BK1099.out 1
    go_upto_region 5 with (first | ((with_reducible refine gate_callee (f := 39) rfl ?_); refine goesL_ (some 35) rfl rfl Tryd.func39 (by kernel_rfl) rfl #[.agg #[.int .i64 a0_0, .slice A0_1 l0_1.length c0_1], .slice A1 l1.length c1, .slice A2 l2.length c2] rfl lz ?_; (with_reducible refine (impl_AreSameTrace.calls kj3 a0_0 _ _ l0_1 (fun k_ => k_ < w.heap.size) _ _ l1 (fun k_ => k_ < w.heap.size) _ _ l2 t1100 t1101 _ ?side1 ?side2 ?side3 ?side4 ?side5 A8.out).mono ?_); (case side1 => have q_ := Aside0.mk (Kd.C_below HR0_1.out HB.out); exact cQ q_); (case side2 => exact HC0_1.out); (case side3 => exact Kd.V_mk HC1.out (Kd.F_below (Kd.C_F (Kd.heap_int .i64) HR1.out) (beQ HB))); (case side4 => exact Kd.V_mk HC2.out (Kd.F_below (Kd.C_F (Kd.heap_int .i64) HR2.out) (beQ HB))); (case side5 => exact TabW.below HT.out (beQ HB)); rintro e w12 ⟨rfl, hb⟩; refine ⟨_, rfl, ?_⟩; replace BK1099 := bb BK1099 hb; replace HB := Aside0.mk (below_step (beQ HB) hb); (try clear hb); (try clear hb2); (try clear hk); (try clear hi); have hcz13_0 : w12.cell? ⟨gb1099, 0, none⟩ = some (.int .i64 a0_0) := bc BK1099 0; have hcz13_1 : w12.cell? ⟨gb1099, 1, none⟩ = some (.slice A0_1 l0_1.length c0_1) := bc BK1099 1; have hfz13_0 := blk_frozen BK1099.out 0; have hfz13_1 := blk_frozen BK1099.out 1) | ((with_reducible refine gate_callee (f := 38) rfl ?_); refine goesL_ (some 42) rfl rfl Tryd.func38 (by kernel_rfl) rfl #[.agg #[.int .i64 a0_0, .slice A0_1 l0_1.length c0_1], .slice A1 l1.length c1, .slice A2 l2.length c2] rfl lz ?_; (with_reducible refine (spec_AreSameTrace.calls kj3 a0_0 _ _ l0_1 _ _ l1 _ _ l2 t1102 t1103 _ ?side1 ?side2 ?side3 ?side4 ?side5 ?side6 A9.out).mono ?_); (case side1 => have q_ := Aside0.mk (Kd.C_below HR0_1.out HB.out); exact cQ q_); (case side2 => exact HC0_1.out); (case side3 => have q_ := Aside0.mk (Kd.C_below HR1.out HB.out); exact cQ q_); (case side4 => exact HC1.out); (case side5 => have q_ := Aside0.mk (Kd.C_below HR2.out HB.out); exact cQ q_); (case side6 => exact HC2.out); rintro e w14 ⟨rfl, hb⟩; refine ⟨_, rfl, ?_⟩; replace BK1099 := bb BK1099 hb; replace HB := Aside0.mk (below_step (beQ HB) hb); (try clear hb); (try clear hb2); (try clear hk); (try clear hi)))
    (try simp only [Act.put, List.setIfInBounds_toArray, List.set_cons_zero, List.set_cons_succ])
    go_cut [52] (fun v52 wc => ∃ (kq : Nat) (x52_9 : Bool), v52 = .bool x52_9 ∧ Aside0 (laws_FnTraceForms.j1 kq l1 l2 t1100 t1101 x52_9 a0_0 l0_1 = some r) ∧ Aside0 (kq ≤ kj3) ∧ Aside0 (wc.heap[gb1099]? = some (.cells #[.int .i64 a0_0, (.slice A0_1 l0_1.length c0_1)] 28 (0, 0))) ∧ Aside0 (Below w.heap.size w wc))
    case first =>
     have H := HC10.out; clear HC10
     by_cases c15 : t1101 = t1103
     ·rw [if_pos c15] at H
      have c15b0 : (t1101 == t1103) = true := beq_iff_eq.mpr c15
      have c15b1 : (t1101 != t1103) = false := bne_eq_false_iff_eq.mpr c15
      clear c15
      (first | rw [c15b0] | (simp only [i64_w, i32_w]; rw [c15b0]) | skip)
      have H' := Aside0.mk H
      clear H
      go_wp2
      go_meet
      case rel => exact ⟨_, ((t1100 != t1102)), sz, H', ⟨by have := HJ3.out; first | omega | exact Nat.le_refl _⟩, ⟨blkQ BK1099⟩, ⟨beQ HB⟩⟩
     ·rw [if_neg c15] at H
      have c15b0 : (t1101 == t1103) = false := beq_eq_false_iff_ne.mpr c15
      have c15b1 : (t1101 != t1103) = true := bne_iff_ne.mpr c15
      (first | rw [c15b0] | (simp only [i64_w, i32_w]; rw [c15b0]) | skip)
      have H' := Aside0.mk H
      clear H
      go_wp2
      go_meet
      case rel => exact ⟨_, (true), sz, H', ⟨by have := HJ3.out; first | omega | exact Nat.le_refl _⟩, ⟨blkQ BK1099⟩, ⟨beQ HB⟩⟩
    case rest =>
     clear HC10
     try clear c1
     try clear c2
     try clear p2
     try clear c3
     try clear c6
     try clear c6b0
     try clear c6b1
     try clear c7
     try clear c14
     try clear c15
     try clear c15b0
     try clear c15b1
     try clear hcz11_0
     try clear hcz11_1
     try clear hcz13_0
     try clear hcz13_1
     try clear hfz11_0
     try clear hfz11_1
     try clear hfz13_0
     try clear hfz13_1
     try clear p2
     obtain ⟨kq, x52_9, rfl, HA, HJ9, BK1099, HB⟩ := hcut
     cases kq with
     | zero => exact absurd HA.out (by simp [laws_FnTraceForms.j1])
     | succ kj9 =>
      have H := HA.out; clear HA
      simp only [laws_FnTraceForms.j1] at H
      by_cases c16 : x52_9 = true
      ·subst c16
       have H1 : (some false) = some r := by rw [if_pos rfl] at H; exact H
       clear H; have H := H1; clear H1
       obtain rfl := Option.some.inj H
       go_wp2
       go_ret
       exact ⟨rz, beQ HB⟩
      ·replace c16 := Bool.eq_false_iff.mpr c16
       subst c16
       have H1 : (if t1101 = 0 then ((impl_NormalForm.f kj9 a0_0 l0_1 l1).bind fun bt1104 => ((impl_NormalForm.f kj9 a0_0 l0_1 l2).bind fun bt1108 => ((impl_FoataForm.f kj9 a0_0 l0_1 l1).bind fun bt1112 => ((impl_FoataForm.f kj9 a0_0 l0_1 l2).bind fun bt1116 => ((impl_PairProjections.f kj9 a0_0 l0_1 l1).bind fun bt1120 => ((impl_PairProjections.f kj9 a0_0 l0_1 l2).bind fun bt1124 => (if bt1104.2 = 0 then (if bt1108.2 = 0 then (if bt1112.2 = 0 then (if bt1116.2 = 0 then (laws_FnTraceForms.j2 kj9 t1100 bt1104.1 bt1108.1 bt1112.1 bt1116.1 bt1120.1 bt1120.2 bt1124.1 (bt1120.2 != bt1124.2)) else (laws_FnTraceForms.j2 kj9 t1100 bt1104.1 bt1108.1 bt1112.1 bt1116.1 bt1120.1 bt1120.2 bt1124.1 true)) else (laws_FnTraceForms.j2 kj9 t1100 bt1104.1 bt1108.1 bt1112.1 bt1116.1 bt1120.1 bt1120.2 bt1124.1 true)) else (laws_FnTraceForms.j2 kj9 t1100 bt1104.1 bt1108.1 bt1112.1 bt1116.1 bt1120.1 bt1120.2 bt1124.1 true)) else (laws_FnTraceForms.j2 kj9 t1100 bt1104.1 bt1108.1 bt1112.1 bt1116.1 bt1120.1 bt1120.2 bt1124.1 true)))))))) else (some true)) = some r := by rw [if_neg (show ¬ (false = true) by decide)] at H; exact H
       clear H; have H := H1; clear H1
       by_cases c17 : t1101 = 0
       ·rw [if_pos c17] at H
        have c17b0 : (t1101 == 0) = true := beq_iff_eq.mpr c17
        have c17b1 : (t1101 != 0) = false := bne_eq_false_iff_eq.mpr c17
        clear c17; replace H := Option.bind_eq_some_iff.mp H
        obtain ⟨⟨t1104, t1107⟩, A180, H⟩ := H
        replace H : ((impl_NormalForm.f kj9 a0_0 l0_1 l2).bind fun bt1108 => ((impl_FoataForm.f kj9 a0_0 l0_1 l1).bind fun bt1112 => ((impl_FoataForm.f kj9 a0_0 l0_1 l2).bind fun bt1116 => ((impl_PairProjections.f kj9 a0_0 l0_1 l1).bind fun bt1120 => ((impl_PairProjections.f kj9 a0_0 l0_1 l2).bind fun bt1124 => (if t1107 = 0 then (if bt1108.2 = 0 then (if bt1112.2 = 0 then (if bt1116.2 = 0 then (laws_FnTraceForms.j2 kj9 t1100 t1104 bt1108.1 bt1112.1 bt1116.1 bt1120.1 bt1120.2 bt1124.1 (bt1120.2 != bt1124.2)) else (laws_FnTraceForms.j2 kj9 t1100 t1104 bt1108.1 bt1112.1 bt1116.1 bt1120.1 bt1120.2 bt1124.1 true)) else (laws_FnTraceForms.j2 kj9 t1100 t1104 bt1108.1 bt1112.1 bt1116.1 bt1120.1 bt1120.2 bt1124.1 true)) else (laws_FnTraceForms.j2 kj9 t1100 t1104 bt1108.1 bt1112.1 bt1116.1 bt1120.1 bt1120.2 bt1124.1 true)) else (laws_FnTraceForms.j2 kj9 t1100 t1104 bt1108.1 bt1112.1 bt1116.1 bt1120.1 bt1120.2 bt1124.1 true))))))) = some r := H
        have A18 := Aside0.mk A180; clear A180; replace H := Option.bind_eq_some_iff.mp H
        obtain ⟨⟨t1108, t1111⟩, A190, H⟩ := H
        replace H : ((impl_FoataForm.f kj9 a0_0 l0_1 l1).bind fun bt1112 => ((impl_FoataForm.f kj9 a0_0 l0_1 l2).bind fun bt1116 => ((impl_PairProjections.f kj9 a0_0 l0_1 l1).bind fun bt1120 => ((impl_PairProjections.f kj9 a0_0 l0_1 l2).bind fun bt1124 => (if t1107 = 0 then (if t1111 = 0 then (if bt1112.2 = 0 then (if bt1116.2 = 0 then (laws_FnTraceForms.j2 kj9 t1100 t1104 t1108 bt1112.1 bt1116.1 bt1120.1 bt1120.2 bt1124.1 (bt1120.2 != bt1124.2)) else (laws_FnTraceForms.j2 kj9 t1100 t1104 t1108 bt1112.1 bt1116.1 bt1120.1 bt1120.2 bt1124.1 true)) else (laws_FnTraceForms.j2 kj9 t1100 t1104 t1108 bt1112.1 bt1116.1 bt1120.1 bt1120.2 bt1124.1 true)) else (laws_FnTraceForms.j2 kj9 t1100 t1104 t1108 bt1112.1 bt1116.1 bt1120.1 bt1120.2 bt1124.1 true)) else (laws_FnTraceForms.j2 kj9 t1100 t1104 t1108 bt1112.1 bt1116.1 bt1120.1 bt1120.2 bt1124.1 true)))))) = some r := H
        have A19 := Aside0.mk A190; clear A190; replace H := Option.bind_eq_some_iff.mp H
        obtain ⟨⟨t1112, t1115⟩, A200, H⟩ := H
        replace H : ((impl_FoataForm.f kj9 a0_0 l0_1 l2).bind fun bt1116 => ((impl_PairProjections.f kj9 a0_0 l0_1 l1).bind fun bt1120 => ((impl_PairProjections.f kj9 a0_0 l0_1 l2).bind fun bt1124 => (if t1107 = 0 then (if t1111 = 0 then (if t1115 = 0 then (if bt1116.2 = 0 then (laws_FnTraceForms.j2 kj9 t1100 t1104 t1108 t1112 bt1116.1 bt1120.1 bt1120.2 bt1124.1 (bt1120.2 != bt1124.2)) else (laws_FnTraceForms.j2 kj9 t1100 t1104 t1108 t1112 bt1116.1 bt1120.1 bt1120.2 bt1124.1 true)) else (laws_FnTraceForms.j2 kj9 t1100 t1104 t1108 t1112 bt1116.1 bt1120.1 bt1120.2 bt1124.1 true)) else (laws_FnTraceForms.j2 kj9 t1100 t1104 t1108 t1112 bt1116.1 bt1120.1 bt1120.2 bt1124.1 true)) else (laws_FnTraceForms.j2 kj9 t1100 t1104 t1108 t1112 bt1116.1 bt1120.1 bt1120.2 bt1124.1 true))))) = some r := H
        have A20 := Aside0.mk A200; clear A200; replace H := Option.bind_eq_some_iff.mp H
        obtain ⟨⟨t1116, t1119⟩, A210, H⟩ := H
        replace H : ((impl_PairProjections.f kj9 a0_0 l0_1 l1).bind fun bt1120 => ((impl_PairProjections.f kj9 a0_0 l0_1 l2).bind fun bt1124 => (if t1107 = 0 then (if t1111 = 0 then (if t1115 = 0 then (if t1119 = 0 then (laws_FnTraceForms.j2 kj9 t1100 t1104 t1108 t1112 t1116 bt1120.1 bt1120.2 bt1124.1 (bt1120.2 != bt1124.2)) else (laws_FnTraceForms.j2 kj9 t1100 t1104 t1108 t1112 t1116 bt1120.1 bt1120.2 bt1124.1 true)) else (laws_FnTraceForms.j2 kj9 t1100 t1104 t1108 t1112 t1116 bt1120.1 bt1120.2 bt1124.1 true)) else (laws_FnTraceForms.j2 kj9 t1100 t1104 t1108 t1112 t1116 bt1120.1 bt1120.2 bt1124.1 true)) else (laws_FnTraceForms.j2 kj9 t1100 t1104 t1108 t1112 t1116 bt1120.1 bt1120.2 bt1124.1 true)))) = some r := H
        have A21 := Aside0.mk A210; clear A210; replace H := Option.bind_eq_some_iff.mp H
        obtain ⟨⟨t1120, t1123⟩, A220, H⟩ := H
        replace H : ((impl_PairProjections.f kj9 a0_0 l0_1 l2).bind fun bt1124 => (if t1107 = 0 then (if t1111 = 0 then (if t1115 = 0 then (if t1119 = 0 then (laws_FnTraceForms.j2 kj9 t1100 t1104 t1108 t1112 t1116 t1120 t1123 bt1124.1 (t1123 != bt1124.2)) else (laws_FnTraceForms.j2 kj9 t1100 t1104 t1108 t1112 t1116 t1120 t1123 bt1124.1 true)) else (laws_FnTraceForms.j2 kj9 t1100 t1104 t1108 t1112 t1116 t1120 t1123 bt1124.1 true)) else (laws_FnTraceForms.j2 kj9 t1100 t1104 t1108 t1112 t1116 t1120 t1123 bt1124.1 true)) else (laws_FnTraceForms.j2 kj9 t1100 t1104 t1108 t1112 t1116 t1120 t1123 bt1124.1 true))) = some r := H
        have A22 := Aside0.mk A220; clear A220; replace H := Option.bind_eq_some_iff.mp H
        obtain ⟨⟨t1124, t1127⟩, A230, H⟩ := H
        replace H : (if t1107 = 0 then (if t1111 = 0 then (if t1115 = 0 then (if t1119 = 0 then (laws_FnTraceForms.j2 kj9 t1100 t1104 t1108 t1112 t1116 t1120 t1123 t1124 (t1123 != t1127)) else (laws_FnTraceForms.j2 kj9 t1100 t1104 t1108 t1112 t1116 t1120 t1123 t1124 true)) else (laws_FnTraceForms.j2 kj9 t1100 t1104 t1108 t1112 t1116 t1120 t1123 t1124 true)) else (laws_FnTraceForms.j2 kj9 t1100 t1104 t1108 t1112 t1116 t1120 t1123 t1124 true)) else (laws_FnTraceForms.j2 kj9 t1100 t1104 t1108 t1112 t1116 t1120 t1123 t1124 true)) = some r := H
        have A23 := Aside0.mk A230; clear A230; have HC24 := Aside0.mk H; clear H
        have hcz25_0 : wc.cell? ⟨gb1099, 0, none⟩ = some (.int .i64 a0_0) := bc BK1099 0
        have hcz25_1 : wc.cell? ⟨gb1099, 1, none⟩ = some (.slice A0_1 l0_1.length c0_1) := bc BK1099 1
        have hfz25_0 := blk_frozen BK1099.out 0; have hfz25_1 := blk_frozen BK1099.out 1
        go_upto_region 15 with (first | ((with_reducible refine gate_callee (f := 37) rfl ?_); refine goesL_ (some 58) rfl rfl Tryd.func37 (by kernel_rfl) rfl #[.agg #[.int .i64 a0_0, .slice A0_1 l0_1.length c0_1], .slice A1 l1.length c1] rfl lz ?_; (with_reducible refine (impl_NormalForm.calls kj9 a0_0 _ _ l0_1 (fun k_ => k_ < w.heap.size) _ _ l1 t1104 t1107 _ ?side1 ?side2 ?side3 ?side4 A18.out).mono ?_); (case side1 => have q_ := Aside0.mk (Kd.C_below HR0_1.out HB.out); exact cQ q_); (case side2 => exact HC0_1.out); (case side3 => exact Kd.V_mk HC1.out (Kd.F_below (Kd.C_F (Kd.heap_int .i64) HR1.out) (beQ HB))); (case side4 => exact TabW.below HT.out (beQ HB)); rintro e w26 ⟨v1105, rfl, ho0, hb⟩; refine ⟨_, rfl, ?_⟩; have HO1106 := Aside0.mk (Kd.R_lower (Kd.R_mono (ok' := fun k_ => True) ho0 (fun _ hk_ => trivial)) (below_size (beQ HB))); replace BK1099 := bb BK1099 hb; replace HB := Aside0.mk (below_step (beQ HB) hb); (try clear hb); (try clear hb2); (try clear hk); (try clear hi); (try clear ho0); have hcz27_0 : w26.cell? ⟨gb1099, 0, none⟩ = some (.int .i64 a0_0) := bc BK1099 0; have hcz27_1 : w26.cell? ⟨gb1099, 1, none⟩ = some (.slice A0_1 l0_1.length c0_1) := bc BK1099 1; have hfz27_0 := blk_frozen BK1099.out 0; have hfz27_1 := blk_frozen BK1099.out 1) | ((with_reducible refine gate_callee (f := 37) rfl ?_); refine goesL_ (some 64) rfl rfl Tryd.func37 (by kernel_rfl) rfl #[.agg #[.int .i64 a0_0, .slice A0_1 l0_1.length c0_1], .slice A2 l2.length c2] rfl lz ?_; (with_reducible refine (impl_NormalForm.calls kj9 a0_0 _ _ l0_1 (fun k_ => k_ < w.heap.size) _ _ l2 t1108 t1111 _ ?side1 ?side2 ?side3 ?side4 A19.out).mono ?_); (case side1 => have q_ := Aside0.mk (Kd.C_below HR0_1.out HB.out); exact cQ q_); (case side2 => exact HC0_1.out); (case side3 => exact Kd.V_mk HC2.out (Kd.F_below (Kd.C_F (Kd.heap_int .i64) HR2.out) (beQ HB))); (case side4 => exact TabW.below HT.out (beQ HB)); rintro e w28 ⟨v1109, rfl, ho0, hb⟩; refine ⟨_, rfl, ?_⟩; have HO1110 := Aside0.mk (Kd.R_lower (Kd.R_new' (Kd.R_mono (ok' := fun k_ => True) ho0 (fun _ hk_ => trivial)) (Kd.R_lt (kdQ HO1106))) (below_size (beQ HB))); replace HO1106 := Aside0.mk (Kd.R_elder' (kdQ HO1106) (Kd.R_base ho0) hb); replace BK1099 := bb BK1099 hb; replace HB := Aside0.mk (below_step (beQ HB) hb); (try clear hb); (try clear hb2); (try clear hk); (try clear hi); (try clear ho0); have hcz29_0 : w28.cell? ⟨gb1099, 0, none⟩ = some (.int .i64 a0_0) := bc BK1099 0; have hcz29_1 : w28.cell? ⟨gb1099, 1, none⟩ = some (.slice A0_1 l0_1.length c0_1) := bc BK1099 1; have hfz29_0 := blk_frozen BK1099.out 0; have hfz29_1 := blk_frozen BK1099.out 1) | ((with_reducible refine gate_callee (f := 28) rfl ?_); refine goesL_ (some 70) rfl rfl Tryd.func28 (by kernel_rfl) rfl #[.agg #[.int .i64 a0_0, .slice A0_1 l0_1.length c0_1], .slice A1 l1.length c1] rfl lz ?_; (with_reducible refine (impl_FoataForm.calls kj9 a0_0 _ _ l0_1 (fun k_ => k_ < w.heap.size) _ _ l1 t1112 t1115 _ ?side1 ?side2 ?side3 ?side4 A20.out).mono ?_); (case side1 => have q_ := Aside0.mk (Kd.C_below HR0_1.out HB.out); exact cQ q_); (case side2 => exact HC0_1.out); (case side3 => exact Kd.V_mk HC1.out (Kd.F_below (Kd.C_F (Kd.heap_int .i64) HR1.out) (beQ HB))); (case side4 => exact TabW.below HT.out (beQ HB)); rintro e w30 ⟨v1113, rfl, ho0, hb⟩; refine ⟨_, rfl, ?_⟩; have HO1114 := Aside0.mk (Kd.R_lower (Kd.R_new' (Kd.R_new' (Kd.R_mono (ok' := fun k_ => True) ho0 (fun _ hk_ => trivial)) (Kd.R_lt (kdQ HO1106))) (Kd.R_lt (kdQ HO1110))) (below_size (beQ HB))); replace HO1106 := Aside0.mk (Kd.R_elder' (kdQ HO1106) (Kd.R_base ho0) hb); replace HO1110 := Aside0.mk (Kd.R_elder' (kdQ HO1110) (Kd.R_base ho0) hb); replace BK1099 := bb BK1099 hb; replace HB := Aside0.mk (below_step (beQ HB) hb); (try clear hb); (try clear hb2); (try clear hk); (try clear hi); (try clear ho0); have hcz31_0 : w30.cell? ⟨gb1099, 0, none⟩ = some (.int .i64 a0_0) := bc BK1099 0; have hcz31_1 : w30.cell? ⟨gb1099, 1, none⟩ = some (.slice A0_1 l0_1.length c0_1) := bc BK1099 1; have hfz31_0 := blk_frozen BK1099.out 0; have hfz31_1 := blk_frozen BK1099.out 1) | ((with_reducible refine gate_callee (f := 28) rfl ?_); refine goesL_ (some 76) rfl rfl Tryd.func28 (by kernel_rfl) rfl #[.agg #[.int .i64 a0_0, .slice A0_1 l0_1.length c0_1], .slice A2 l2.length c2] rfl lz ?_; (with_reducible refine (impl_FoataForm.calls kj9 a0_0 _ _ l0_1 (fun k_ => k_ < w.heap.size) _ _ l2 t1116 t1119 _ ?side1 ?side2 ?side3 ?side4 A21.out).mono ?_); (case side1 => have q_ := Aside0.mk (Kd.C_below HR0_1.out HB.out); exact cQ q_); (case side2 => exact HC0_1.out); (case side3 => exact Kd.V_mk HC2.out (Kd.F_below (Kd.C_F (Kd.heap_int .i64) HR2.out) (beQ HB))); (case side4 => exact TabW.below HT.out (beQ HB)); rintro e w32 ⟨v1117, rfl, ho0, hb⟩; refine ⟨_, rfl, ?_⟩; have HO1118 := Aside0.mk (Kd.R_lower (Kd.R_new' (Kd.R_new' (Kd.R_new' (Kd.R_mono (ok' := fun k_ => True) ho0 (fun _ hk_ => trivial)) (Kd.R_lt (kdQ HO1106))) (Kd.R_lt (kdQ HO1110))) (Kd.R_lt (kdQ HO1114))) (below_size (beQ HB))); replace HO1106 := Aside0.mk (Kd.R_elder' (kdQ HO1106) (Kd.R_base ho0) hb); replace HO1110 := Aside0.mk (Kd.R_elder' (kdQ HO1110) (Kd.R_base ho0) hb); replace HO1114 := Aside0.mk (Kd.R_elder' (kdQ HO1114) (Kd.R_base ho0) hb); replace BK1099 := bb BK1099 hb; replace HB := Aside0.mk (below_step (beQ HB) hb); (try clear hb); (try clear hb2); (try clear hk); (try clear hi); (try clear ho0); have hcz33_0 : w32.cell? ⟨gb1099, 0, none⟩ = some (.int .i64 a0_0) := bc BK1099 0; have hcz33_1 : w32.cell? ⟨gb1099, 1, none⟩ = some (.slice A0_1 l0_1.length c0_1) := bc BK1099 1; have hfz33_0 := blk_frozen BK1099.out 0; have hfz33_1 := blk_frozen BK1099.out 1) | ((with_reducible refine gate_callee (f := 32) rfl ?_); refine goesL_ (some 82) rfl rfl Tryd.func32 (by kernel_rfl) rfl #[.agg #[.int .i64 a0_0, .slice A0_1 l0_1.length c0_1], .slice A1 l1.length c1] rfl lz ?_; (with_reducible refine (impl_PairProjections.calls kj9 a0_0 _ _ l0_1 (fun k_ => k_ < w.heap.size) _ _ l1 t1120 t1123 _ ?side1 ?side2 ?side3 ?side4 A22.out).mono ?_); (case side1 => have q_ := Aside0.mk (Kd.C_below HR0_1.out HB.out); exact cQ q_); (case side2 => exact HC0_1.out); (case side3 => exact Kd.V_mk HC1.out (Kd.F_below (Kd.C_F (Kd.heap_int .i64) HR1.out) (beQ HB))); (case side4 => exact TabW.below HT.out (beQ HB)); rintro e w34 ⟨v1121, rfl, ho0, hb⟩; refine ⟨_, rfl, ?_⟩; have HO1122 := Aside0.mk (Kd.N_lower (Kd.N_mono (ok' := fun k_ => some k_ ≠ (v1105 : Value).ownBlock ∧ some k_ ≠ (v1109 : Value).ownBlock ∧ some k_ ≠ (v1113 : Value).ownBlock ∧ some k_ ≠ (v1117 : Value).ownBlock ∧ k_ ≠ gb1099) ho0 (fun k_ hk_ => ⟨Or.elim hk_ (fun hs_ => fun e_ => Nat.not_le.2 hs_ (Kd.R_base HO1106.out k_ e_.symm)) (fun hn_ => (Kd.fresh' (Kd.R_lt (kdQ HO1106)) k_ hn_)), Or.elim hk_ (fun hs_ => fun e_ => Nat.not_le.2 hs_ (Kd.R_base HO1110.out k_ e_.symm)) (fun hn_ => (Kd.fresh' (Kd.R_lt (kdQ HO1110)) k_ hn_)), Or.elim hk_ (fun hs_ => fun e_ => Nat.not_le.2 hs_ (Kd.R_base HO1114.out k_ e_.symm)) (fun hn_ => (Kd.fresh' (Kd.R_lt (kdQ HO1114)) k_ hn_)), Or.elim hk_ (fun hs_ => fun e_ => Nat.not_le.2 hs_ (Kd.R_base HO1118.out k_ e_.symm)) (fun hn_ => (Kd.fresh' (Kd.R_lt (kdQ HO1118)) k_ hn_)), Or.elim hk_ (fun hs_ => fun e_ => Nat.not_le.2 hs_ (by rw [e_]; exact GW1099.out)) (fun hn_ => (Kd.freshB (g := gb1099) (o := .cells #[.int .i64 a0_0, .slice A0_1 l0_1.length c0_1] 28 (0, 0)) (blkQ BK1099) k_ hn_))⟩)) (below_size (beQ HB))); replace HO1106 := kb HO1106 hb; replace HO1110 := kb HO1110 hb; replace HO1114 := kb HO1114 hb; replace HO1118 := kb HO1118 hb; replace BK1099 := bb BK1099 hb; replace HB := Aside0.mk (below_step (beQ HB) hb); (try clear hb); (try clear hb2); (try clear hk); (try clear hi); (try clear ho0); have hcz35_0 : w34.cell? ⟨gb1099, 0, none⟩ = some (.int .i64 a0_0) := bc BK1099 0; have hcz35_1 : w34.cell? ⟨gb1099, 1, none⟩ = some (.slice A0_1 l0_1.length c0_1) := bc BK1099 1; have hfz35_0 := blk_frozen BK1099.out 0; have hfz35_1 := blk_frozen BK1099.out 1) | ((with_reducible refine gate_callee (f := 32) rfl ?_); refine goesL_ (some 88) rfl rfl Tryd.func32 (by kernel_rfl) rfl #[.agg #[.int .i64 a0_0, .slice A0_1 l0_1.length c0_1], .slice A2 l2.length c2] rfl lz ?_; (with_reducible refine (impl_PairProjections.calls kj9 a0_0 _ _ l0_1 (fun k_ => k_ < w.heap.size) _ _ l2 t1124 t1127 _ ?side1 ?side2 ?side3 ?side4 A23.out).mono ?_); (case side1 => have q_ := Aside0.mk (Kd.C_below HR0_1.out HB.out); exact cQ q_); (case side2 => exact HC0_1.out); (case side3 => exact Kd.V_mk HC2.out (Kd.F_below (Kd.C_F (Kd.heap_int .i64) HR2.out) (beQ HB))); (case side4 => exact TabW.below HT.out (beQ HB)); rintro e w36 ⟨v1125, rfl, ho0, hb⟩; refine ⟨_, rfl, ?_⟩; have HO1126 := Aside0.mk (Kd.N_lower (Kd.N_mono (ok' := fun k_ => some k_ ≠ (v1105 : Value).ownBlock ∧ some k_ ≠ (v1109 : Value).ownBlock ∧ some k_ ≠ (v1113 : Value).ownBlock ∧ some k_ ≠ (v1117 : Value).ownBlock ∧ some k_ ≠ (v1121 : Value).ownBlock ∧ k_ ≠ gb1099) ho0 (fun k_ hk_ => ⟨Or.elim hk_ (fun hs_ => fun e_ => Nat.not_le.2 hs_ (Kd.R_base HO1106.out k_ e_.symm)) (fun hn_ => (Kd.fresh' (Kd.R_lt (kdQ HO1106)) k_ hn_)), Or.elim hk_ (fun hs_ => fun e_ => Nat.not_le.2 hs_ (Kd.R_base HO1110.out k_ e_.symm)) (fun hn_ => (Kd.fresh' (Kd.R_lt (kdQ HO1110)) k_ hn_)), Or.elim hk_ (fun hs_ => fun e_ => Nat.not_le.2 hs_ (Kd.R_base HO1114.out k_ e_.symm)) (fun hn_ => (Kd.fresh' (Kd.R_lt (kdQ HO1114)) k_ hn_)), Or.elim hk_ (fun hs_ => fun e_ => Nat.not_le.2 hs_ (Kd.R_base HO1118.out k_ e_.symm)) (fun hn_ => (Kd.fresh' (Kd.R_lt (kdQ HO1118)) k_ hn_)), Or.elim hk_ (fun hs_ => fun e_ => Nat.not_le.2 hs_ (Kd.N_base HO1122.out k_ e_.symm)) (fun hn_ => (Kd.fresh' (Kd.N_lt (by (with_reducible repeat (first | apply Kd.N_alloc | apply Kd.N_drewN | apply Kd.N_drew)); exact HO1122.out)) k_ hn_)), Or.elim hk_ (fun hs_ => fun e_ => Nat.not_le.2 hs_ (by rw [e_]; exact GW1099.out)) (fun hn_ => (Kd.freshB (g := gb1099) (o := .cells #[.int .i64 a0_0, .slice A0_1 l0_1.length c0_1] 28 (0, 0)) (blkQ BK1099) k_ hn_))⟩)) (below_size (beQ HB))); replace HO1106 := kb HO1106 hb; replace HO1110 := kb HO1110 hb; replace HO1114 := kb HO1114 hb; replace HO1118 := kb HO1118 hb; replace HO1122 := Aside0.mk (Kd.N_elder' (by (with_reducible repeat (first | apply Kd.N_alloc | apply Kd.N_drewN | apply Kd.N_drew)); exact HO1122.out) (Kd.N_base ho0) hb); replace BK1099 := bb BK1099 hb; replace HB := Aside0.mk (below_step (beQ HB) hb); (try clear hb); (try clear hb2); (try clear hk); (try clear hi); (try clear ho0)))
        (try simp only [Act.put, List.setIfInBounds_toArray, List.set_cons_zero, List.set_cons_succ])
        go_cut [109] (fun v109 wc => ∃ (kq : Nat) (x109_23 : Bool), v109 = .bool x109_23 ∧ Aside0 (laws_FnTraceForms.j2 kq t1100 t1104 t1108 t1112 t1116 t1120 t1123 t1124 x109_23 = some r) ∧ Aside0 (kq ≤ kj9) ∧ Aside0 (Kd.R (Kd.int .i64) 2 wc w.heap.size (fun k_ => some k_ ≠ (v1109 : Value).ownBlock ∧ some k_ ≠ (v1113 : Value).ownBlock ∧ some k_ ≠ (v1117 : Value).ownBlock) v1105 t1104) ∧ Aside0 (Kd.R (Kd.int .i64) 2 wc w.heap.size (fun k_ => some k_ ≠ (v1105 : Value).ownBlock ∧ some k_ ≠ (v1113 : Value).ownBlock ∧ some k_ ≠ (v1117 : Value).ownBlock) v1109 t1108) ∧ Aside0 (Kd.R (Kd.int .i64) 2 wc w.heap.size (fun k_ => some k_ ≠ (v1105 : Value).ownBlock ∧ some k_ ≠ (v1109 : Value).ownBlock ∧ some k_ ≠ (v1117 : Value).ownBlock) v1113 t1112) ∧ Aside0 (Kd.R (Kd.int .i64) 2 wc w.heap.size (fun k_ => some k_ ≠ (v1105 : Value).ownBlock ∧ some k_ ≠ (v1109 : Value).ownBlock ∧ some k_ ≠ (v1113 : Value).ownBlock) v1117 t1116) ∧ Aside0 (Kd.N (Kd.slice 2 (Kd.int .i64)) 22 wc w.heap.size (fun k_ => some k_ ≠ (v1105 : Value).ownBlock ∧ some k_ ≠ (v1109 : Value).ownBlock ∧ some k_ ≠ (v1113 : Value).ownBlock ∧ some k_ ≠ (v1117 : Value).ownBlock ∧ some k_ ≠ (v1125 : Value).ownBlock ∧ k_ ≠ gb1099) v1121 t1120) ∧ Aside0 (Kd.N (Kd.slice 2 (Kd.int .i64)) 22 wc w.heap.size (fun k_ => some k_ ≠ (v1105 : Value).ownBlock ∧ some k_ ≠ (v1109 : Value).ownBlock ∧ some k_ ≠ (v1113 : Value).ownBlock ∧ some k_ ≠ (v1117 : Value).ownBlock ∧ some k_ ≠ (v1121 : Value).ownBlock ∧ k_ ≠ gb1099) v1125 t1124) ∧ Aside0 (wc.heap[gb1099]? = some (.cells #[.int .i64 a0_0, (.slice A0_1 l0_1.length c0_1)] 28 (0, 0))) ∧ Aside0 (Below w.heap.size w wc))
        case first =>
         have H := HC24.out; clear HC24
         by_cases c37 : t1107 = 0
         ·rw [if_pos c37] at H
          have c37b0 : (t1107 == 0) = true := beq_iff_eq.mpr c37
          have c37b1 : (t1107 != 0) = false := bne_eq_false_iff_eq.mpr c37
          clear c37
          (first | rw [c37b0] | (simp only [i64_w, i32_w]; rw [c37b0]) | skip)
          by_cases c38 : t1111 = 0
          ·rw [if_pos c38] at H
           have c38b0 : (t1111 == 0) = true := beq_iff_eq.mpr c38
           have c38b1 : (t1111 != 0) = false := bne_eq_false_iff_eq.mpr c38
           clear c38
           by_cases c39 : t1115 = 0
           ·rw [if_pos c39] at H
            have c39b0 : (t1115 == 0) = true := beq_iff_eq.mpr c39
            have c39b1 : (t1115 != 0) = false := bne_eq_false_iff_eq.mpr c39
            clear c39
            by_cases c40 : t1119 = 0
            ·rw [if_pos c40] at H
             have c40b0 : (t1119 == 0) = true := beq_iff_eq.mpr c40
             have c40b1 : (t1119 != 0) = false := bne_eq_false_iff_eq.mpr c40
             clear c40
             have H' := Aside0.mk H
             clear H
             go_wp2
             go_meet
             case rel => exact ⟨_, ((t1123 != t1127)), sz, H', ⟨by have := HJ3.out; have := HJ9.out; first | omega | exact Nat.le_refl _⟩, ⟨by (with_reducible repeat (first | apply Kd.R_alloc | apply Kd.R_drewN | apply Kd.R_drew)); exact Kd.R_mono HO1106.out (fun _ hk => ⟨hk.1.1.2, ⟨hk.1.2, hk.2⟩⟩)⟩, ⟨by (with_reducible repeat (first | apply Kd.R_alloc | apply Kd.R_drewN | apply Kd.R_drew)); exact Kd.R_mono HO1110.out (fun _ hk => ⟨hk.1.1.2, ⟨hk.1.2, hk.2⟩⟩)⟩, ⟨by (with_reducible repeat (first | apply Kd.R_alloc | apply Kd.R_drewN | apply Kd.R_drew)); exact Kd.R_mono HO1114.out (fun _ hk => ⟨hk.1.1.2, ⟨hk.1.2, hk.2⟩⟩)⟩, ⟨by (with_reducible repeat (first | apply Kd.R_alloc | apply Kd.R_drewN | apply Kd.R_drew)); exact Kd.R_mono HO1118.out (fun _ hk => ⟨hk.1.1.2, ⟨hk.1.2, hk.2⟩⟩)⟩, ⟨by (with_reducible repeat (first | apply Kd.N_alloc | apply Kd.N_drewN | apply Kd.N_drew)); exact Kd.N_mono HO1122.out (fun _ hk => ⟨hk.1.1, ⟨hk.1.2.1, ⟨hk.1.2.2.1, ⟨hk.1.2.2.2.1, ⟨hk.2, hk.1.2.2.2.2⟩⟩⟩⟩⟩)⟩, ⟨by (with_reducible repeat (first | apply Kd.N_alloc | apply Kd.N_drewN | apply Kd.N_drew)); exact HO1126.out⟩, ⟨blkQ BK1099⟩, ⟨beQ HB⟩⟩
            ·rw [if_neg c40] at H
             have c40b0 : (t1119 == 0) = false := beq_eq_false_iff_ne.mpr c40
             have c40b1 : (t1119 != 0) = true := bne_iff_ne.mpr c40
             have H' := Aside0.mk H
             clear H
             go_wp2
             go_meet
             case rel => exact ⟨_, (true), sz, H', ⟨by have := HJ3.out; have := HJ9.out; first | omega | exact Nat.le_refl _⟩, ⟨by (with_reducible repeat (first | apply Kd.R_alloc | apply Kd.R_drewN | apply Kd.R_drew)); exact Kd.R_mono HO1106.out (fun _ hk => ⟨hk.1.1.2, ⟨hk.1.2, hk.2⟩⟩)⟩, ⟨by (with_reducible repeat (first | apply Kd.R_alloc | apply Kd.R_drewN | apply Kd.R_drew)); exact Kd.R_mono HO1110.out (fun _ hk => ⟨hk.1.1.2, ⟨hk.1.2, hk.2⟩⟩)⟩, ⟨by (with_reducible repeat (first | apply Kd.R_alloc | apply Kd.R_drewN | apply Kd.R_drew)); exact Kd.R_mono HO1114.out (fun _ hk => ⟨hk.1.1.2, ⟨hk.1.2, hk.2⟩⟩)⟩, ⟨by (with_reducible repeat (first | apply Kd.R_alloc | apply Kd.R_drewN | apply Kd.R_drew)); exact Kd.R_mono HO1118.out (fun _ hk => ⟨hk.1.1.2, ⟨hk.1.2, hk.2⟩⟩)⟩, ⟨by (with_reducible repeat (first | apply Kd.N_alloc | apply Kd.N_drewN | apply Kd.N_drew)); exact Kd.N_mono HO1122.out (fun _ hk => ⟨hk.1.1, ⟨hk.1.2.1, ⟨hk.1.2.2.1, ⟨hk.1.2.2.2.1, ⟨hk.2, hk.1.2.2.2.2⟩⟩⟩⟩⟩)⟩, ⟨by (with_reducible repeat (first | apply Kd.N_alloc | apply Kd.N_drewN | apply Kd.N_drew)); exact HO1126.out⟩, ⟨blkQ BK1099⟩, ⟨beQ HB⟩⟩
           ·rw [if_neg c39] at H
            have c39b0 : (t1115 == 0) = false := beq_eq_false_iff_ne.mpr c39
            have c39b1 : (t1115 != 0) = true := bne_iff_ne.mpr c39
            have H' := Aside0.mk H
            clear H
            go_wp2
            go_meet
            case rel => exact ⟨_, (true), sz, H', ⟨by have := HJ3.out; have := HJ9.out; first | omega | exact Nat.le_refl _⟩, ⟨by (with_reducible repeat (first | apply Kd.R_alloc | apply Kd.R_drewN | apply Kd.R_drew)); exact Kd.R_mono HO1106.out (fun _ hk => ⟨hk.1.1.2, ⟨hk.1.2, hk.2⟩⟩)⟩, ⟨by (with_reducible repeat (first | apply Kd.R_alloc | apply Kd.R_drewN | apply Kd.R_drew)); exact Kd.R_mono HO1110.out (fun _ hk => ⟨hk.1.1.2, ⟨hk.1.2, hk.2⟩⟩)⟩, ⟨by (with_reducible repeat (first | apply Kd.R_alloc | apply Kd.R_drewN | apply Kd.R_drew)); exact Kd.R_mono HO1114.out (fun _ hk => ⟨hk.1.1.2, ⟨hk.1.2, hk.2⟩⟩)⟩, ⟨by (with_reducible repeat (first | apply Kd.R_alloc | apply Kd.R_drewN | apply Kd.R_drew)); exact Kd.R_mono HO1118.out (fun _ hk => ⟨hk.1.1.2, ⟨hk.1.2, hk.2⟩⟩)⟩, ⟨by (with_reducible repeat (first | apply Kd.N_alloc | apply Kd.N_drewN | apply Kd.N_drew)); exact Kd.N_mono HO1122.out (fun _ hk => ⟨hk.1.1, ⟨hk.1.2.1, ⟨hk.1.2.2.1, ⟨hk.1.2.2.2.1, ⟨hk.2, hk.1.2.2.2.2⟩⟩⟩⟩⟩)⟩, ⟨by (with_reducible repeat (first | apply Kd.N_alloc | apply Kd.N_drewN | apply Kd.N_drew)); exact HO1126.out⟩, ⟨blkQ BK1099⟩, ⟨beQ HB⟩⟩
          ·rw [if_neg c38] at H
           have c38b0 : (t1111 == 0) = false := beq_eq_false_iff_ne.mpr c38
           have c38b1 : (t1111 != 0) = true := bne_iff_ne.mpr c38
           have H' := Aside0.mk H
           clear H
           go_wp2
           go_meet
           case rel => exact ⟨_, (true), sz, H', ⟨by have := HJ3.out; have := HJ9.out; first | omega | exact Nat.le_refl _⟩, ⟨by (with_reducible repeat (first | apply Kd.R_alloc | apply Kd.R_drewN | apply Kd.R_drew)); exact Kd.R_mono HO1106.out (fun _ hk => ⟨hk.1.1.2, ⟨hk.1.2, hk.2⟩⟩)⟩, ⟨by (with_reducible repeat (first | apply Kd.R_alloc | apply Kd.R_drewN | apply Kd.R_drew)); exact Kd.R_mono HO1110.out (fun _ hk => ⟨hk.1.1.2, ⟨hk.1.2, hk.2⟩⟩)⟩, ⟨by (with_reducible repeat (first | apply Kd.R_alloc | apply Kd.R_drewN | apply Kd.R_drew)); exact Kd.R_mono HO1114.out (fun _ hk => ⟨hk.1.1.2, ⟨hk.1.2, hk.2⟩⟩)⟩, ⟨by (with_reducible repeat (first | apply Kd.R_alloc | apply Kd.R_drewN | apply Kd.R_drew)); exact Kd.R_mono HO1118.out (fun _ hk => ⟨hk.1.1.2, ⟨hk.1.2, hk.2⟩⟩)⟩, ⟨by (with_reducible repeat (first | apply Kd.N_alloc | apply Kd.N_drewN | apply Kd.N_drew)); exact Kd.N_mono HO1122.out (fun _ hk => ⟨hk.1.1, ⟨hk.1.2.1, ⟨hk.1.2.2.1, ⟨hk.1.2.2.2.1, ⟨hk.2, hk.1.2.2.2.2⟩⟩⟩⟩⟩)⟩, ⟨by (with_reducible repeat (first | apply Kd.N_alloc | apply Kd.N_drewN | apply Kd.N_drew)); exact HO1126.out⟩, ⟨blkQ BK1099⟩, ⟨beQ HB⟩⟩
         ·rw [if_neg c37] at H
          have c37b0 : (t1107 == 0) = false := beq_eq_false_iff_ne.mpr c37
          have c37b1 : (t1107 != 0) = true := bne_iff_ne.mpr c37
          (first | rw [c37b0] | (simp only [i64_w, i32_w]; rw [c37b0]) | skip)
          have H' := Aside0.mk H
          clear H
          go_wp2
          go_meet
          case rel => exact ⟨_, (true), sz, H', ⟨by have := HJ3.out; have := HJ9.out; first | omega | exact Nat.le_refl _⟩, ⟨by (with_reducible repeat (first | apply Kd.R_alloc | apply Kd.R_drewN | apply Kd.R_drew)); exact Kd.R_mono HO1106.out (fun _ hk => ⟨hk.1.1.2, ⟨hk.1.2, hk.2⟩⟩)⟩, ⟨by (with_reducible repeat (first | apply Kd.R_alloc | apply Kd.R_drewN | apply Kd.R_drew)); exact Kd.R_mono HO1110.out (fun _ hk => ⟨hk.1.1.2, ⟨hk.1.2, hk.2⟩⟩)⟩, ⟨by (with_reducible repeat (first | apply Kd.R_alloc | apply Kd.R_drewN | apply Kd.R_drew)); exact Kd.R_mono HO1114.out (fun _ hk => ⟨hk.1.1.2, ⟨hk.1.2, hk.2⟩⟩)⟩, ⟨by (with_reducible repeat (first | apply Kd.R_alloc | apply Kd.R_drewN | apply Kd.R_drew)); exact Kd.R_mono HO1118.out (fun _ hk => ⟨hk.1.1.2, ⟨hk.1.2, hk.2⟩⟩)⟩, ⟨by (with_reducible repeat (first | apply Kd.N_alloc | apply Kd.N_drewN | apply Kd.N_drew)); exact Kd.N_mono HO1122.out (fun _ hk => ⟨hk.1.1, ⟨hk.1.2.1, ⟨hk.1.2.2.1, ⟨hk.1.2.2.2.1, ⟨hk.2, hk.1.2.2.2.2⟩⟩⟩⟩⟩)⟩, ⟨by (with_reducible repeat (first | apply Kd.N_alloc | apply Kd.N_drewN | apply Kd.N_drew)); exact HO1126.out⟩, ⟨blkQ BK1099⟩, ⟨beQ HB⟩⟩
        case rest =>
         clear HC24
         try clear c1
         try clear c2
         try clear p2
         try clear c3
         try clear c4
         try clear c6
         try clear c6b0
         try clear c6b1
         try clear c7
         try clear c14
         try clear c15
         try clear c15b0
         try clear c15b1
         try clear c16
         try clear c17
         try clear c17b0
         try clear c17b1
         try clear c28
         try clear c32
         try clear c37
         try clear c37b0
         try clear c37b1
         try clear c38
         try clear c38b0
         try clear c38b1
         try clear c39
         try clear c39b0
         try clear c39b1
         try clear c40
         try clear c40b0
         try clear c40b1
         try clear hcz11_0
         try clear hcz11_1
         try clear hcz13_0
         try clear hcz13_1
         try clear hcz25_0
         try clear hcz25_1
         try clear hcz27_0
         try clear hcz27_1
         try clear hcz29_0
         try clear hcz29_1
         try clear hcz31_0
         try clear hcz31_1
         try clear hcz33_0
         try clear hcz33_1
         try clear hcz35_0
         try clear hcz35_1
         try clear hfz11_0
         try clear hfz11_1
         try clear hfz13_0
         try clear hfz13_1
         try clear hfz25_0
         try clear hfz25_1
         try clear hfz27_0
         try clear hfz27_1
         try clear hfz29_0
         try clear hfz29_1
         try clear hfz31_0
         try clear hfz31_1
         try clear hfz33_0
         try clear hfz33_1
         try clear hfz35_0
         try clear hfz35_1
         try clear p2
         obtain ⟨kq, x109_23, rfl, HA, HJ23, HO_11, HO_13, HO_15, HO_17, HO_19, HO_21, BK1099, HB⟩ := hcut
         cases kq with
         | zero => exact absurd HA.out (by simp [laws_FnTraceForms.j2])
         | succ kj23 =>
          have H := HA.out; clear HA
          simp only [laws_FnTraceForms.j2] at H
          by_cases c41 : x109_23 = true
          ·subst c41
           have H1 : (some false) = some r := by rw [if_pos rfl] at H; exact H
           clear H; have H := H1; clear H1
           obtain rfl := Option.some.inj H
           go_wp2
           go_ret
           exact ⟨rz, beQ HB⟩
          ·replace c41 := Bool.eq_false_iff.mpr c41
           subst c41
           have H1 : ((laws_likeInts.f kj23 t1104 t1108).bind fun t1128 => (if (t1128 != t1100) = true then (some false) else ((laws_likeInts.f kj23 t1112 t1116).bind fun t1129 => (if (t1129 != t1100) = true then (some false) else (if t1123 = 0 then ((laws_likeRows5.f kj23 t1120 t1124).bind fun t1130 => (some (t1130 == t1100))) else (some true)))))) = some r := by rw [if_neg (show ¬ (false = true) by decide)] at H; exact H
           clear H; have H := H1; clear H1; replace H := Option.bind_eq_some_iff.mp H; obtain ⟨t1128, A420, H⟩ := H
           replace H : (if (t1128 != t1100) = true then (some false) else ((laws_likeInts.f kj23 t1112 t1116).bind fun t1129 => (if (t1129 != t1100) = true then (some false) else (if t1123 = 0 then ((laws_likeRows5.f kj23 t1120 t1124).bind fun t1130 => (some (t1130 == t1100))) else (some true))))) = some r := H
           have A42 := Aside0.mk A420; clear A420
           by_cases c43 : (t1128 != t1100) = true
           ·rw [if_pos c43] at H
            have c43b0 : (t1128 != t1100) = true := c43
            (try (have c43b1 : decide (t1128 = t1100) = false := by simpa using c43))
            (try (have c43b2 : (t1128 == t1100) = false := by simpa using c43))
            (try (have c43b3 : ¬ (t1128 = t1100) := by simpa using c43))
            clear c43
            obtain rfl := Option.some.inj H
            obtain ⟨Ao44, co44, eo44⟩ := Kd.R_slice HO_11.out; subst eo44; obtain ⟨Ao45, co45, eo45⟩ := Kd.R_slice HO_13.out; subst eo45
            go_wp2_with (first | ((with_reducible refine gate_callee (f := 48) rfl ?_); refine goesL_ (some 112) rfl rfl Tryd.func48 (by kernel_rfl) rfl #[.slice Ao44 t1104.length co44, .slice Ao45 t1108.length co45] rfl lz ?_; (with_reducible refine (laws_likeInts.calls kj23 _ _ t1104 _ _ t1108 t1128 _ ?side1 ?side2 ?side3 ?side4 A42.out).mono ?_); (case side1 => have q_ := Aside0.mk (Kd.R_reads' HO_11.out).2.2; exact cQ q_); (case side2 => exact (Kd.R_reads' HO_11.out).2.1); (case side3 => have q_ := Aside0.mk (Kd.R_reads' HO_13.out).2.2; exact cQ q_); (case side4 => exact (Kd.R_reads' HO_13.out).2.1); rintro e w' ⟨rfl, ⟨nd, rfl⟩⟩; refine ⟨_, rfl, ?_⟩))
            go_ret
            exact ⟨rz, beQ HB⟩
           ·rw [if_neg c43] at H
            have c43b0 : (t1128 != t1100) = false := by simpa using c43
            (try (have c43b1 : decide (t1128 = t1100) = true := by simpa using c43))
            (try (have c43b2 : (t1128 == t1100) = true := by simpa using c43))
            clear c43; replace H := Option.bind_eq_some_iff.mp H; obtain ⟨t1129, A460, H⟩ := H
            replace H : (if (t1129 != t1100) = true then (some false) else (if t1123 = 0 then ((laws_likeRows5.f kj23 t1120 t1124).bind fun t1130 => (some (t1130 == t1100))) else (some true))) = some r := H
            have A46 := Aside0.mk A460; clear A460
            by_cases c47 : (t1129 != t1100) = true
            ·rw [if_pos c47] at H
             have c47b0 : (t1129 != t1100) = true := c47
             (try (have c47b1 : decide (t1129 = t1100) = false := by simpa using c47))
             (try (have c47b2 : (t1129 == t1100) = false := by simpa using c47))
             (try (have c47b3 : ¬ (t1129 = t1100) := by simpa using c47))
             clear c47
             obtain rfl := Option.some.inj H
             obtain ⟨Ao48, co48, eo48⟩ := Kd.R_slice HO_11.out; subst eo48; obtain ⟨Ao49, co49, eo49⟩ := Kd.R_slice HO_13.out; subst eo49
             go_wp2_with (first | ((with_reducible refine gate_callee (f := 48) rfl ?_); refine goesL_ (some 112) rfl rfl Tryd.func48 (by kernel_rfl) rfl #[.slice Ao48 t1104.length co48, .slice Ao49 t1108.length co49] rfl lz ?_; (with_reducible refine (laws_likeInts.calls kj23 _ _ t1104 _ _ t1108 t1128 _ ?side1 ?side2 ?side3 ?side4 A42.out).mono ?_); (case side1 => have q_ := Aside0.mk (Kd.R_reads' HO_11.out).2.2; exact cQ q_); (case side2 => exact (Kd.R_reads' HO_11.out).2.1); (case side3 => have q_ := Aside0.mk (Kd.R_reads' HO_13.out).2.2; exact cQ q_); (case side4 => exact (Kd.R_reads' HO_13.out).2.1); rintro e w' ⟨rfl, ⟨nd, rfl⟩⟩; refine ⟨_, rfl, ?_⟩; obtain ⟨Ao50, co50, eo50⟩ := Kd.R_slice HO_15.out; subst eo50; obtain ⟨Ao51, co51, eo51⟩ := Kd.R_slice HO_17.out; subst eo51) | (go_at_call 48; (with_reducible refine (laws_likeInts.calls kj23 _ _ t1112 _ _ t1116 t1129 _ ?side1 ?side2 ?side3 ?side4 A46.out).mono ?_); (case side1 => have q_ := Aside0.mk (Kd.R_reads' HO_15.out).2.2; exact cQ q_); (case side2 => exact (Kd.R_reads' HO_15.out).2.1); (case side3 => have q_ := Aside0.mk (Kd.R_reads' HO_17.out).2.2; exact cQ q_); (case side4 => exact (Kd.R_reads' HO_17.out).2.1); rintro e w' ⟨rfl, ⟨nd, rfl⟩⟩))
             go_ret
             exact ⟨rz, beQ HB⟩
            ·rw [if_neg c47] at H
             have c47b0 : (t1129 != t1100) = false := by simpa using c47
             (try (have c47b1 : decide (t1129 = t1100) = true := by simpa using c47))
             (try (have c47b2 : (t1129 == t1100) = true := by simpa using c47))
             clear c47
             by_cases c52 : t1123 = 0
             ·rw [if_pos c52] at H
              have c52b0 : (t1123 == 0) = true := beq_iff_eq.mpr c52
              have c52b1 : (t1123 != 0) = false := bne_eq_false_iff_eq.mpr c52
              clear c52; replace H := Option.bind_eq_some_iff.mp H; obtain ⟨t1130, A530, H⟩ := H
              replace H : (some (t1130 == t1100)) = some r := H
              have A53 := Aside0.mk A530; clear A530
              obtain rfl := Option.some.inj H
              obtain ⟨Ao54, co54, eo54⟩ := Kd.R_slice HO_11.out; subst eo54; obtain ⟨Ao55, co55, eo55⟩ := Kd.R_slice HO_13.out; subst eo55
              go_wp2_with (first | ((with_reducible refine gate_callee (f := 48) rfl ?_); refine goesL_ (some 112) rfl rfl Tryd.func48 (by kernel_rfl) rfl #[.slice Ao54 t1104.length co54, .slice Ao55 t1108.length co55] rfl lz ?_; (with_reducible refine (laws_likeInts.calls kj23 _ _ t1104 _ _ t1108 t1128 _ ?side1 ?side2 ?side3 ?side4 A42.out).mono ?_); (case side1 => have q_ := Aside0.mk (Kd.R_reads' HO_11.out).2.2; exact cQ q_); (case side2 => exact (Kd.R_reads' HO_11.out).2.1); (case side3 => have q_ := Aside0.mk (Kd.R_reads' HO_13.out).2.2; exact cQ q_); (case side4 => exact (Kd.R_reads' HO_13.out).2.1); rintro e w' ⟨rfl, ⟨nd, rfl⟩⟩; refine ⟨_, rfl, ?_⟩; obtain ⟨Ao56, co56, eo56⟩ := Kd.R_slice HO_15.out; subst eo56; obtain ⟨Ao57, co57, eo57⟩ := Kd.R_slice HO_17.out; subst eo57) | (go_at_call 48; (with_reducible refine (laws_likeInts.calls kj23 _ _ t1112 _ _ t1116 t1129 _ ?side1 ?side2 ?side3 ?side4 A46.out).mono ?_); (case side1 => have q_ := Aside0.mk (Kd.R_reads' HO_15.out).2.2; exact cQ q_); (case side2 => exact (Kd.R_reads' HO_15.out).2.1); (case side3 => have q_ := Aside0.mk (Kd.R_reads' HO_17.out).2.2; exact cQ q_); (case side4 => exact (Kd.R_reads' HO_17.out).2.1); rintro e w' ⟨rfl, ⟨nd, rfl⟩⟩; obtain ⟨Ao58, co58, eo58⟩ := Kd.N_slice HO_19.out; subst eo58; obtain ⟨Ao59, co59, eo59⟩ := Kd.N_slice HO_21.out; subst eo59) | (go_at_call 49; (with_reducible refine (laws_likeRows5.calls kj23 _ _ t1120 _ _ t1124 t1130 _ ?side1 ?side2 ?side3 ?side4 A53.out).mono ?_); (case side1 => have q_ := Aside0.mk (Kd.N_reads' HO_19.out).2.2; exact cQ q_); (case side2 => exact (Kd.N_reads' HO_19.out).2.1); (case side3 => have q_ := Aside0.mk (Kd.N_reads' HO_21.out).2.2; exact cQ q_); (case side4 => exact (Kd.N_reads' HO_21.out).2.1); rintro e w' ⟨rfl, ⟨nd, rfl⟩⟩))
              go_ret
              exact ⟨rz, beQ HB⟩
             ·rw [if_neg c52] at H
              have c52b0 : (t1123 == 0) = false := beq_eq_false_iff_ne.mpr c52
              have c52b1 : (t1123 != 0) = true := bne_iff_ne.mpr c52
              obtain rfl := Option.some.inj H
              obtain ⟨Ao60, co60, eo60⟩ := Kd.R_slice HO_11.out; subst eo60; obtain ⟨Ao61, co61, eo61⟩ := Kd.R_slice HO_13.out; subst eo61
              go_wp2_with (first | ((with_reducible refine gate_callee (f := 48) rfl ?_); refine goesL_ (some 112) rfl rfl Tryd.func48 (by kernel_rfl) rfl #[.slice Ao60 t1104.length co60, .slice Ao61 t1108.length co61] rfl lz ?_; (with_reducible refine (laws_likeInts.calls kj23 _ _ t1104 _ _ t1108 t1128 _ ?side1 ?side2 ?side3 ?side4 A42.out).mono ?_); (case side1 => have q_ := Aside0.mk (Kd.R_reads' HO_11.out).2.2; exact cQ q_); (case side2 => exact (Kd.R_reads' HO_11.out).2.1); (case side3 => have q_ := Aside0.mk (Kd.R_reads' HO_13.out).2.2; exact cQ q_); (case side4 => exact (Kd.R_reads' HO_13.out).2.1); rintro e w' ⟨rfl, ⟨nd, rfl⟩⟩; refine ⟨_, rfl, ?_⟩; obtain ⟨Ao62, co62, eo62⟩ := Kd.R_slice HO_15.out; subst eo62; obtain ⟨Ao63, co63, eo63⟩ := Kd.R_slice HO_17.out; subst eo63) | (go_at_call 48; (with_reducible refine (laws_likeInts.calls kj23 _ _ t1112 _ _ t1116 t1129 _ ?side1 ?side2 ?side3 ?side4 A46.out).mono ?_); (case side1 => have q_ := Aside0.mk (Kd.R_reads' HO_15.out).2.2; exact cQ q_); (case side2 => exact (Kd.R_reads' HO_15.out).2.1); (case side3 => have q_ := Aside0.mk (Kd.R_reads' HO_17.out).2.2; exact cQ q_); (case side4 => exact (Kd.R_reads' HO_17.out).2.1); rintro e w' ⟨rfl, ⟨nd, rfl⟩⟩))
              go_ret
              exact ⟨rz, beQ HB⟩
       ·rw [if_neg c17] at H
        have c17b0 : (t1101 == 0) = false := beq_eq_false_iff_ne.mpr c17
        have c17b1 : (t1101 != 0) = true := bne_iff_ne.mpr c17
        obtain rfl := Option.some.inj H
        go_wp2
        go_ret
        exact ⟨rz, beQ HB⟩

end Go.Proofs.YtlpodkpnoopnnaaDoor.G
