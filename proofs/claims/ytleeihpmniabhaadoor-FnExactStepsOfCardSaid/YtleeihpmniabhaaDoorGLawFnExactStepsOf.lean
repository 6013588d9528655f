/- How the program's functions compute, function by function: each is told by a plain Lean function of the same answers, under the condition that this one answers. Written by a program of this project over the seat's translation; Lean checks it. -/
import Derived.Test.YtleeihpmniabhaaDoorG0
import Derived.Test.YtleeihpmniabhaaDoorGQ18b
import Derived.Test.YtleeihpmniabhaaDoorGQ19a
import Derived.Test.YtleeihpmniabhaaDoorGQ19b
namespace Go.Proofs.YtleeihpmniabhaaDoor.G
open Go.RowKit Go.Proofs.YtleeihpmniabhaaDoorW.PrintWords Go.Proofs.YtleeihpmniabhaaDoorW.PrintLast Go.Proofs.YtleeihpmniabhaaDoorW.PrintMore
attribute [local go_sem] max2_int min2_int max_two min_two max_three min_three max_four min_four   -- for this text's walks alone
set_option linter.unusedVariables false
set_option linter.unusedSimpArgs false

/-! ### laws_FnExactStepsOf: function 8 -/
mutual
def laws_FnExactStepsOf.j0 : Nat → List Int → Int → List Int → Int → Bool → Int → List Int → Int → List Int → Option (Bool)
 | 0, _, _, _, _, _, _, _, _, _ => none
 | k + 1, x4, x5, x7, x8, x40, x1525000, x1525001, x1539000, x1539001 => if x40 = true then (some false) else ((laws_toAlphabet.f k x1525000 x1525001).bind fun bt1544 => ((laws_eqAlphabet.f k x1539000 x1539001 bt1544.1 bt1544.2).bind fun t1548 => (if t1548 = true then ((laws_markAlphabet.f k x1539000 x1539001 1).bind fun bt1549 => (if bt1549.1 < 0 then (laws_FnExactStepsOf.j1 k x4 x5 x7 true x1525000 x1525001) else ((laws_eqInt64S.f k x7 x4).bind fun t1551 => (if t1551 = true then (laws_FnExactStepsOf.j1 k x4 x5 x7 (x8 != x5) x1525000 x1525001) else (laws_FnExactStepsOf.j1 k x4 x5 x7 true x1525000 x1525001))))) else (some false))))
def laws_FnExactStepsOf.j1 : Nat → List Int → Int → List Int → Bool → Int → List Int → Option (Bool)
 | 0, _, _, _, _, _, _ => none
 | k + 1, x4, x5, x7, x61, x1525000, x1525001 => if x61 = true then (some false) else ((laws_markInt64S.f k x7 1).bind fun bt1552 => ((laws_heldInt64S.f k bt1552.2 1).bind fun t1554 => (if t1554 < 0 then (some false) else (if t1554 = bt1552.1 then ((laws_toAlphabet.f k x1525000 x1525001).bind fun bt1555 => ((impl_StepsOf.f k bt1555.1 bt1555.2).bind fun bt1559 => ((laws_eqInt64S.f k bt1559.1 x4).bind fun t1563 => (if t1563 = true then (laws_FnExactStepsOf.j2 k bt1552.2 bt1552.1 (bt1559.2 != x5)) else (laws_FnExactStepsOf.j2 k bt1552.2 bt1552.1 true))))) else (some false)))))
def laws_FnExactStepsOf.j2 : Nat → List Int → Int → Bool → Option (Bool)
 | 0, _, _, _ => none
 | k + 1, x7, x10, x87 => if x87 = true then (some false) else ((laws_heldInt64S.f k x7 1).bind fun t1564 => (if t1564 < 0 then (some false) else (if t1564 = x10 then (some true) else (some false))))
end
def laws_FnExactStepsOf.f (k : Nat) (a0_0 : Int) (l0_1 : List Int) : Option (Bool) := (laws_szAlphabet.f a0_0 l0_1 1048576).bind fun t1525 => (if t1525 < 0 then (some true) else ((laws_toAlphabet.f k a0_0 l0_1).bind fun bt1526 => ((spec_StepsOf.f k bt1526.1 bt1526.2).bind fun bt1530 => ((laws_toAlphabet.f k a0_0 l0_1).bind fun bt1534 => ((impl_StepsOf.f k bt1534.1 bt1534.2).bind fun bt1539 => ((laws_eqInt64S.f k bt1539.1 bt1530.1).bind fun t1543 => (if t1543 = true then (laws_FnExactStepsOf.j0 k bt1530.1 bt1530.2 bt1539.1 bt1539.2 (bt1539.2 != bt1530.2) a0_0 l0_1 bt1534.1 bt1534.2) else (laws_FnExactStepsOf.j0 k bt1530.1 bt1530.2 bt1539.1 bt1539.2 true a0_0 l0_1 bt1534.1 bt1534.2))))))))
theorem laws_FnExactStepsOf.mono_l : ∀ k, (∀ y0 y1 y2 y3 y4 y5 y6 y7 y8, LeO (laws_FnExactStepsOf.j0 k y0 y1 y2 y3 y4 y5 y6 y7 y8) (laws_FnExactStepsOf.j0 (k + 1) y0 y1 y2 y3 y4 y5 y6 y7 y8)) ∧ (∀ y0 y1 y2 y3 y4 y5, LeO (laws_FnExactStepsOf.j1 k y0 y1 y2 y3 y4 y5) (laws_FnExactStepsOf.j1 (k + 1) y0 y1 y2 y3 y4 y5)) ∧ (∀ y0 y1 y2, LeO (laws_FnExactStepsOf.j2 k y0 y1 y2) (laws_FnExactStepsOf.j2 (k + 1) y0 y1 y2))
 | 0 => ⟨fun _ _ _ _ _ _ _ _ _ r h => by simp [laws_FnExactStepsOf.j0] at h, fun _ _ _ _ _ _ r h => by simp [laws_FnExactStepsOf.j1] at h, fun _ _ _ r h => by simp [laws_FnExactStepsOf.j2] at h⟩
 | k + 1 => by
  obtain ⟨ih0, ih1, ih2⟩ := laws_FnExactStepsOf.mono_l k
  refine ⟨?_, ?_, ?_⟩
  ·intro y0 y1 y2 y3 y4 y5 y6 y7 y8
   unfold laws_FnExactStepsOf.j0
   repeat' first
   | (with_reducible exact ih0 _ _ _ _ _ _ _ _ _)
   | (with_reducible exact ih1 _ _ _ _ _ _)
   | (with_reducible exact ih2 _ _ _)
   | (with_reducible exact impl_StepsOf.mono _ _ _)
   | (with_reducible exact laws_eqAlphabet.mono _ _ _ _ _)
   | (with_reducible exact laws_eqInt64S.mono _ _ _)
   | (with_reducible exact laws_heldInt64S.mono _ _ _)
   | (with_reducible exact laws_markAlphabet.mono _ _ _ _)
   | (with_reducible exact laws_markInt64S.mono _ _ _)
   | (with_reducible exact laws_toAlphabet.mono _ _ _)
   | (with_reducible exact spec_StepsOf.mono _ _ _)
   | (with_reducible exact LeO.refl _)
   | (with_reducible exact LeO.none _)
   | (with_reducible refine LeO.ite ?_ ?_)
   | (with_reducible refine LeO.bind ?_ (fun _ => ?_))
   | exact ih0 _ _ _ _ _ _ _ _ _
   | exact ih1 _ _ _ _ _ _
   | exact ih2 _ _ _
   | exact impl_StepsOf.mono _ _ _
   | exact laws_eqAlphabet.mono _ _ _ _ _
   | exact laws_eqInt64S.mono _ _ _
   | exact laws_heldInt64S.mono _ _ _
   | exact laws_markAlphabet.mono _ _ _ _
   | exact laws_markInt64S.mono _ _ _
   | exact laws_toAlphabet.mono _ _ _
   | exact spec_StepsOf.mono _ _ _
   | exact LeO.none _
   | refine LeO.ite ?_ ?_
   | refine LeO.bind ?_ (fun _ => ?_)
  ·intro y0 y1 y2 y3 y4 y5
   unfold laws_FnExactStepsOf.j1
   repeat' first
   | (with_reducible exact ih0 _ _ _ _ _ _ _ _ _)
   | (with_reducible exact ih1 _ _ _ _ _ _)
   | (with_reducible exact ih2 _ _ _)
   | (with_reducible exact impl_StepsOf.mono _ _ _)
   | (with_reducible exact laws_eqAlphabet.mono _ _ _ _ _)
   | (with_reducible exact laws_eqInt64S.mono _ _ _)
   | (with_reducible exact laws_heldInt64S.mono _ _ _)
   | (with_reducible exact laws_markAlphabet.mono _ _ _ _)
   | (with_reducible exact laws_markInt64S.mono _ _ _)
   | (with_reducible exact laws_toAlphabet.mono _ _ _)
   | (with_reducible exact spec_StepsOf.mono _ _ _)
   | (with_reducible exact LeO.refl _)
   | (with_reducible exact LeO.none _)
   | (with_reducible refine LeO.ite ?_ ?_)
   | (with_reducible refine LeO.bind ?_ (fun _ => ?_))
   | exact ih0 _ _ _ _ _ _ _ _ _
   | exact ih1 _ _ _ _ _ _
   | exact ih2 _ _ _
   | exact impl_StepsOf.mono _ _ _
   | exact laws_eqAlphabet.mono _ _ _ _ _
   | exact laws_eqInt64S.mono _ _ _
   | exact laws_heldInt64S.mono _ _ _
   | exact laws_markAlphabet.mono _ _ _ _
   | exact laws_markInt64S.mono _ _ _
   | exact laws_toAlphabet.mono _ _ _
   | exact spec_StepsOf.mono _ _ _
   | exact LeO.none _
   | refine LeO.ite ?_ ?_
   | refine LeO.bind ?_ (fun _ => ?_)
  ·intro y0 y1 y2
   unfold laws_FnExactStepsOf.j2
   repeat' first
   | (with_reducible exact ih0 _ _ _ _ _ _ _ _ _)
   | (with_reducible exact ih1 _ _ _ _ _ _)
   | (with_reducible exact ih2 _ _ _)
   | (with_reducible exact impl_StepsOf.mono _ _ _)
   | (with_reducible exact laws_eqAlphabet.mono _ _ _ _ _)
   | (with_reducible exact laws_eqInt64S.mono _ _ _)
   | (with_reducible exact laws_heldInt64S.mono _ _ _)
   | (with_reducible exact laws_markAlphabet.mono _ _ _ _)
   | (with_reducible exact laws_markInt64S.mono _ _ _)
   | (with_reducible exact laws_toAlphabet.mono _ _ _)
   | (with_reducible exact spec_StepsOf.mono _ _ _)
   | (with_reducible exact LeO.refl _)
   | (with_reducible exact LeO.none _)
   | (with_reducible refine LeO.ite ?_ ?_)
   | (with_reducible refine LeO.bind ?_ (fun _ => ?_))
   | exact ih0 _ _ _ _ _ _ _ _ _
   | exact ih1 _ _ _ _ _ _
   | exact ih2 _ _ _
   | exact impl_StepsOf.mono _ _ _
   | exact laws_eqAlphabet.mono _ _ _ _ _
   | exact laws_eqInt64S.mono _ _ _
   | exact laws_heldInt64S.mono _ _ _
   | exact laws_markAlphabet.mono _ _ _ _
   | exact laws_markInt64S.mono _ _ _
   | exact laws_toAlphabet.mono _ _ _
   | exact spec_StepsOf.mono _ _ _
   | exact LeO.none _
   | refine LeO.ite ?_ ?_
   | refine LeO.bind ?_ (fun _ => ?_)
theorem laws_FnExactStepsOf.mono : ∀ a0 a1 k, LeO (laws_FnExactStepsOf.f k a0 a1) (laws_FnExactStepsOf.f (k + 1) a0 a1) := by
 intro a0 a1 k
 obtain ⟨ih0, ih1, ih2⟩ := laws_FnExactStepsOf.mono_l k
 unfold laws_FnExactStepsOf.f
 repeat' first
   | (with_reducible exact ih0 _ _ _ _ _ _ _ _ _)
   | (with_reducible exact ih1 _ _ _ _ _ _)
   | (with_reducible exact ih2 _ _ _)
   | (with_reducible exact impl_StepsOf.mono _ _ _)
   | (with_reducible exact laws_eqAlphabet.mono _ _ _ _ _)
   | (with_reducible exact laws_eqInt64S.mono _ _ _)
   | (with_reducible exact laws_heldInt64S.mono _ _ _)
   | (with_reducible exact laws_markAlphabet.mono _ _ _ _)
   | (with_reducible exact laws_markInt64S.mono _ _ _)
   | (with_reducible exact laws_toAlphabet.mono _ _ _)
   | (with_reducible exact spec_StepsOf.mono _ _ _)
   | (with_reducible exact LeO.refl _)
   | (with_reducible exact LeO.none _)
   | (with_reducible refine LeO.ite ?_ ?_)
   | (with_reducible refine LeO.bind ?_ (fun _ => ?_))
   | exact ih0 _ _ _ _ _ _ _ _ _
   | exact ih1 _ _ _ _ _ _
   | exact ih2 _ _ _
   | exact impl_StepsOf.mono _ _ _
   | exact laws_eqAlphabet.mono _ _ _ _ _
   | exact laws_eqInt64S.mono _ _ _
   | exact laws_heldInt64S.mono _ _ _
   | exact laws_markAlphabet.mono _ _ _ _
   | exact laws_markInt64S.mono _ _ _
   | exact laws_toAlphabet.mono _ _ _
   | exact spec_StepsOf.mono _ _ _
   | exact LeO.none _
   | refine LeO.ite ?_ ?_
   | refine LeO.bind ?_ (fun _ => ?_)
set_option maxHeartbeats 8000000 in
set_option maxRecDepth 100000 in
theorem laws_FnExactStepsOf.calls (k : Nat) (a0_0 : Int) (A0_1 : Option Addr) (c0_1 : Nat) (l0_1 : List Int) (r : Bool) (w : World) (hr0_1 : Kd.C (Kd.int .i64) w A0_1 l0_1.length l0_1) (hc0_1 : l0_1.length ≤ c0_1) (hT : TabW w) (h : laws_FnExactStepsOf.f k a0_0 l0_1 = some r) :
  Calls Tryd.prog 8 #[.agg #[.int .i64 a0_0, .slice A0_1 l0_1.length c0_1]] w fun e w' => e = .returned (.bool r) ∧ Below w.heap.size w w' := by
 have hu59 := Tryd.underlying59; have hu26 := Tryd.underlying26; have HT := Aside0.mk hT; clear hT; have HR0_1 := Aside0.mk hr0_1; have HC0_1 := Aside0.mk hc0_1; clear hr0_1 hc0_1; have HB := Aside0.mk (Below.refl w.heap.size w)
 have H : ((laws_szAlphabet.f a0_0 l0_1 1048576).bind fun t1525 => (if t1525 < 0 then (some true) else ((laws_toAlphabet.f k a0_0 l0_1).bind fun bt1526 => ((spec_StepsOf.f k bt1526.1 bt1526.2).bind fun bt1530 => ((laws_toAlphabet.f k a0_0 l0_1).bind fun bt1534 => ((impl_StepsOf.f k bt1534.1 bt1534.2).bind fun bt1539 => ((laws_eqInt64S.f k bt1539.1 bt1530.1).bind fun t1543 => (if t1543 = true then (laws_FnExactStepsOf.j0 k bt1530.1 bt1530.2 bt1539.1 bt1539.2 (bt1539.2 != bt1530.2) a0_0 l0_1 bt1534.1 bt1534.2) else (laws_FnExactStepsOf.j0 k bt1530.1 bt1530.2 bt1539.1 bt1539.2 true a0_0 l0_1 bt1534.1 bt1534.2))))))))) = some r := h
 clear h; replace H := Option.bind_eq_some_iff.mp H; obtain ⟨t1525, A20, H⟩ := H
 replace H : (if t1525 < 0 then (some true) else ((laws_toAlphabet.f k a0_0 l0_1).bind fun bt1526 => ((spec_StepsOf.f k bt1526.1 bt1526.2).bind fun bt1530 => ((laws_toAlphabet.f k a0_0 l0_1).bind fun bt1534 => ((impl_StepsOf.f k bt1534.1 bt1534.2).bind fun bt1539 => ((laws_eqInt64S.f k bt1539.1 bt1530.1).bind fun t1543 => (if t1543 = true then (laws_FnExactStepsOf.j0 k bt1530.1 bt1530.2 bt1539.1 bt1539.2 (bt1539.2 != bt1530.2) a0_0 l0_1 bt1534.1 bt1534.2) else (laws_FnExactStepsOf.j0 k bt1530.1 bt1530.2 bt1539.1 bt1539.2 true a0_0 l0_1 bt1534.1 bt1534.2)))))))) = some r := H
 have A2 := Aside0.mk A20; clear A20
 by_cases c3 : t1525 < 0
 ·rw [if_pos c3] at H
  have c3b0 : decide (t1525 < 0) = true := decide_eq_true c3
  clear c3
  obtain rfl := Option.some.inj H
  go_enter Tryd.func8, Tryd.ntmps8
  go_wp2_with (first | ((with_reducible refine gate_dst (N := 1) rfl ?_); refine box_event ?hg (N := 1) ?hd (cs := #[.int .i64 a0_0, .slice A0_1 l0_1.length c0_1]) (t := 59) ?hr ?_; (case hd => rfl); (case hg => rfl); (case hr => first | (go_simp; done) | (go_simp; rfl)); intro gb1524 hg w4 hbox hb; have BK1524 := Aside0.mk (hbox); have GW1524 := Aside0.mk ((by rw [hg]; exact (below_size (beQ HB)) : w.heap.size ≤ gb1524)); have GE1524 := Aside0.mk ((by rw [hg]; exact (below_size (beQ HB)) : w.heap.size ≤ gb1524)); replace HB := Aside0.mk (below_step (beQ HB) hb); clear hb hbox hg; have hcz5_0 : w4.cell? ⟨gb1524, 0, none⟩ = some (.int .i64 a0_0) := bc BK1524 0; have hcz5_1 : w4.cell? ⟨gb1524, 1, none⟩ = some (.slice A0_1 l0_1.length c0_1) := bc BK1524 1; have hfz5_0 := blk_frozen BK1524.out 0; have hfz5_1 := blk_frozen BK1524.out 1) | ((with_reducible refine gate_callee (f := 48) rfl ?_); refine goesL_ (some 16) rfl rfl Tryd.func48 (by kernel_rfl) rfl #[.agg #[.int .i64 a0_0, .slice A0_1 l0_1.length c0_1], .int .i64 1048576] rfl lz ?_; (with_reducible refine (laws_szAlphabet.calls a0_0 _ _ l0_1 1048576 t1525 _ ?side1 ?side2 A2.out).mono ?_); (case side1 => have q_ := Aside0.mk (Kd.C_below HR0_1.out HB.out); exact cQ q_); (case side2 => exact HC0_1.out); rintro e w6 ⟨rfl, hb⟩; refine ⟨_, rfl, ?_⟩; replace BK1524 := bb BK1524 hb; replace HB := Aside0.mk (below_step (beQ HB) hb); (try clear hb); (try clear hb2); (try clear hk); (try clear hi); (try clear hgw_)))
  go_ret
  exact ⟨rz, beQ HB⟩
 ·rw [if_neg c3] at H
  have c3b0 : decide (t1525 < 0) = false := decide_eq_false c3
  clear c3; replace H := Option.bind_eq_some_iff.mp H
  obtain ⟨⟨t1526, t1527⟩, A70, H⟩ := H
  replace H : ((spec_StepsOf.f k t1526 t1527).bind fun bt1530 => ((laws_toAlphabet.f k a0_0 l0_1).bind fun bt1534 => ((impl_StepsOf.f k bt1534.1 bt1534.2).bind fun bt1539 => ((laws_eqInt64S.f k bt1539.1 bt1530.1).bind fun t1543 => (if t1543 = true then (laws_FnExactStepsOf.j0 k bt1530.1 bt1530.2 bt1539.1 bt1539.2 (bt1539.2 != bt1530.2) a0_0 l0_1 bt1534.1 bt1534.2) else (laws_FnExactStepsOf.j0 k bt1530.1 bt1530.2 bt1539.1 bt1539.2 true a0_0 l0_1 bt1534.1 bt1534.2)))))) = some r := H
  have A7 := Aside0.mk A70; clear A70; replace H := Option.bind_eq_some_iff.mp H
  obtain ⟨⟨t1530, t1533⟩, A80, H⟩ := H
  replace H : ((laws_toAlphabet.f k a0_0 l0_1).bind fun bt1534 => ((impl_StepsOf.f k bt1534.1 bt1534.2).bind fun bt1539 => ((laws_eqInt64S.f k bt1539.1 t1530).bind fun t1543 => (if t1543 = true then (laws_FnExactStepsOf.j0 k t1530 t1533 bt1539.1 bt1539.2 (bt1539.2 != t1533) a0_0 l0_1 bt1534.1 bt1534.2) else (laws_FnExactStepsOf.j0 k t1530 t1533 bt1539.1 bt1539.2 true a0_0 l0_1 bt1534.1 bt1534.2))))) = some r := H
  have A8 := Aside0.mk A80; clear A80; replace H := Option.bind_eq_some_iff.mp H
  obtain ⟨⟨t1534, t1535⟩, A90, H⟩ := H
  replace H : ((impl_StepsOf.f k t1534 t1535).bind fun bt1539 => ((laws_eqInt64S.f k bt1539.1 t1530).bind fun t1543 => (if t1543 = true then (laws_FnExactStepsOf.j0 k t1530 t1533 bt1539.1 bt1539.2 (bt1539.2 != t1533) a0_0 l0_1 t1534 t1535) else (laws_FnExactStepsOf.j0 k t1530 t1533 bt1539.1 bt1539.2 true a0_0 l0_1 t1534 t1535)))) = some r := H
  have A9 := Aside0.mk A90; clear A90; replace H := Option.bind_eq_some_iff.mp H
  obtain ⟨⟨t1539, t1542⟩, A100, H⟩ := H
  replace H : ((laws_eqInt64S.f k t1539 t1530).bind fun t1543 => (if t1543 = true then (laws_FnExactStepsOf.j0 k t1530 t1533 t1539 t1542 (t1542 != t1533) a0_0 l0_1 t1534 t1535) else (laws_FnExactStepsOf.j0 k t1530 t1533 t1539 t1542 true a0_0 l0_1 t1534 t1535))) = some r := H
  have A10 := Aside0.mk A100; clear A100; have HC11 := Aside0.mk H; clear H
  go_enter Tryd.func8, Tryd.ntmps8
  go_upto_region 8 with (first | ((with_reducible refine gate_dst (N := 1) rfl ?_); refine box_event ?hg (N := 1) ?hd (cs := #[.int .i64 a0_0, .slice A0_1 l0_1.length c0_1]) (t := 59) ?hr ?_; (case hd => rfl); (case hg => rfl); (case hr => first | (go_simp; done) | (go_simp; rfl)); intro gb1524 hg w12 hbox hb; have BK1524 := Aside0.mk (hbox); have GW1524 := Aside0.mk ((by rw [hg]; exact (below_size (beQ HB)) : w.heap.size ≤ gb1524)); have GE1524 := Aside0.mk ((by rw [hg]; exact (below_size (beQ HB)) : w.heap.size ≤ gb1524)); replace HB := Aside0.mk (below_step (beQ HB) hb); clear hb hbox hg; have hcz13_0 : w12.cell? ⟨gb1524, 0, none⟩ = some (.int .i64 a0_0) := bc BK1524 0; have hcz13_1 : w12.cell? ⟨gb1524, 1, none⟩ = some (.slice A0_1 l0_1.length c0_1) := bc BK1524 1; have hfz13_0 := blk_frozen BK1524.out 0; have hfz13_1 := blk_frozen BK1524.out 1) | ((with_reducible refine gate_callee (f := 48) rfl ?_); refine goesL_ (some 16) rfl rfl Tryd.func48 (by kernel_rfl) rfl #[.agg #[.int .i64 a0_0, .slice A0_1 l0_1.length c0_1], .int .i64 1048576] rfl lz ?_; (with_reducible refine (laws_szAlphabet.calls a0_0 _ _ l0_1 1048576 t1525 _ ?side1 ?side2 A2.out).mono ?_); (case side1 => have q_ := Aside0.mk (Kd.C_below HR0_1.out HB.out); exact cQ q_); (case side2 => exact HC0_1.out); rintro e w14 ⟨rfl, hb⟩; refine ⟨_, rfl, ?_⟩; replace BK1524 := bb BK1524 hb; replace HB := Aside0.mk (below_step (beQ HB) hb); (try clear hb); (try clear hb2); (try clear hk); (try clear hi); (try clear hgw_); have hcz15_0 : w14.cell? ⟨gb1524, 0, none⟩ = some (.int .i64 a0_0) := bc BK1524 0; have hcz15_1 : w14.cell? ⟨gb1524, 1, none⟩ = some (.slice A0_1 l0_1.length c0_1) := bc BK1524 1; have hfz15_0 := blk_frozen BK1524.out 0; have hfz15_1 := blk_frozen BK1524.out 1) | ((with_reducible refine gate_callee (f := 50) rfl ?_); refine goesL_ (some 21) rfl rfl Tryd.func50 (by kernel_rfl) rfl #[.agg #[.int .i64 a0_0, .slice A0_1 l0_1.length c0_1]] rfl lz ?_; (with_reducible refine (laws_toAlphabet.calls k a0_0 _ _ l0_1 t1526 t1527 _ ?side1 ?side2 A7.out).mono ?_); (case side1 => have q_ := Aside0.mk (Kd.C_below HR0_1.out HB.out); exact cQ q_); (case side2 => exact HC0_1.out); rintro e w16 ⟨v1528, rfl, ho0, hb⟩; refine ⟨_, rfl, ?_⟩; have HO1529 := Aside0.mk (Kd.R_lower ho0 (below_size (beQ HB))); replace BK1524 := bb BK1524 hb; replace HB := Aside0.mk (below_step (beQ HB) hb); (try clear hb); (try clear hb2); (try clear hk); (try clear hi); (try clear hgw_); (try clear ho0); obtain ⟨Ao17, co17, eo17⟩ := Kd.R_slice HO1529.out; subst eo17) | ((with_reducible refine gate_callee (f := 49) rfl ?_); refine goesL_ (some 22) rfl rfl Tryd.func49 (by kernel_rfl) rfl #[.agg #[.int .i64 t1526, .slice Ao17 t1527.length co17]] rfl lz ?_; (with_reducible refine (spec_StepsOf.calls k t1526 _ _ t1527 t1530 t1533 _ ?side1 ?side2 A8.out).mono ?_); (case side1 => have q_ := Aside0.mk (Kd.R_reads' HO1529.out).2.2; exact cQ q_); (case side2 => exact (Kd.R_reads' HO1529.out).2.1); rintro e w18 ⟨v1531, rfl, ho0, hb⟩; refine ⟨_, rfl, ?_⟩; have HO1532 := Aside0.mk (Kd.R_lower (Kd.R_new' ho0 (Kd.R_lt (kdQ HO1529))) (below_size (beQ HB))); replace HO1529 := Aside0.mk (Kd.R_elder' (kdQ HO1529) (Kd.R_base ho0) hb); replace BK1524 := bb BK1524 hb; replace HB := Aside0.mk (below_step (beQ HB) hb); (try clear hb); (try clear hb2); (try clear hk); (try clear hi); (try clear hgw_); (try clear ho0); have hcz19_0 : w18.cell? ⟨gb1524, 0, none⟩ = some (.int .i64 a0_0) := bc BK1524 0; have hcz19_1 : w18.cell? ⟨gb1524, 1, none⟩ = some (.slice A0_1 l0_1.length c0_1) := bc BK1524 1; have hfz19_0 := blk_frozen BK1524.out 0; have hfz19_1 := blk_frozen BK1524.out 1) | ((with_reducible refine gate_callee (f := 50) rfl ?_); refine goesL_ (some 26) rfl rfl Tryd.func50 (by kernel_rfl) rfl #[.agg #[.int .i64 a0_0, .slice A0_1 l0_1.length c0_1]] rfl lz ?_; (with_reducible refine (laws_toAlphabet.calls k a0_0 _ _ l0_1 t1534 t1535 _ ?side1 ?side2 A9.out).mono ?_); (case side1 => have q_ := Aside0.mk (Kd.C_below HR0_1.out HB.out); exact cQ q_); (case side2 => exact HC0_1.out); rintro e w20 ⟨v1536, rfl, ho0, hb⟩; refine ⟨_, rfl, ?_⟩; have HO1537 := Aside0.mk (Kd.R_lower (Kd.R_new' (Kd.R_new' ho0 (Kd.R_lt (kdQ HO1529))) (Kd.R_lt (kdQ HO1532))) (below_size (beQ HB))); replace HO1529 := Aside0.mk (Kd.R_elder' (kdQ HO1529) (Kd.R_base ho0) hb); replace HO1532 := Aside0.mk (Kd.R_elder' (kdQ HO1532) (Kd.R_base ho0) hb); replace BK1524 := bb BK1524 hb; replace HB := Aside0.mk (below_step (beQ HB) hb); (try clear hb); (try clear hb2); (try clear hk); (try clear hi); (try clear hgw_); (try clear ho0)) | ((with_reducible refine gate_dst (N := 6) rfl ?_); refine box_event ?hg (N := 6) ?hd (cs := #[.int .i64 0, .slice none 0 0]) (t := 26) ?hr ?_; (case hd => rfl); (case hg => rfl); (case hr => first | (go_simp; done) | (go_simp; rfl)); intro gb1538 hg w21 hbox hb; replace HO1529 := kb HO1529 hb; replace HO1532 := kb HO1532 hb; replace HO1537 := kb HO1537 hb; have BK1538 := Aside0.mk (hbox); have GW1538 := Aside0.mk ((by rw [hg]; exact (below_size (beQ HB)) : w.heap.size ≤ gb1538)); have GE1538 := Aside0.mk ((by rw [hg]; exact (below_size (beQ HB)) : w.heap.size ≤ gb1538)); replace HB := Aside0.mk (below_step (beQ HB) hb); have NB1524_1538 := Aside0.mk ((by rw [hg]; exact Nat.ne_of_lt (blk_lt (blkQ BK1524)) : gb1524 ≠ gb1538)); have NB1538_1524 := Aside0.mk ((by rw [hg]; exact Nat.ne_of_gt (blk_lt (blkQ BK1524)) : gb1538 ≠ gb1524)); replace BK1524 := bb BK1524 hb; clear hb hbox hg; have hnb22 := NB1538_1524.out; have hnc22 := NB1524_1538.out; have hcz23_0 : w21.cell? ⟨gb1538, 0, none⟩ = some (.int .i64 0) := bc BK1538 0; have hcz23_1 : w21.cell? ⟨gb1538, 1, none⟩ = some (.slice none 0 0) := bc BK1538 1; have hfz23_0 := blk_frozen BK1538.out 0; have hfz23_1 := blk_frozen BK1538.out 1; obtain ⟨Ao24, co24, eo24⟩ := Kd.R_slice HO1537.out; subst eo24) | ((with_reducible refine gate_callee (f := 47) rfl ?_); refine goesL_ (some 29) rfl rfl Tryd.func47 (by kernel_rfl) rfl #[.agg #[.int .i64 t1534, .slice Ao24 t1535.length co24]] rfl lz ?_; (with_reducible refine (impl_StepsOf.calls k t1534 _ _ t1535 t1539 t1542 _ ?side1 ?side2 ?side3 A10.out).mono ?_); (case side1 => refine (Kd.R_reads' (e := 2) (base := w.heap.size) (ok := fun k_ => ((True ∧ some k_ ≠ (.slice Ao17 t1527.length co17 : Value).ownBlock) ∧ some k_ ≠ (v1531 : Value).ownBlock)) (n := t1535.length) (c := co24) ?_).2.2; exact (by (with_reducible repeat (first | apply Kd.R_alloc | apply Kd.R_drewN | apply Kd.R_drew)); exact (Kd.R_mono (Kd.R_far (p := ⟨gb1538, 1, none⟩) (Kd.R_far (p := ⟨gb1538, 0, none⟩) (Kd.R_types HO1537.out BK1538.out (by decide)) (fun _ hk => hk.2) (.int .i64 t1534)) (fun _ hk => hk.2) (.slice Ao24 t1535.length co24)) (fun _ h_ => h_.1)))); (case side2 => exact (Kd.R_reads' HO1537.out).2.1); (case side3 => exact TabW.below HT.out (beQ HB)); rintro e w25 ⟨v1540, rfl, ho0, hb⟩; refine ⟨_, rfl, ?_⟩; have HO1541 := Aside0.mk (Kd.R_lower (Kd.R_new' (Kd.R_new' (Kd.R_new' ho0 (Kd.R_lt (by (with_reducible repeat (first | apply Kd.R_alloc | apply Kd.R_drewN | apply Kd.R_drew)); exact (Kd.R_mono (Kd.R_far (p := ⟨gb1538, 1, none⟩) (Kd.R_far (p := ⟨gb1538, 0, none⟩) (Kd.R_types HO1529.out BK1538.out (by decide)) (fun _ hk => hk.2) (.int .i64 t1534)) (fun _ hk => hk.2) (.slice Ao24 t1535.length co24)) (fun _ h_ => h_.1))))) (Kd.R_lt (by (with_reducible repeat (first | apply Kd.R_alloc | apply Kd.R_drewN | apply Kd.R_drew)); exact (Kd.R_mono (Kd.R_far (p := ⟨gb1538, 1, none⟩) (Kd.R_far (p := ⟨gb1538, 0, none⟩) (Kd.R_types HO1532.out BK1538.out (by decide)) (fun _ hk => hk.2) (.int .i64 t1534)) (fun _ hk => hk.2) (.slice Ao24 t1535.length co24)) (fun _ h_ => h_.1))))) (Kd.R_lt (by (with_reducible repeat (first | apply Kd.R_alloc | apply Kd.R_drewN | apply Kd.R_drew)); exact (Kd.R_mono (Kd.R_far (p := ⟨gb1538, 1, none⟩) (Kd.R_far (p := ⟨gb1538, 0, none⟩) (Kd.R_types HO1537.out BK1538.out (by decide)) (fun _ hk => hk.2) (.int .i64 t1534)) (fun _ hk => hk.2) (.slice Ao24 t1535.length co24)) (fun _ h_ => h_.1))))) (below_size (beQ HB))); replace HO1529 := Aside0.mk (Kd.R_elder' (by (with_reducible repeat (first | apply Kd.R_alloc | apply Kd.R_drewN | apply Kd.R_drew)); exact (Kd.R_mono (Kd.R_far (p := ⟨gb1538, 1, none⟩) (Kd.R_far (p := ⟨gb1538, 0, none⟩) (Kd.R_types HO1529.out BK1538.out (by decide)) (fun _ hk => hk.2) (.int .i64 t1534)) (fun _ hk => hk.2) (.slice Ao24 t1535.length co24)) (fun _ h_ => h_.1))) (Kd.R_base ho0) hb); replace HO1532 := Aside0.mk (Kd.R_elder' (by (with_reducible repeat (first | apply Kd.R_alloc | apply Kd.R_drewN | apply Kd.R_drew)); exact (Kd.R_mono (Kd.R_far (p := ⟨gb1538, 1, none⟩) (Kd.R_far (p := ⟨gb1538, 0, none⟩) (Kd.R_types HO1532.out BK1538.out (by decide)) (fun _ hk => hk.2) (.int .i64 t1534)) (fun _ hk => hk.2) (.slice Ao24 t1535.length co24)) (fun _ h_ => h_.1))) (Kd.R_base ho0) hb); replace HO1537 := Aside0.mk (Kd.R_elder' (by (with_reducible repeat (first | apply Kd.R_alloc | apply Kd.R_drewN | apply Kd.R_drew)); exact (Kd.R_mono (Kd.R_far (p := ⟨gb1538, 1, none⟩) (Kd.R_far (p := ⟨gb1538, 0, none⟩) (Kd.R_types HO1537.out BK1538.out (by decide)) (fun _ hk => hk.2) (.int .i64 t1534)) (fun _ hk => hk.2) (.slice Ao24 t1535.length co24)) (fun _ h_ => h_.1))) (Kd.R_base ho0) hb); replace BK1524 := Aside0.mk (blk_below (blkF BK1524) hb); replace BK1538 := Aside0.mk (blk_below (g := gb1538) (o := .cells #[.int .i64 t1534, .slice Ao24 t1535.length co24] 26 (0, 0)) (by (with_reducible repeat (first | refine blk_drewN ?_ _ | refine blk_drew ?_ | refine blk_alloc ?_ _)); refine blk_put (cs := #[.int .i64 t1534, .slice none 0 0]) ?_ 1 _ rfl; (with_reducible repeat (first | refine blk_drewN ?_ _ | refine blk_drew ?_ | refine blk_alloc ?_ _)); refine blk_put (cs := #[.int .i64 0, .slice none 0 0]) ?_ 0 _ rfl; (with_reducible repeat (first | refine blk_drewN ?_ _ | refine blk_drew ?_ | refine blk_alloc ?_ _)); exact BK1538.out) hb); replace HB := Aside0.mk (below_step (beQ HB) hb); (try clear hb); (try clear hb2); (try clear hk); (try clear hi); (try clear hgw_); (try clear ho0)))
  (try simp only [Act.put, List.setIfInBounds_toArray, List.set_cons_zero, List.set_cons_succ])
  go_cut [40] (fun v40 wc => ∃ (kq : Nat) (x40_10 : Bool), v40 = .bool x40_10 ∧ Aside0 (laws_FnExactStepsOf.j0 kq t1530 t1533 t1539 t1542 x40_10 a0_0 l0_1 t1534 t1535 = some r) ∧ Aside0 (kq ≤ k) ∧ Aside0 (Kd.R (Kd.int .i64) 2 wc w.heap.size (fun k_ => some k_ ≠ (v1540 : Value).ownBlock ∧ some k_ ≠ ((.slice Ao24 t1535.length co24) : Value).ownBlock) v1531 t1530) ∧ Aside0 (Kd.R (Kd.int .i64) 2 wc w.heap.size (fun k_ => some k_ ≠ (v1531 : Value).ownBlock ∧ some k_ ≠ ((.slice Ao24 t1535.length co24) : Value).ownBlock) v1540 t1539) ∧ Aside0 (Kd.R (Kd.int .i64) 2 wc w.heap.size (fun k_ => some k_ ≠ (v1531 : Value).ownBlock ∧ some k_ ≠ (v1540 : Value).ownBlock) (.slice Ao24 t1535.length co24) t1535) ∧ Aside0 (wc.heap[gb1524]? = some (.cells #[.int .i64 a0_0, (.slice A0_1 l0_1.length c0_1)] 59 (0, 0))) ∧ Aside0 (wc.heap[gb1538]? = some (.cells #[.int .i64 t1534, (.slice Ao24 t1535.length co24)] 26 (0, 0))) ∧ Aside0 (Below w.heap.size w wc))
  case first =>
   have H := HC11.out; clear HC11; replace H := Option.bind_eq_some_iff.mp H; obtain ⟨t1543, A260, H⟩ := H
   replace H : (if t1543 = true then (laws_FnExactStepsOf.j0 k t1530 t1533 t1539 t1542 (t1542 != t1533) a0_0 l0_1 t1534 t1535) else (laws_FnExactStepsOf.j0 k t1530 t1533 t1539 t1542 true a0_0 l0_1 t1534 t1535)) = some r := H
   have A26 := Aside0.mk A260; clear A260
   by_cases c27 : t1543 = true
   ·subst c27
    have H1 : (laws_FnExactStepsOf.j0 k t1530 t1533 t1539 t1542 (t1542 != t1533) a0_0 l0_1 t1534 t1535) = some r := by rw [if_pos rfl] at H; exact H
    clear H; have H := H1; clear H1
    have H' := Aside0.mk H
    clear H; obtain ⟨Ao28, co28, eo28⟩ := Kd.R_slice HO1541.out; subst eo28; obtain ⟨Ao29, co29, eo29⟩ := Kd.R_slice HO1532.out; subst eo29
    go_wp2_with (first | ((with_reducible refine gate_callee (f := 51) rfl ?_); refine goesL_ (some 34) rfl rfl Tryd.func51 (by kernel_rfl) rfl #[.slice Ao28 t1539.length co28, .slice Ao29 t1530.length co29] rfl lz ?_; (with_reducible refine (laws_eqInt64S.calls k _ _ t1539 _ _ t1530 true _ ?side1 ?side2 ?side3 ?side4 A26.out).mono ?_); (case side1 => have q_ := Aside0.mk (Kd.R_reads' HO1541.out).2.2; exact cQ q_); (case side2 => exact (Kd.R_reads' HO1541.out).2.1); (case side3 => have q_ := Aside0.mk (Kd.R_reads' HO1532.out).2.2; exact cQ q_); (case side4 => exact (Kd.R_reads' HO1532.out).2.1); rintro e w' ⟨rfl, ⟨nd, rfl⟩⟩; refine ⟨_, rfl, ?_⟩))
    go_meet
    case rel => exact ⟨_, ((t1542 != t1533)), sz, H', ⟨by first | omega | exact Nat.le_refl _⟩, ⟨by (with_reducible repeat (first | apply Kd.R_alloc | apply Kd.R_drewN | apply Kd.R_drew)); exact Kd.R_mono HO1532.out (fun _ hk => ⟨hk.2, hk.1.2⟩)⟩, ⟨by (with_reducible repeat (first | apply Kd.R_alloc | apply Kd.R_drewN | apply Kd.R_drew)); exact Kd.R_mono HO1541.out (fun _ hk => ⟨hk.1.2, hk.2⟩)⟩, ⟨by (with_reducible repeat (first | apply Kd.R_alloc | apply Kd.R_drewN | apply Kd.R_drew)); exact Kd.R_mono HO1537.out (fun _ hk => ⟨hk.1.2, hk.2⟩)⟩, ⟨blkQ BK1524⟩, ⟨blkQ BK1538⟩, ⟨beQ HB⟩⟩
   ·replace c27 := Bool.eq_false_iff.mpr c27
    subst c27
    have H1 : (laws_FnExactStepsOf.j0 k t1530 t1533 t1539 t1542 true a0_0 l0_1 t1534 t1535) = some r := by rw [if_neg (show ¬ (false = true) by decide)] at H; exact H
    clear H; have H := H1; clear H1
    have H' := Aside0.mk H
    clear H; obtain ⟨Ao30, co30, eo30⟩ := Kd.R_slice HO1541.out; subst eo30; obtain ⟨Ao31, co31, eo31⟩ := Kd.R_slice HO1532.out; subst eo31
    go_wp2_with (first | ((with_reducible refine gate_callee (f := 51) rfl ?_); refine goesL_ (some 34) rfl rfl Tryd.func51 (by kernel_rfl) rfl #[.slice Ao30 t1539.length co30, .slice Ao31 t1530.length co31] rfl lz ?_; (with_reducible refine (laws_eqInt64S.calls k _ _ t1539 _ _ t1530 false _ ?side1 ?side2 ?side3 ?side4 A26.out).mono ?_); (case side1 => have q_ := Aside0.mk (Kd.R_reads' HO1541.out).2.2; exact cQ q_); (case side2 => exact (Kd.R_reads' HO1541.out).2.1); (case side3 => have q_ := Aside0.mk (Kd.R_reads' HO1532.out).2.2; exact cQ q_); (case side4 => exact (Kd.R_reads' HO1532.out).2.1); rintro e w' ⟨rfl, ⟨nd, rfl⟩⟩; refine ⟨_, rfl, ?_⟩))
    go_meet
    case rel => exact ⟨_, (true), sz, H', ⟨by first | omega | exact Nat.le_refl _⟩, ⟨by (with_reducible repeat (first | apply Kd.R_alloc | apply Kd.R_drewN | apply Kd.R_drew)); exact Kd.R_mono HO1532.out (fun _ hk => ⟨hk.2, hk.1.2⟩)⟩, ⟨by (with_reducible repeat (first | apply Kd.R_alloc | apply Kd.R_drewN | apply Kd.R_drew)); exact Kd.R_mono HO1541.out (fun _ hk => ⟨hk.1.2, hk.2⟩)⟩, ⟨by (with_reducible repeat (first | apply Kd.R_alloc | apply Kd.R_drewN | apply Kd.R_drew)); exact Kd.R_mono HO1537.out (fun _ hk => ⟨hk.1.2, hk.2⟩)⟩, ⟨blkQ BK1524⟩, ⟨blkQ BK1538⟩, ⟨beQ HB⟩⟩
  case rest =>
   clear HC11
   try clear c2
   try clear p2
   try clear c3
   try clear c3b0
   try clear c4
   try clear c5
   try clear c8
   try clear c22
   try clear c27
   try clear hcz13_0
   try clear hcz13_1
   try clear hcz15_0
   try clear hcz15_1
   try clear hcz19_0
   try clear hcz19_1
   try clear hcz23_0
   try clear hcz23_1
   try clear hcz5_0
   try clear hcz5_1
   try clear hfz13_0
   try clear hfz13_1
   try clear hfz15_0
   try clear hfz15_1
   try clear hfz19_0
   try clear hfz19_1
   try clear hfz23_0
   try clear hfz23_1
   try clear hfz5_0
   try clear hfz5_1
   obtain ⟨kq, x40_10, rfl, HA, HJ10, HO_4, HO_7, HO_1539001, BK1524, BK1538, HB⟩ := hcut
   cases kq with
   | zero => exact absurd HA.out (by simp [laws_FnExactStepsOf.j0])
   | succ kj10 =>
    have H := HA.out; clear HA
    simp only [laws_FnExactStepsOf.j0] at H
    by_cases c32 : x40_10 = true
    ·subst c32
     have H1 : (some false) = some r := by rw [if_pos rfl] at H; exact H
     clear H; have H := H1; clear H1
     obtain rfl := Option.some.inj H
     go_wp2
     go_ret
     exact ⟨rz, beQ HB⟩
    ·replace c32 := Bool.eq_false_iff.mpr c32
     subst c32
     have H1 : ((laws_toAlphabet.f kj10 a0_0 l0_1).bind fun bt1544 => ((laws_eqAlphabet.f kj10 t1534 t1535 bt1544.1 bt1544.2).bind fun t1548 => (if t1548 = true then ((laws_markAlphabet.f kj10 t1534 t1535 1).bind fun bt1549 => (if bt1549.1 < 0 then (laws_FnExactStepsOf.j1 kj10 t1530 t1533 t1539 true a0_0 l0_1) else ((laws_eqInt64S.f kj10 t1539 t1530).bind fun t1551 => (if t1551 = true then (laws_FnExactStepsOf.j1 kj10 t1530 t1533 t1539 (t1542 != t1533) a0_0 l0_1) else (laws_FnExactStepsOf.j1 kj10 t1530 t1533 t1539 true a0_0 l0_1))))) else (some false)))) = some r := by rw [if_neg (show ¬ (false = true) by decide)] at H; exact H
     clear H; have H := H1; clear H1; replace H := Option.bind_eq_some_iff.mp H
     obtain ⟨⟨t1544, t1545⟩, A330, H⟩ := H
     replace H : ((laws_eqAlphabet.f kj10 t1534 t1535 t1544 t1545).bind fun t1548 => (if t1548 = true then ((laws_markAlphabet.f kj10 t1534 t1535 1).bind fun bt1549 => (if bt1549.1 < 0 then (laws_FnExactStepsOf.j1 kj10 t1530 t1533 t1539 true a0_0 l0_1) else ((laws_eqInt64S.f kj10 t1539 t1530).bind fun t1551 => (if t1551 = true then (laws_FnExactStepsOf.j1 kj10 t1530 t1533 t1539 (t1542 != t1533) a0_0 l0_1) else (laws_FnExactStepsOf.j1 kj10 t1530 t1533 t1539 true a0_0 l0_1))))) else (some false))) = some r := H
     have A33 := Aside0.mk A330; clear A330; replace H := Option.bind_eq_some_iff.mp H; obtain ⟨t1548, A340, H⟩ := H
     replace H : (if t1548 = true then ((laws_markAlphabet.f kj10 t1534 t1535 1).bind fun bt1549 => (if bt1549.1 < 0 then (laws_FnExactStepsOf.j1 kj10 t1530 t1533 t1539 true a0_0 l0_1) else ((laws_eqInt64S.f kj10 t1539 t1530).bind fun t1551 => (if t1551 = true then (laws_FnExactStepsOf.j1 kj10 t1530 t1533 t1539 (t1542 != t1533) a0_0 l0_1) else (laws_FnExactStepsOf.j1 kj10 t1530 t1533 t1539 true a0_0 l0_1))))) else (some false)) = some r := H
     have A34 := Aside0.mk A340; clear A340
     by_cases c35 : t1548 = true
     ·subst c35
      have H1 : ((laws_markAlphabet.f kj10 t1534 t1535 1).bind fun bt1549 => (if bt1549.1 < 0 then (laws_FnExactStepsOf.j1 kj10 t1530 t1533 t1539 true a0_0 l0_1) else ((laws_eqInt64S.f kj10 t1539 t1530).bind fun t1551 => (if t1551 = true then (laws_FnExactStepsOf.j1 kj10 t1530 t1533 t1539 (t1542 != t1533) a0_0 l0_1) else (laws_FnExactStepsOf.j1 kj10 t1530 t1533 t1539 true a0_0 l0_1))))) = some r := by rw [if_pos rfl] at H; exact H
      clear H; have H := H1; clear H1; replace H := Option.bind_eq_some_iff.mp H
      obtain ⟨⟨t1549, t1550⟩, A360, H⟩ := H
      replace H : (if t1549 < 0 then (laws_FnExactStepsOf.j1 kj10 t1530 t1533 t1539 true a0_0 l0_1) else ((laws_eqInt64S.f kj10 t1539 t1530).bind fun t1551 => (if t1551 = true then (laws_FnExactStepsOf.j1 kj10 t1530 t1533 t1539 (t1542 != t1533) a0_0 l0_1) else (laws_FnExactStepsOf.j1 kj10 t1530 t1533 t1539 true a0_0 l0_1)))) = some r := H
      have A36 := Aside0.mk A360; clear A360; have HC37 := Aside0.mk H; clear H
      try go_wp2
      replace HO_4 := Aside0.mk (Kd.R_drew HO_4.out); replace HO_7 := Aside0.mk (Kd.R_drew HO_7.out); replace HO_1539001 := Aside0.mk (Kd.R_drew HO_1539001.out); replace BK1524 := Aside0.mk (blk_drew BK1524.out); replace BK1538 := Aside0.mk (blk_drew BK1538.out); replace HB := Aside0.mk (below_drew1 HB.out)
      refine start_ (n := 5) (S := fun w' => w'.cell? ⟨gb1538, 0, none⟩ = some (.int .i64 t1534) ∧ w'.cell? ⟨gb1538, 1, none⟩ = some (.slice Ao24 t1535.length co24) ∧ w'.cell? ⟨gb1524, 0, none⟩ = some (.int .i64 a0_0) ∧ w'.cell? ⟨gb1524, 1, none⟩ = some (.slice A0_1 l0_1.length c0_1)) (ds := []) #[false, false, false, false, false] (by kernel_rfl) rfl rfl ⟨bc BK1538 0, bc BK1538 1, bc BK1524 0, bc BK1524 1⟩ (fun hHeld => ?_)
      generalize wc.drew = w38 at HO_4 HO_7 HO_1539001 BK1524 BK1538 HB hHeld ⊢
      refine take_ (i := 0) (N := some 41) (v := ?_) (a' := ?_) #[true, false, false, false, false] rfl rfl (by kernel_rfl) (fun _ _ _ h => h) (Or.inl ⟨by rfl, ?_⟩) hHeld ?_ ?_
      rotate_left
      ·rintro w' ⟨s0, s1, s2, s3⟩
       go_simp
       with_reducible rfl
      rotate_left
      ·simp only [Act.put, s1, s2, s3, i64_w, i32_w]
       rfl
      refine take_ (i := 1) (N := some 42) (v := ?_) (a' := ?_) #[true, true, false, false, false] rfl rfl (by kernel_rfl) (fun _ _ _ h => h) (Or.inl ⟨by rfl, ?_⟩) hHeld ?_ ?_
      rotate_left
      ·rintro w' ⟨s0, s1, s2, s3⟩
       go_simp
       with_reducible rfl
      rotate_left
      ·simp only [Act.put, s1, s2, s3, i64_w, i32_w]
       rfl
      refine one_ (i := 2) (N := some 43) #[true, true, true, false, false] rfl rfl (by kernel_rfl) (by decide) (fun K hK => ?_)
      refine goes_ Tryd.func50 (by kernel_rfl) rfl #[.agg #[.int .i64 a0_0, .slice A0_1 l0_1.length c0_1]] (by rfl) rfl rfl lz ?_
      with_reducible refine (laws_toAlphabet.calls kj10 a0_0 _ _ l0_1 t1544 t1545 _ ?side1 ?side2 A33.out).mono ?_
      (case side1 => have q_ := Aside0.mk (Kd.C_below HR0_1.out HB.out); exact cQ q_)
      (case side2 => exact HC0_1.out)
      rintro e w39 ⟨v1546, rfl, ho0, hb⟩
      refine ⟨_, rfl, ?_⟩
      have HO1547 := Aside0.mk (Kd.R_lower (Kd.R_new' (Kd.R_new' (Kd.R_new' ho0 (Kd.R_lt (kdQ HO_4))) (Kd.R_lt (kdQ HO_7))) (Kd.R_lt (kdQ HO_1539001))) (below_size (beQ HB))); replace HO_4 := Aside0.mk (Kd.R_elder' (kdQ HO_4) (Kd.R_base ho0) hb); replace HO_7 := Aside0.mk (Kd.R_elder' (kdQ HO_7) (Kd.R_base ho0) hb); replace HO_1539001 := Aside0.mk (Kd.R_elder' (kdQ HO_1539001) (Kd.R_base ho0) hb); replace BK1524 := bb BK1524 hb; replace BK1538 := bb BK1538 hb; replace HB := Aside0.mk (below_step (beQ HB) hb)
      (try clear hb)
      (try clear hb2)
      (try clear hk)
      (try clear hi)
      (try clear hgw_)
      (try clear ho0)
      obtain ⟨Ao40, co40, eo40⟩ := Kd.R_slice HO1547.out
      (first | subst eo40 | (injection eo40 with f1_ f2_ f3_; have f4_ := f1_.symm; have f5_ := f3_.symm; clear f1_ f2_ f3_; subst f4_; subst f5_))
      refine hK.out _ _ ⟨bc BK1538 0, bc BK1538 1, bc BK1524 0, bc BK1524 1⟩ (fun hHeld => ?_)
      clear hK K
      refine norm_ (a' := ?_) ?_ ?_
      rotate_left
      ·show Act.put _ (some 43) _ = _
       simp only [Act.put, s1, s2, s3, i64_w, i32_w]
       rfl
      refine one_ (i := 3) (N := some 44) #[true, true, true, true, false] rfl rfl (by kernel_rfl) (by decide) (fun K hK => ?_)
      refine goes_ Tryd.func52 (by kernel_rfl) rfl #[.agg #[.int .i64 t1534, .slice Ao24 t1535.length co24], .agg #[.int .i64 t1544, .slice Ao40 t1545.length co40]] (by rfl) rfl rfl lz ?_
      with_reducible refine (laws_eqAlphabet.calls kj10 t1534 _ _ t1535 t1544 _ _ t1545 true _ ?side1 ?side2 ?side3 ?side4 A34.out).mono ?_
      (case side1 => have q_ := Aside0.mk (Kd.R_reads' HO_1539001.out).2.2; exact cQ q_)
      (case side2 => exact (Kd.R_reads' HO_1539001.out).2.1)
      (case side3 => have q_ := Aside0.mk (Kd.R_reads' HO1547.out).2.2; exact cQ q_)
      (case side4 => exact (Kd.R_reads' HO1547.out).2.1)
      rintro e w41 ⟨rfl, hb⟩
      refine ⟨_, rfl, ?_⟩
      replace HO_4 := kb HO_4 hb; replace HO_7 := kb HO_7 hb; replace HO_1539001 := kb HO_1539001 hb; replace HO1547 := kb HO1547 hb; replace BK1524 := bb BK1524 hb; replace BK1538 := bb BK1538 hb; replace HB := Aside0.mk (below_step (beQ HB) hb)
      (try clear hb)
      (try clear hb2)
      (try clear hk)
      (try clear hi)
      (try clear hgw_)
      refine hK.out _ _ ⟨bc BK1538 0, bc BK1538 1, bc BK1524 0, bc BK1524 1⟩ (fun hHeld => ?_)
      clear hK K
      refine norm_ (a' := ?_) ?_ ?_
      rotate_left
      ·show Act.put _ (some 44) _ = _
       simp only [Act.put, s1, s2, s3, i64_w, i32_w]
       rfl
      refine pure_ (i := 4) (N := some 45) (v := ?_) (a' := ?_) #[true, true, true, true, true] rfl rfl (by kernel_rfl) (fun _ _ _ h => h) (Or.inl ⟨by rfl, ?_⟩) ?_ ?_
      rotate_left
      ·intro w'
       go_simp
       with_reducible rfl
      rotate_left
      ·simp only [Act.put, s1, s2, s3, i64_w, i32_w]
       rfl
      refine done_ (by kernel_rfl) ?_
      have hnb42 := NB1538_1524.out; have hnc42 := NB1524_1538.out
      have hcz43_0 : w41.cell? ⟨gb1538, 0, none⟩ = some (.int .i64 t1534) := bc BK1538 0
      have hcz43_1 : w41.cell? ⟨gb1538, 1, none⟩ = some (.slice Ao24 t1535.length co24) := bc BK1538 1
      have hfz43_0 := blk_frozen BK1538.out 0; have hfz43_1 := blk_frozen BK1538.out 1
      go_upto_region 14 with (first | ((with_reducible refine gate_callee (f := 53) rfl ?_); refine goesL_ (some 48) rfl rfl Tryd.func53 (by kernel_rfl) rfl #[.agg #[.int .i64 t1534, .slice Ao24 t1535.length co24], .int .i64 1] rfl lz ?_; (with_reducible refine (laws_markAlphabet.calls kj10 t1534 (fun k_ => some k_ = (.slice Ao24 t1535.length co24 : Value).ownBlock) (.slice Ao24 t1535.length co24) t1535 1 t1549 t1550 w _ ?side1 ?side2 A36.out).mono ?_); (case side1 => repeat (first | (with_reducible first | exact HB.out | apply below_alloc | apply pw_below_drewN | apply below_drew1 | refine below_set ?_ GE1524.out | refine below_set ?_ GE1538.out) | exact HB.out)); (case side2 => exact Kd.R_tight rfl HO_1539001.out); rintro e w44 ⟨rfl, hy0, hb, hkp⟩; refine ⟨_, rfl, ?_⟩; replace HO_4 := Aside0.mk (Kd.R_mono (ok' := fun k_ => some k_ ≠ (v1540 : Value).ownBlock ∧ some k_ ≠ (.slice Ao24 t1535.length co24 : Value).ownBlock ∧ some k_ ≠ (.slice Ao40 t1545.length co40 : Value).ownBlock) (Kd.R_keptB (HO_4.out) hkp (fun k_ hk_ hs_ => (hk_.1.2) hs_)) (fun k_ hk_ => ⟨hk_.1.1.1, hk_.1.1.2, hk_.1.2⟩)); replace HO_7 := Aside0.mk (Kd.R_mono (ok' := fun k_ => some k_ ≠ (v1531 : Value).ownBlock ∧ some k_ ≠ (.slice Ao24 t1535.length co24 : Value).ownBlock ∧ some k_ ≠ (.slice Ao40 t1545.length co40 : Value).ownBlock) (Kd.R_keptB (HO_7.out) hkp (fun k_ hk_ hs_ => (hk_.1.2) hs_)) (fun k_ hk_ => ⟨hk_.1.1.1, hk_.1.1.2, hk_.1.2⟩)); replace BK1524 := Aside0.mk (blk_kept (blkQ BK1524) hkp (fun hs_ => (fun e_ => (Kd.R_ne HO_1539001.out BK1524.out (by decide)) e_) hs_)); replace BK1538 := Aside0.mk (blk_kept (blkQ BK1538) hkp (fun hs_ => (fun e_ => (Kd.R_ne HO_1539001.out BK1538.out (by decide)) e_) hs_)); replace HO_1539001 := Aside0.mk (Kd.R_reok rfl hy0 (fun k_ e_ => HO_1539001.out.1 k_ e_)); replace HO1547 := Aside0.mk (Kd.R_mono (ok' := fun k_ => some k_ ≠ (v1531 : Value).ownBlock ∧ some k_ ≠ (v1540 : Value).ownBlock ∧ some k_ ≠ (.slice Ao24 t1535.length co24 : Value).ownBlock) (Kd.R_keptB (HO1547.out) hkp (fun k_ hk_ hs_ => (hk_.2) hs_)) (fun k_ hk_ => ⟨hk_.1.1.1.2, hk_.1.1.2, hk_.1.2⟩)); replace HB := Aside0.mk (hb); (try clear hb); (try clear hkp); (try clear hy0)))
      (try simp only [Act.put, List.setIfInBounds_toArray, List.set_cons_zero, List.set_cons_succ])
      go_cut [61] (fun v61 wc => ∃ (kq : Nat) (x61_36 : Bool), v61 = .bool x61_36 ∧ Aside0 (laws_FnExactStepsOf.j1 kq t1530 t1533 t1539 x61_36 a0_0 l0_1 = some r) ∧ Aside0 (kq ≤ kj10) ∧ Aside0 (Kd.R (Kd.int .i64) 2 wc w.heap.size (fun k_ => some k_ ≠ (v1540 : Value).ownBlock ∧ some k_ ≠ ((.slice Ao24 t1535.length co24) : Value).ownBlock) v1531 t1530) ∧ Aside0 (Kd.R (Kd.int .i64) 2 wc w.heap.size (fun k_ => some k_ ≠ (v1531 : Value).ownBlock ∧ some k_ ≠ ((.slice Ao24 t1535.length co24) : Value).ownBlock) v1540 t1539) ∧ Aside0 (Kd.R (Kd.int .i64) 2 wc w.heap.size (fun k_ => some k_ ≠ (v1531 : Value).ownBlock ∧ some k_ ≠ (v1540 : Value).ownBlock) (.slice Ao24 t1535.length co24) t1550) ∧ Aside0 (wc.heap[gb1524]? = some (.cells #[.int .i64 a0_0, (.slice A0_1 l0_1.length c0_1)] 59 (0, 0))) ∧ Aside0 (wc.heap[gb1538]? = some (.cells #[.int .i64 t1534, (.slice Ao24 t1535.length co24)] 26 (0, 0))) ∧ Aside0 (Below w.heap.size w wc))
      case first =>
       have H := HC37.out; clear HC37
       by_cases c45 : t1549 < 0
       ·rw [if_pos c45] at H
        have c45b0 : decide (t1549 < 0) = true := decide_eq_true c45
        clear c45
        (first | rw [c45b0] | (simp only [i64_w, i32_w]; rw [c45b0]) | skip)
        have H' := Aside0.mk H
        clear H
        go_wp2
        go_meet
        case rel => exact ⟨_, (true), sz, H', ⟨by have := HJ10.out; first | omega | exact Nat.le_refl _⟩, ⟨by (with_reducible repeat (first | apply Kd.R_alloc | apply Kd.R_drewN | apply Kd.R_drew)); exact Kd.R_mono HO_4.out (fun _ hk => ⟨hk.1, hk.2.1⟩)⟩, ⟨by (with_reducible repeat (first | apply Kd.R_alloc | apply Kd.R_drewN | apply Kd.R_drew)); exact Kd.R_mono HO_7.out (fun _ hk => ⟨hk.1, hk.2.1⟩)⟩, ⟨by (with_reducible repeat (first | apply Kd.R_alloc | apply Kd.R_drewN | apply Kd.R_drew)); exact Kd.R_mono HO_1539001.out (fun _ hk => ⟨hk.1.1, hk.1.2⟩)⟩, ⟨blkQ BK1524⟩, ⟨blkQ BK1538⟩, ⟨beQ HB⟩⟩
       ·rw [if_neg c45] at H
        have c45b0 : decide (t1549 < 0) = false := decide_eq_false c45
        clear c45
        (first | rw [c45b0] | (simp only [i64_w, i32_w]; rw [c45b0]) | skip)
        replace H := Option.bind_eq_some_iff.mp H; obtain ⟨t1551, A460, H⟩ := H
        replace H : (if t1551 = true then (laws_FnExactStepsOf.j1 kj10 t1530 t1533 t1539 (t1542 != t1533) a0_0 l0_1) else (laws_FnExactStepsOf.j1 kj10 t1530 t1533 t1539 true a0_0 l0_1)) = some r := H
        have A46 := Aside0.mk A460; clear A460
        by_cases c47 : t1551 = true
        ·subst c47
         have H1 : (laws_FnExactStepsOf.j1 kj10 t1530 t1533 t1539 (t1542 != t1533) a0_0 l0_1) = some r := by rw [if_pos rfl] at H; exact H
         clear H; have H := H1; clear H1
         have H' := Aside0.mk H
         clear H; obtain ⟨Ao48, co48, eo48⟩ := Kd.R_slice HO_7.out; subst eo48; obtain ⟨Ao49, co49, eo49⟩ := Kd.R_slice HO_4.out; subst eo49
         go_wp2_with (first | (go_at_call 51; (with_reducible refine (laws_eqInt64S.calls kj10 _ _ t1539 _ _ t1530 true _ ?side1 ?side2 ?side3 ?side4 A46.out).mono ?_); (case side1 => have q_ := Aside0.mk (Kd.R_reads' HO_7.out).2.2; exact cQ q_); (case side2 => exact (Kd.R_reads' HO_7.out).2.1); (case side3 => have q_ := Aside0.mk (Kd.R_reads' HO_4.out).2.2; exact cQ q_); (case side4 => exact (Kd.R_reads' HO_4.out).2.1); rintro e w' ⟨rfl, ⟨nd, rfl⟩⟩))
         go_meet
         case rel => exact ⟨_, ((t1542 != t1533)), sz, H', ⟨by have := HJ10.out; first | omega | exact Nat.le_refl _⟩, ⟨by (with_reducible repeat (first | apply Kd.R_alloc | apply Kd.R_drewN | apply Kd.R_drew)); exact Kd.R_mono HO_4.out (fun _ hk => ⟨hk.1, hk.2.1⟩)⟩, ⟨by (with_reducible repeat (first | apply Kd.R_alloc | apply Kd.R_drewN | apply Kd.R_drew)); exact Kd.R_mono HO_7.out (fun _ hk => ⟨hk.1, hk.2.1⟩)⟩, ⟨by (with_reducible repeat (first | apply Kd.R_alloc | apply Kd.R_drewN | apply Kd.R_drew)); exact Kd.R_mono HO_1539001.out (fun _ hk => ⟨hk.1.1, hk.1.2⟩)⟩, ⟨blkQ BK1524⟩, ⟨blkQ BK1538⟩, ⟨beQ HB⟩⟩
        ·replace c47 := Bool.eq_false_iff.mpr c47
         subst c47
         have H1 : (laws_FnExactStepsOf.j1 kj10 t1530 t1533 t1539 true a0_0 l0_1) = some r := by rw [if_neg (show ¬ (false = true) by decide)] at H; exact H
         clear H; have H := H1; clear H1
         have H' := Aside0.mk H
         clear H; obtain ⟨Ao50, co50, eo50⟩ := Kd.R_slice HO_7.out; subst eo50; obtain ⟨Ao51, co51, eo51⟩ := Kd.R_slice HO_4.out; subst eo51
         go_wp2_with (first | (go_at_call 51; (with_reducible refine (laws_eqInt64S.calls kj10 _ _ t1539 _ _ t1530 false _ ?side1 ?side2 ?side3 ?side4 A46.out).mono ?_); (case side1 => have q_ := Aside0.mk (Kd.R_reads' HO_7.out).2.2; exact cQ q_); (case side2 => exact (Kd.R_reads' HO_7.out).2.1); (case side3 => have q_ := Aside0.mk (Kd.R_reads' HO_4.out).2.2; exact cQ q_); (case side4 => exact (Kd.R_reads' HO_4.out).2.1); rintro e w' ⟨rfl, ⟨nd, rfl⟩⟩))
         go_meet
         case rel => exact ⟨_, (true), sz, H', ⟨by have := HJ10.out; first | omega | exact Nat.le_refl _⟩, ⟨by (with_reducible repeat (first | apply Kd.R_alloc | apply Kd.R_drewN | apply Kd.R_drew)); exact Kd.R_mono HO_4.out (fun _ hk => ⟨hk.1, hk.2.1⟩)⟩, ⟨by (with_reducible repeat (first | apply Kd.R_alloc | apply Kd.R_drewN | apply Kd.R_drew)); exact Kd.R_mono HO_7.out (fun _ hk => ⟨hk.1, hk.2.1⟩)⟩, ⟨by (with_reducible repeat (first | apply Kd.R_alloc | apply Kd.R_drewN | apply Kd.R_drew)); exact Kd.R_mono HO_1539001.out (fun _ hk => ⟨hk.1.1, hk.1.2⟩)⟩, ⟨blkQ BK1524⟩, ⟨blkQ BK1538⟩, ⟨beQ HB⟩⟩
      case rest =>
       clear HC37
       try clear c2
       try clear p2
       try clear c3
       try clear c3b0
       try clear c4
       try clear c5
       try clear c8
       try clear c22
       try clear c27
       try clear c32
       try clear c35
       try clear c42
       try clear c45
       try clear c45b0
       try clear c47
       try clear c48
       try clear c49
       try clear c50
       try clear c51
       try clear hcz13_0
       try clear hcz13_1
       try clear hcz15_0
       try clear hcz15_1
       try clear hcz19_0
       try clear hcz19_1
       try clear hcz23_0
       try clear hcz23_1
       try clear hcz43_0
       try clear hcz43_1
       try clear hcz5_0
       try clear hcz5_1
       try clear hfz13_0
       try clear hfz13_1
       try clear hfz15_0
       try clear hfz15_1
       try clear hfz19_0
       try clear hfz19_1
       try clear hfz23_0
       try clear hfz23_1
       try clear hfz43_0
       try clear hfz43_1
       try clear hfz5_0
       try clear hfz5_1
       try clear p2
       obtain ⟨kq, x61_36, rfl, HA, HJ36, HO_4, HO_7, HO_1539001, BK1524, BK1538, HB⟩ := hcut; have hl1539001_36 := (Kd.R_reads' HO_1539001.out).1; rw [hl1539001_36] at HO_1539001
       (try simp only [hl1539001_36])
       (try simp only [hl1539001_36] at BK1524)
       (try simp only [hl1539001_36] at BK1538)
       (try simp only [hl1539001_36] at HO_4)
       (try simp only [hl1539001_36] at HO_7)
       cases kq with
       | zero => exact absurd HA.out (by simp [laws_FnExactStepsOf.j1])
       | succ kj36 =>
        have H := HA.out; clear HA
        simp only [laws_FnExactStepsOf.j1] at H
        by_cases c52 : x61_36 = true
        ·subst c52
         have H1 : (some false) = some r := by rw [if_pos rfl] at H; exact H
         clear H; have H := H1; clear H1
         obtain rfl := Option.some.inj H
         go_wp2
         go_ret
         exact ⟨rz, beQ HB⟩
        ·replace c52 := Bool.eq_false_iff.mpr c52
         subst c52
         have H1 : ((laws_markInt64S.f kj36 t1539 1).bind fun bt1552 => ((laws_heldInt64S.f kj36 bt1552.2 1).bind fun t1554 => (if t1554 < 0 then (some false) else (if t1554 = bt1552.1 then ((laws_toAlphabet.f kj36 a0_0 l0_1).bind fun bt1555 => ((impl_StepsOf.f kj36 bt1555.1 bt1555.2).bind fun bt1559 => ((laws_eqInt64S.f kj36 bt1559.1 t1530).bind fun t1563 => (if t1563 = true then (laws_FnExactStepsOf.j2 kj36 bt1552.2 bt1552.1 (bt1559.2 != t1533)) else (laws_FnExactStepsOf.j2 kj36 bt1552.2 bt1552.1 true))))) else (some false))))) = some r := by rw [if_neg (show ¬ (false = true) by decide)] at H; exact H
         clear H; have H := H1; clear H1; replace H := Option.bind_eq_some_iff.mp H
         obtain ⟨⟨t1552, t1553⟩, A530, H⟩ := H
         replace H : ((laws_heldInt64S.f kj36 t1553 1).bind fun t1554 => (if t1554 < 0 then (some false) else (if t1554 = t1552 then ((laws_toAlphabet.f kj36 a0_0 l0_1).bind fun bt1555 => ((impl_StepsOf.f kj36 bt1555.1 bt1555.2).bind fun bt1559 => ((laws_eqInt64S.f kj36 bt1559.1 t1530).bind fun t1563 => (if t1563 = true then (laws_FnExactStepsOf.j2 kj36 t1553 t1552 (bt1559.2 != t1533)) else (laws_FnExactStepsOf.j2 kj36 t1553 t1552 true))))) else (some false)))) = some r := H
         have A53 := Aside0.mk A530; clear A530; replace H := Option.bind_eq_some_iff.mp H; obtain ⟨t1554, A540, H⟩ := H
         replace H : (if t1554 < 0 then (some false) else (if t1554 = t1552 then ((laws_toAlphabet.f kj36 a0_0 l0_1).bind fun bt1555 => ((impl_StepsOf.f kj36 bt1555.1 bt1555.2).bind fun bt1559 => ((laws_eqInt64S.f kj36 bt1559.1 t1530).bind fun t1563 => (if t1563 = true then (laws_FnExactStepsOf.j2 kj36 t1553 t1552 (bt1559.2 != t1533)) else (laws_FnExactStepsOf.j2 kj36 t1553 t1552 true))))) else (some false))) = some r := H
         have A54 := Aside0.mk A540; clear A540
         by_cases c55 : t1554 < 0
         ·rw [if_pos c55] at H
          have c55b0 : decide (t1554 < 0) = true := decide_eq_true c55
          clear c55
          obtain rfl := Option.some.inj H
          obtain ⟨Ao56, co56, eo56⟩ := Kd.R_slice HO_7.out; subst eo56
          go_wp2_with (first | ((with_reducible refine gate_callee (f := 54) rfl ?_); refine goesL_ (some 64) rfl rfl Tryd.func54 (by kernel_rfl) rfl #[.slice Ao56 t1539.length co56, .int .i64 1] rfl lz ?_; (with_reducible refine (laws_markInt64S.calls kj36 (fun k_ => some k_ = (.slice Ao56 t1539.length co56 : Value).ownBlock) (.slice Ao56 t1539.length co56) t1539 1 t1552 t1553 w _ ?side1 ?side2 A53.out).mono ?_); (case side1 => repeat (first | (with_reducible first | exact HB.out | apply below_alloc | apply pw_below_drewN | apply below_drew1 | refine below_set ?_ GE1524.out | refine below_set ?_ GE1538.out) | exact HB.out)); (case side2 => exact Kd.R_tight rfl HO_7.out); rintro e w57 ⟨rfl, hy0, hb, hkp⟩; refine ⟨_, rfl, ?_⟩; replace HO_4 := Aside0.mk (Kd.R_mono (ok' := fun k_ => some k_ ≠ (.slice Ao56 t1539.length co56 : Value).ownBlock ∧ some k_ ≠ (.slice Ao24 t1550.length co24 : Value).ownBlock) (Kd.R_keptB (HO_4.out) hkp (fun k_ hk_ hs_ => (hk_.1) hs_)) (fun k_ hk_ => ⟨hk_.1.1, hk_.1.2⟩)); replace HO_1539001 := Aside0.mk (Kd.R_mono (ok' := fun k_ => some k_ ≠ (v1531 : Value).ownBlock ∧ some k_ ≠ (.slice Ao56 t1539.length co56 : Value).ownBlock) (Kd.R_keptB (HO_1539001.out) hkp (fun k_ hk_ hs_ => (hk_.2) hs_)) (fun k_ hk_ => ⟨hk_.1.1, hk_.1.2⟩)); replace BK1524 := Aside0.mk (blk_kept (blkQ BK1524) hkp (fun hs_ => (fun e_ => (Kd.R_ne HO_7.out BK1524.out (by decide)) e_) hs_)); replace BK1538 := Aside0.mk (blk_kept (blkQ BK1538) hkp (fun hs_ => (fun e_ => (Kd.R_ne HO_7.out BK1538.out (by decide)) e_) hs_)); replace HO_7 := Aside0.mk (Kd.R_reok rfl hy0 (fun k_ e_ => HO_7.out.1 k_ e_)); replace HB := Aside0.mk (hb); (try clear hb); (try clear hkp); (try clear hy0)) | ((with_reducible refine gate_callee (f := 55) rfl ?_); refine goesL_ (some 67) rfl rfl Tryd.func55 (by kernel_rfl) rfl #[.slice Ao56 t1553.length co56, .int .i64 1] rfl (by (try simp only [List.map_toArray, List.map_cons, List.map_nil]); first | done | (rw [show t1553.length = t1539.length from (Kd.R_reads' HO_7.out).1.symm] <;> rfl) | rfl | (simp only [List.length_drop, List.length_take]; rfl)) ?_; (with_reducible refine (laws_heldInt64S.calls kj36 _ _ t1553 1 t1554 _ ?side1 ?side2 A54.out).mono ?_); (case side1 => have q_ := Aside0.mk (Kd.R_reads' HO_7.out).2.2; exact cQ q_); (case side2 => rw [show t1553.length = t1539.length from (Kd.R_reads' HO_7.out).1.symm]; exact (Kd.R_reads' HO_7.out).2.1); rintro e w' ⟨rfl, ⟨nd, rfl⟩⟩; refine ⟨_, rfl, ?_⟩))
          go_ret
          exact ⟨rz, beQ HB⟩
         ·rw [if_neg c55] at H
          have c55b0 : decide (t1554 < 0) = false := decide_eq_false c55
          clear c55
          by_cases c58 : t1554 = t1552
          ·rw [if_pos c58] at H
           have c58b0 : (t1554 == t1552) = true := beq_iff_eq.mpr c58
           have c58b1 : (t1554 != t1552) = false := bne_eq_false_iff_eq.mpr c58
           clear c58; replace H := Option.bind_eq_some_iff.mp H
           obtain ⟨⟨t1555, t1556⟩, A590, H⟩ := H
           replace H : ((impl_StepsOf.f kj36 t1555 t1556).bind fun bt1559 => ((laws_eqInt64S.f kj36 bt1559.1 t1530).bind fun t1563 => (if t1563 = true then (laws_FnExactStepsOf.j2 kj36 t1553 t1552 (bt1559.2 != t1533)) else (laws_FnExactStepsOf.j2 kj36 t1553 t1552 true)))) = some r := H
           have A59 := Aside0.mk A590; clear A590; replace H := Option.bind_eq_some_iff.mp H
           obtain ⟨⟨t1559, t1562⟩, A600, H⟩ := H
           replace H : ((laws_eqInt64S.f kj36 t1559 t1530).bind fun t1563 => (if t1563 = true then (laws_FnExactStepsOf.j2 kj36 t1553 t1552 (t1562 != t1533)) else (laws_FnExactStepsOf.j2 kj36 t1553 t1552 true))) = some r := H
           have A60 := Aside0.mk A600; clear A600; have HC61 := Aside0.mk H; clear H; obtain ⟨Ao62, co62, eo62⟩ := Kd.R_slice HO_7.out; subst eo62
           go_upto_region 25 with (first | ((with_reducible refine gate_callee (f := 54) rfl ?_); refine goesL_ (some 64) rfl rfl Tryd.func54 (by kernel_rfl) rfl #[.slice Ao62 t1539.length co62, .int .i64 1] rfl lz ?_; (with_reducible refine (laws_markInt64S.calls kj36 (fun k_ => some k_ = (.slice Ao62 t1539.length co62 : Value).ownBlock) (.slice Ao62 t1539.length co62) t1539 1 t1552 t1553 w _ ?side1 ?side2 A53.out).mono ?_); (case side1 => repeat (first | (with_reducible first | exact HB.out | apply below_alloc | apply pw_below_drewN | apply below_drew1 | refine below_set ?_ GE1524.out | refine below_set ?_ GE1538.out) | exact HB.out)); (case side2 => exact Kd.R_tight rfl HO_7.out); rintro e w63 ⟨rfl, hy0, hb, hkp⟩; refine ⟨_, rfl, ?_⟩; replace HO_4 := Aside0.mk (Kd.R_mono (ok' := fun k_ => some k_ ≠ (.slice Ao62 t1539.length co62 : Value).ownBlock ∧ some k_ ≠ (.slice Ao24 t1550.length co24 : Value).ownBlock) (Kd.R_keptB (HO_4.out) hkp (fun k_ hk_ hs_ => (hk_.1) hs_)) (fun k_ hk_ => ⟨hk_.1.1, hk_.1.2⟩)); replace HO_1539001 := Aside0.mk (Kd.R_mono (ok' := fun k_ => some k_ ≠ (v1531 : Value).ownBlock ∧ some k_ ≠ (.slice Ao62 t1539.length co62 : Value).ownBlock) (Kd.R_keptB (HO_1539001.out) hkp (fun k_ hk_ hs_ => (hk_.2) hs_)) (fun k_ hk_ => ⟨hk_.1.1, hk_.1.2⟩)); replace BK1524 := Aside0.mk (blk_kept (blkQ BK1524) hkp (fun hs_ => (fun e_ => (Kd.R_ne HO_7.out BK1524.out (by decide)) e_) hs_)); replace BK1538 := Aside0.mk (blk_kept (blkQ BK1538) hkp (fun hs_ => (fun e_ => (Kd.R_ne HO_7.out BK1538.out (by decide)) e_) hs_)); replace HO_7 := Aside0.mk (Kd.R_reok rfl hy0 (fun k_ e_ => HO_7.out.1 k_ e_)); replace HB := Aside0.mk (hb); (try clear hb); (try clear hkp); (try clear hy0)) | ((with_reducible refine gate_callee (f := 55) rfl ?_); refine goesL_ (some 67) rfl rfl Tryd.func55 (by kernel_rfl) rfl #[.slice Ao62 t1553.length co62, .int .i64 1] rfl (by (try simp only [List.map_toArray, List.map_cons, List.map_nil]); first | done | (rw [show t1553.length = t1539.length from (Kd.R_reads' HO_7.out).1.symm] <;> rfl) | rfl | (simp only [List.length_drop, List.length_take]; rfl)) ?_; (with_reducible refine (laws_heldInt64S.calls kj36 _ _ t1553 1 t1554 _ ?side1 ?side2 A54.out).mono ?_); (case side1 => have q_ := Aside0.mk (Kd.R_reads' HO_7.out).2.2; exact cQ q_); (case side2 => rw [show t1553.length = t1539.length from (Kd.R_reads' HO_7.out).1.symm]; exact (Kd.R_reads' HO_7.out).2.1); rintro e w' ⟨rfl, ⟨nd, rfl⟩⟩; refine ⟨_, rfl, ?_⟩; have hnb64 := NB1524_1538.out; have hnc64 := NB1538_1524.out; have hcz65_0 : w63.cell? ⟨gb1524, 0, none⟩ = some (.int .i64 a0_0) := bc BK1524 0; have hcz65_1 : w63.cell? ⟨gb1524, 1, none⟩ = some (.slice A0_1 l0_1.length c0_1) := bc BK1524 1; have hfz65_0 := blk_frozen BK1524.out 0; have hfz65_1 := blk_frozen BK1524.out 1) | ((with_reducible refine gate_callee (f := 50) rfl ?_); refine goesL_ (some 75) rfl rfl Tryd.func50 (by kernel_rfl) rfl #[.agg #[.int .i64 a0_0, .slice A0_1 l0_1.length c0_1]] rfl lz ?_; (with_reducible refine (laws_toAlphabet.calls kj36 a0_0 _ _ l0_1 t1555 t1556 _ ?side1 ?side2 A59.out).mono ?_); (case side1 => have q_ := Aside0.mk (Kd.C_below HR0_1.out (beQ HB)); exact cQ q_); (case side2 => exact HC0_1.out); rintro e w66 ⟨v1557, rfl, ho0, hb⟩; refine ⟨_, rfl, ?_⟩; have HO1558 := Aside0.mk (Kd.R_lower (Kd.R_new' (Kd.R_new' (Kd.R_new' ho0 (Kd.R_lt (kdQ HO_4))) (Kd.R_lt (kdQ HO_7))) (Kd.R_lt (kdQ HO_1539001))) (below_size (beQ HB))); replace HO_4 := Aside0.mk (Kd.R_elder' (kdQ HO_4) (Kd.R_base ho0) hb); replace HO_7 := Aside0.mk (Kd.R_elder' (kdQ HO_7) (Kd.R_base ho0) hb); replace HO_1539001 := Aside0.mk (Kd.R_elder' (kdQ HO_1539001) (Kd.R_base ho0) hb); replace BK1524 := bb BK1524 hb; replace BK1538 := bb BK1538 hb; replace HB := Aside0.mk (below_step (beQ HB) hb); (try clear hb); (try clear hb2); (try clear hk); (try clear hi); (try clear hgw_); (try clear ho0); obtain ⟨Ao67, co67, eo67⟩ := Kd.R_slice HO1558.out; subst eo67) | ((with_reducible refine gate_callee (f := 47) rfl ?_); refine goesL_ (some 76) rfl rfl Tryd.func47 (by kernel_rfl) rfl #[.agg #[.int .i64 t1555, .slice Ao67 t1556.length co67]] rfl lz ?_; (with_reducible refine (impl_StepsOf.calls kj36 t1555 _ _ t1556 t1559 t1562 _ ?side1 ?side2 ?side3 A60.out).mono ?_); (case side1 => have q_ := Aside0.mk (Kd.R_reads' HO1558.out).2.2; exact cQ q_); (case side2 => exact (Kd.R_reads' HO1558.out).2.1); (case side3 => exact TabW.below HT.out (beQ HB)); rintro e w68 ⟨v1560, rfl, ho0, hb⟩; refine ⟨_, rfl, ?_⟩; have HO1561 := Aside0.mk (Kd.R_lower (Kd.R_new' (Kd.R_new' (Kd.R_new' (Kd.R_new' ho0 (Kd.R_lt (kdQ HO_4))) (Kd.R_lt (kdQ HO_7))) (Kd.R_lt (kdQ HO_1539001))) (Kd.R_lt (kdQ HO1558))) (below_size (beQ HB))); replace HO_4 := Aside0.mk (Kd.R_elder' (kdQ HO_4) (Kd.R_base ho0) hb); replace HO_7 := Aside0.mk (Kd.R_elder' (kdQ HO_7) (Kd.R_base ho0) hb); replace HO_1539001 := Aside0.mk (Kd.R_elder' (kdQ HO_1539001) (Kd.R_base ho0) hb); replace HO1558 := Aside0.mk (Kd.R_elder' (kdQ HO1558) (Kd.R_base ho0) hb); replace BK1524 := bb BK1524 hb; replace BK1538 := bb BK1538 hb; replace HB := Aside0.mk (below_step (beQ HB) hb); (try clear hb); (try clear hb2); (try clear hk); (try clear hi); (try clear hgw_); (try clear ho0)))
           (try simp only [Act.put, List.setIfInBounds_toArray, List.set_cons_zero, List.set_cons_succ])
           go_cut [87] (fun v87 wc => ∃ (kq : Nat) (x87_60 : Bool), v87 = .bool x87_60 ∧ Aside0 (laws_FnExactStepsOf.j2 kq t1553 t1552 x87_60 = some r) ∧ Aside0 (kq ≤ kj36) ∧ Aside0 (Kd.R (Kd.int .i64) 2 wc w.heap.size (fun k_ => some k_ ≠ ((.slice Ao24 t1550.length co24) : Value).ownBlock) (.slice Ao62 t1539.length co62) t1553) ∧ Aside0 (Kd.R (Kd.int .i64) 2 wc w.heap.size (fun k_ => some k_ ≠ ((.slice Ao62 t1539.length co62) : Value).ownBlock) (.slice Ao24 t1550.length co24) t1550) ∧ Aside0 (wc.heap[gb1524]? = some (.cells #[.int .i64 a0_0, (.slice A0_1 l0_1.length c0_1)] 59 (0, 0))) ∧ Aside0 (wc.heap[gb1538]? = some (.cells #[.int .i64 t1534, (.slice Ao24 t1550.length co24)] 26 (0, 0))) ∧ Aside0 (Below w.heap.size w wc))
           case first =>
            have H := HC61.out; clear HC61; replace H := Option.bind_eq_some_iff.mp H; obtain ⟨t1563, A690, H⟩ := H
            replace H : (if t1563 = true then (laws_FnExactStepsOf.j2 kj36 t1553 t1552 (t1562 != t1533)) else (laws_FnExactStepsOf.j2 kj36 t1553 t1552 true)) = some r := H
            have A69 := Aside0.mk A690; clear A690
            by_cases c70 : t1563 = true
            ·subst c70
             have H1 : (laws_FnExactStepsOf.j2 kj36 t1553 t1552 (t1562 != t1533)) = some r := by rw [if_pos rfl] at H; exact H
             clear H; have H := H1; clear H1
             have H' := Aside0.mk H
             clear H; obtain ⟨Ao71, co71, eo71⟩ := Kd.R_slice HO1561.out; subst eo71; obtain ⟨Ao72, co72, eo72⟩ := Kd.R_slice HO_4.out; subst eo72
             go_wp2_with (first | ((with_reducible refine gate_callee (f := 51) rfl ?_); refine goesL_ (some 81) rfl rfl Tryd.func51 (by kernel_rfl) rfl #[.slice Ao71 t1559.length co71, .slice Ao72 t1530.length co72] rfl lz ?_; (with_reducible refine (laws_eqInt64S.calls kj36 _ _ t1559 _ _ t1530 true _ ?side1 ?side2 ?side3 ?side4 A69.out).mono ?_); (case side1 => have q_ := Aside0.mk (Kd.R_reads' HO1561.out).2.2; exact cQ q_); (case side2 => exact (Kd.R_reads' HO1561.out).2.1); (case side3 => have q_ := Aside0.mk (Kd.R_reads' HO_4.out).2.2; exact cQ q_); (case side4 => exact (Kd.R_reads' HO_4.out).2.1); rintro e w' ⟨rfl, ⟨nd, rfl⟩⟩; refine ⟨_, rfl, ?_⟩))
             go_meet
             case rel => exact ⟨_, ((t1562 != t1533)), sz, H', ⟨by have := HJ10.out; have := HJ36.out; first | omega | exact Nat.le_refl _⟩, ⟨by (try simp only [hl1539001_36]); (with_reducible repeat (first | apply Kd.R_alloc | apply Kd.R_drewN | apply Kd.R_drew)); exact Kd.R_mono HO_7.out (fun _ hk => hk.1.1.2)⟩, ⟨by (try simp only [hl1539001_36]); (with_reducible repeat (first | apply Kd.R_alloc | apply Kd.R_drewN | apply Kd.R_drew)); exact Kd.R_mono HO_1539001.out (fun _ hk => hk.1.1.2)⟩, ⟨by (try simp only [hl1539001_36]); (with_reducible repeat (first | refine blk_drewN ?_ _ | refine blk_drew ?_ | refine blk_alloc ?_ _)); exact BK1524.out⟩, ⟨by (try simp only [hl1539001_36]); (with_reducible repeat (first | refine blk_drewN ?_ _ | refine blk_drew ?_ | refine blk_alloc ?_ _)); exact BK1538.out⟩, ⟨beQ HB⟩⟩
            ·replace c70 := Bool.eq_false_iff.mpr c70
             subst c70
             have H1 : (laws_FnExactStepsOf.j2 kj36 t1553 t1552 true) = some r := by rw [if_neg (show ¬ (false = true) by decide)] at H; exact H
             clear H; have H := H1; clear H1
             have H' := Aside0.mk H
             clear H; obtain ⟨Ao73, co73, eo73⟩ := Kd.R_slice HO1561.out; subst eo73; obtain ⟨Ao74, co74, eo74⟩ := Kd.R_slice HO_4.out; subst eo74
             go_wp2_with (first | ((with_reducible refine gate_callee (f := 51) rfl ?_); refine goesL_ (some 81) rfl rfl Tryd.func51 (by kernel_rfl) rfl #[.slice Ao73 t1559.length co73, .slice Ao74 t1530.length co74] rfl lz ?_; (with_reducible refine (laws_eqInt64S.calls kj36 _ _ t1559 _ _ t1530 false _ ?side1 ?side2 ?side3 ?side4 A69.out).mono ?_); (case side1 => have q_ := Aside0.mk (Kd.R_reads' HO1561.out).2.2; exact cQ q_); (case side2 => exact (Kd.R_reads' HO1561.out).2.1); (case side3 => have q_ := Aside0.mk (Kd.R_reads' HO_4.out).2.2; exact cQ q_); (case side4 => exact (Kd.R_reads' HO_4.out).2.1); rintro e w' ⟨rfl, ⟨nd, rfl⟩⟩; refine ⟨_, rfl, ?_⟩))
             go_meet
             case rel => exact ⟨_, (true), sz, H', ⟨by have := HJ10.out; have := HJ36.out; first | omega | exact Nat.le_refl _⟩, ⟨by (try simp only [hl1539001_36]); (with_reducible repeat (first | apply Kd.R_alloc | apply Kd.R_drewN | apply Kd.R_drew)); exact Kd.R_mono HO_7.out (fun _ hk => hk.1.1.2)⟩, ⟨by (try simp only [hl1539001_36]); (with_reducible repeat (first | apply Kd.R_alloc | apply Kd.R_drewN | apply Kd.R_drew)); exact Kd.R_mono HO_1539001.out (fun _ hk => hk.1.1.2)⟩, ⟨by (try simp only [hl1539001_36]); (with_reducible repeat (first | refine blk_drewN ?_ _ | refine blk_drew ?_ | refine blk_alloc ?_ _)); exact BK1524.out⟩, ⟨by (try simp only [hl1539001_36]); (with_reducible repeat (first | refine blk_drewN ?_ _ | refine blk_drew ?_ | refine blk_alloc ?_ _)); exact BK1538.out⟩, ⟨beQ HB⟩⟩
           case rest =>
            clear HC61
            try clear c2
            try clear p2
            try clear c3
            try clear c3b0
            try clear c4
            try clear c5
            try clear c6
            try clear c7
            try clear c8
            try clear c22
            try clear c27
            try clear c32
            try clear c35
            try clear c42
            try clear c45
            try clear c45b0
            try clear c47
            try clear c48
            try clear c49
            try clear c50
            try clear c51
            try clear c52
            try clear c53
            try clear c54
            try clear c55
            try clear c55b0
            try clear c58
            try clear c58b0
            try clear c58b1
            try clear c64
            try clear c70
            try clear hcz13_0
            try clear hcz13_1
            try clear hcz15_0
            try clear hcz15_1
            try clear hcz19_0
            try clear hcz19_1
            try clear hcz23_0
            try clear hcz23_1
            try clear hcz43_0
            try clear hcz43_1
            try clear hcz5_0
            try clear hcz5_1
            try clear hcz65_0
            try clear hcz65_1
            try clear hfz13_0
            try clear hfz13_1
            try clear hfz15_0
            try clear hfz15_1
            try clear hfz19_0
            try clear hfz19_1
            try clear hfz23_0
            try clear hfz23_1
            try clear hfz43_0
            try clear hfz43_1
            try clear hfz5_0
            try clear hfz5_1
            try clear hfz65_0
            try clear hfz65_1
            try clear p2
            obtain ⟨kq, x87_60, rfl, HA, HJ60, HO_7, HO_1539001, BK1524, BK1538, HB⟩ := hcut; have hl7_60 := (Kd.R_reads' HO_7.out).1; rw [hl7_60] at HO_7
            (try simp only [hl7_60])
            (try simp only [hl7_60] at BK1524)
            (try simp only [hl7_60] at BK1538)
            (try simp only [hl7_60] at HO_1539001)
            cases kq with
            | zero => exact absurd HA.out (by simp [laws_FnExactStepsOf.j2])
            | succ kj60 =>
             have H := HA.out; clear HA
             simp only [laws_FnExactStepsOf.j2] at H
             by_cases c75 : x87_60 = true
             ·subst c75
              have H1 : (some false) = some r := by rw [if_pos rfl] at H; exact H
              clear H; have H := H1; clear H1
              obtain rfl := Option.some.inj H
              go_wp2
              go_ret
              exact ⟨rz, beQ HB⟩
             ·replace c75 := Bool.eq_false_iff.mpr c75
              subst c75
              have H1 : ((laws_heldInt64S.f kj60 t1553 1).bind fun t1564 => (if t1564 < 0 then (some false) else (if t1564 = t1552 then (some true) else (some false)))) = some r := by rw [if_neg (show ¬ (false = true) by decide)] at H; exact H
              clear H; have H := H1; clear H1; replace H := Option.bind_eq_some_iff.mp H; obtain ⟨t1564, A760, H⟩ := H
              replace H : (if t1564 < 0 then (some false) else (if t1564 = t1552 then (some true) else (some false))) = some r := H
              have A76 := Aside0.mk A760; clear A760
              by_cases c77 : t1564 < 0
              ·rw [if_pos c77] at H
               have c77b0 : decide (t1564 < 0) = true := decide_eq_true c77
               clear c77
               obtain rfl := Option.some.inj H
               go_wp2_with (first | ((with_reducible refine gate_callee (f := 55) rfl ?_); refine goesL_ (some 90) rfl rfl Tryd.func55 (by kernel_rfl) rfl #[.slice Ao62 t1553.length co62, .int .i64 1] rfl lz ?_; (with_reducible refine (laws_heldInt64S.calls kj60 _ _ t1553 1 t1564 _ ?side1 ?side2 A76.out).mono ?_); (case side1 => have q_ := Aside0.mk (Kd.R_reads' HO_7.out).2.2; exact cQ q_); (case side2 => exact (Kd.R_reads' HO_7.out).2.1); rintro e w' ⟨rfl, ⟨nd, rfl⟩⟩; refine ⟨_, rfl, ?_⟩))
               go_ret
               exact ⟨rz, beQ HB⟩
              ·rw [if_neg c77] at H
               have c77b0 : decide (t1564 < 0) = false := decide_eq_false c77
               clear c77
               by_cases c78 : t1564 = t1552
               ·rw [if_pos c78] at H
                have c78b0 : (t1564 == t1552) = true := beq_iff_eq.mpr c78
                have c78b1 : (t1564 != t1552) = false := bne_eq_false_iff_eq.mpr c78
                clear c78
                obtain rfl := Option.some.inj H
                go_wp2_with (first | ((with_reducible refine gate_callee (f := 55) rfl ?_); refine goesL_ (some 90) rfl rfl Tryd.func55 (by kernel_rfl) rfl #[.slice Ao62 t1553.length co62, .int .i64 1] rfl lz ?_; (with_reducible refine (laws_heldInt64S.calls kj60 _ _ t1553 1 t1564 _ ?side1 ?side2 A76.out).mono ?_); (case side1 => have q_ := Aside0.mk (Kd.R_reads' HO_7.out).2.2; exact cQ q_); (case side2 => exact (Kd.R_reads' HO_7.out).2.1); rintro e w' ⟨rfl, ⟨nd, rfl⟩⟩; refine ⟨_, rfl, ?_⟩))
                go_ret
                exact ⟨rz, beQ HB⟩
               ·rw [if_neg c78] at H
                have c78b0 : (t1564 == t1552) = false := beq_eq_false_iff_ne.mpr c78
                have c78b1 : (t1564 != t1552) = true := bne_iff_ne.mpr c78
                obtain rfl := Option.some.inj H
                go_wp2_with (first | ((with_reducible refine gate_callee (f := 55) rfl ?_); refine goesL_ (some 90) rfl rfl Tryd.func55 (by kernel_rfl) rfl #[.slice Ao62 t1553.length co62, .int .i64 1] rfl lz ?_; (with_reducible refine (laws_heldInt64S.calls kj60 _ _ t1553 1 t1564 _ ?side1 ?side2 A76.out).mono ?_); (case side1 => have q_ := Aside0.mk (Kd.R_reads' HO_7.out).2.2; exact cQ q_); (case side2 => exact (Kd.R_reads' HO_7.out).2.1); rintro e w' ⟨rfl, ⟨nd, rfl⟩⟩; refine ⟨_, rfl, ?_⟩))
                go_ret
                exact ⟨rz, beQ HB⟩
          ·rw [if_neg c58] at H
           have c58b0 : (t1554 == t1552) = false := beq_eq_false_iff_ne.mpr c58
           have c58b1 : (t1554 != t1552) = true := bne_iff_ne.mpr c58
           obtain rfl := Option.some.inj H
           obtain ⟨Ao79, co79, eo79⟩ := Kd.R_slice HO_7.out; subst eo79
           go_wp2_with (first | ((with_reducible refine gate_callee (f := 54) rfl ?_); refine goesL_ (some 64) rfl rfl Tryd.func54 (by kernel_rfl) rfl #[.slice Ao79 t1539.length co79, .int .i64 1] rfl lz ?_; (with_reducible refine (laws_markInt64S.calls kj36 (fun k_ => some k_ = (.slice Ao79 t1539.length co79 : Value).ownBlock) (.slice Ao79 t1539.length co79) t1539 1 t1552 t1553 w _ ?side1 ?side2 A53.out).mono ?_); (case side1 => repeat (first | (with_reducible first | exact HB.out | apply below_alloc | apply pw_below_drewN | apply below_drew1 | refine below_set ?_ GE1524.out | refine below_set ?_ GE1538.out) | exact HB.out)); (case side2 => exact Kd.R_tight rfl HO_7.out); rintro e w80 ⟨rfl, hy0, hb, hkp⟩; refine ⟨_, rfl, ?_⟩; replace HO_4 := Aside0.mk (Kd.R_mono (ok' := fun k_ => some k_ ≠ (.slice Ao79 t1539.length co79 : Value).ownBlock ∧ some k_ ≠ (.slice Ao24 t1550.length co24 : Value).ownBlock) (Kd.R_keptB (HO_4.out) hkp (fun k_ hk_ hs_ => (hk_.1) hs_)) (fun k_ hk_ => ⟨hk_.1.1, hk_.1.2⟩)); replace HO_1539001 := Aside0.mk (Kd.R_mono (ok' := fun k_ => some k_ ≠ (v1531 : Value).ownBlock ∧ some k_ ≠ (.slice Ao79 t1539.length co79 : Value).ownBlock) (Kd.R_keptB (HO_1539001.out) hkp (fun k_ hk_ hs_ => (hk_.2) hs_)) (fun k_ hk_ => ⟨hk_.1.1, hk_.1.2⟩)); replace BK1524 := Aside0.mk (blk_kept (blkQ BK1524) hkp (fun hs_ => (fun e_ => (Kd.R_ne HO_7.out BK1524.out (by decide)) e_) hs_)); replace BK1538 := Aside0.mk (blk_kept (blkQ BK1538) hkp (fun hs_ => (fun e_ => (Kd.R_ne HO_7.out BK1538.out (by decide)) e_) hs_)); replace HO_7 := Aside0.mk (Kd.R_reok rfl hy0 (fun k_ e_ => HO_7.out.1 k_ e_)); replace HB := Aside0.mk (hb); (try clear hb); (try clear hkp); (try clear hy0)) | ((with_reducible refine gate_callee (f := 55) rfl ?_); refine goesL_ (some 67) rfl rfl Tryd.func55 (by kernel_rfl) rfl #[.slice Ao79 t1553.length co79, .int .i64 1] rfl (by (try simp only [List.map_toArray, List.map_cons, List.map_nil]); first | done | (rw [show t1553.length = t1539.length from (Kd.R_reads' HO_7.out).1.symm] <;> rfl) | rfl | (simp only [List.length_drop, List.length_take]; rfl)) ?_; (with_reducible refine (laws_heldInt64S.calls kj36 _ _ t1553 1 t1554 _ ?side1 ?side2 A54.out).mono ?_); (case side1 => have q_ := Aside0.mk (Kd.R_reads' HO_7.out).2.2; exact cQ q_); (case side2 => rw [show t1553.length = t1539.length from (Kd.R_reads' HO_7.out).1.symm]; exact (Kd.R_reads' HO_7.out).2.1); rintro e w' ⟨rfl, ⟨nd, rfl⟩⟩; refine ⟨_, rfl, ?_⟩))
           go_ret
           exact ⟨rz, beQ HB⟩
     ·replace c35 := Bool.eq_false_iff.mpr c35
      subst c35
      have H1 : (some false) = some r := by rw [if_neg (show ¬ (false = true) by decide)] at H; exact H
      clear H; have H := H1; clear H1
      obtain rfl := Option.some.inj H
      try go_wp2
      replace HO_4 := Aside0.mk (Kd.R_drew HO_4.out); replace HO_7 := Aside0.mk (Kd.R_drew HO_7.out); replace HO_1539001 := Aside0.mk (Kd.R_drew HO_1539001.out); replace BK1524 := Aside0.mk (blk_drew BK1524.out); replace BK1538 := Aside0.mk (blk_drew BK1538.out); replace HB := Aside0.mk (below_drew1 HB.out)
      refine start_ (n := 5) (S := fun w' => w'.cell? ⟨gb1538, 0, none⟩ = some (.int .i64 t1534) ∧ w'.cell? ⟨gb1538, 1, none⟩ = some (.slice Ao24 t1535.length co24) ∧ w'.cell? ⟨gb1524, 0, none⟩ = some (.int .i64 a0_0) ∧ w'.cell? ⟨gb1524, 1, none⟩ = some (.slice A0_1 l0_1.length c0_1)) (ds := []) #[false, false, false, false, false] (by kernel_rfl) rfl rfl ⟨bc BK1538 0, bc BK1538 1, bc BK1524 0, bc BK1524 1⟩ (fun hHeld => ?_)
      generalize wc.drew = w81 at HO_4 HO_7 HO_1539001 BK1524 BK1538 HB hHeld ⊢
      refine take_ (i := 0) (N := some 41) (v := ?_) (a' := ?_) #[true, false, false, false, false] rfl rfl (by kernel_rfl) (fun _ _ _ h => h) (Or.inl ⟨by rfl, ?_⟩) hHeld ?_ ?_
      rotate_left
      ·rintro w' ⟨s0, s1, s2, s3⟩
       go_simp
       with_reducible rfl
      rotate_left
      ·simp only [Act.put, s1, s2, s3, i64_w, i32_w]
       rfl
      refine take_ (i := 1) (N := some 42) (v := ?_) (a' := ?_) #[true, true, false, false, false] rfl rfl (by kernel_rfl) (fun _ _ _ h => h) (Or.inl ⟨by rfl, ?_⟩) hHeld ?_ ?_
      rotate_left
      ·rintro w' ⟨s0, s1, s2, s3⟩
       go_simp
       with_reducible rfl
      rotate_left
      ·simp only [Act.put, s1, s2, s3, i64_w, i32_w]
       rfl
      refine one_ (i := 2) (N := some 43) #[true, true, true, false, false] rfl rfl (by kernel_rfl) (by decide) (fun K hK => ?_)
      refine goes_ Tryd.func50 (by kernel_rfl) rfl #[.agg #[.int .i64 a0_0, .slice A0_1 l0_1.length c0_1]] (by rfl) rfl rfl lz ?_
      with_reducible refine (laws_toAlphabet.calls kj10 a0_0 _ _ l0_1 t1544 t1545 _ ?side1 ?side2 A33.out).mono ?_
      (case side1 => have q_ := Aside0.mk (Kd.C_below HR0_1.out HB.out); exact cQ q_)
      (case side2 => exact HC0_1.out)
      rintro e w82 ⟨v1546, rfl, ho0, hb⟩
      refine ⟨_, rfl, ?_⟩
      have HO1547 := Aside0.mk (Kd.R_lower (Kd.R_new' (Kd.R_new' (Kd.R_new' ho0 (Kd.R_lt (kdQ HO_4))) (Kd.R_lt (kdQ HO_7))) (Kd.R_lt (kdQ HO_1539001))) (below_size (beQ HB))); replace HO_4 := Aside0.mk (Kd.R_elder' (kdQ HO_4) (Kd.R_base ho0) hb); replace HO_7 := Aside0.mk (Kd.R_elder' (kdQ HO_7) (Kd.R_base ho0) hb); replace HO_1539001 := Aside0.mk (Kd.R_elder' (kdQ HO_1539001) (Kd.R_base ho0) hb); replace BK1524 := bb BK1524 hb; replace BK1538 := bb BK1538 hb; replace HB := Aside0.mk (below_step (beQ HB) hb)
      (try clear hb)
      (try clear hb2)
      (try clear hk)
      (try clear hi)
      (try clear hgw_)
      (try clear ho0)
      obtain ⟨Ao83, co83, eo83⟩ := Kd.R_slice HO1547.out
      (first | subst eo83 | (injection eo83 with f1_ f2_ f3_; have f4_ := f1_.symm; have f5_ := f3_.symm; clear f1_ f2_ f3_; subst f4_; subst f5_))
      refine hK.out _ _ ⟨bc BK1538 0, bc BK1538 1, bc BK1524 0, bc BK1524 1⟩ (fun hHeld => ?_)
      clear hK K
      refine norm_ (a' := ?_) ?_ ?_
      rotate_left
      ·show Act.put _ (some 43) _ = _
       simp only [Act.put, s1, s2, s3, i64_w, i32_w]
       rfl
      refine one_ (i := 3) (N := some 44) #[true, true, true, true, false] rfl rfl (by kernel_rfl) (by decide) (fun K hK => ?_)
      refine goes_ Tryd.func52 (by kernel_rfl) rfl #[.agg #[.int .i64 t1534, .slice Ao24 t1535.length co24], .agg #[.int .i64 t1544, .slice Ao83 t1545.length co83]] (by rfl) rfl rfl lz ?_
      with_reducible refine (laws_eqAlphabet.calls kj10 t1534 _ _ t1535 t1544 _ _ t1545 false _ ?side1 ?side2 ?side3 ?side4 A34.out).mono ?_
      (case side1 => have q_ := Aside0.mk (Kd.R_reads' HO_1539001.out).2.2; exact cQ q_)
      (case side2 => exact (Kd.R_reads' HO_1539001.out).2.1)
      (case side3 => have q_ := Aside0.mk (Kd.R_reads' HO1547.out).2.2; exact cQ q_)
      (case side4 => exact (Kd.R_reads' HO1547.out).2.1)
      rintro e w84 ⟨rfl, hb⟩
      refine ⟨_, rfl, ?_⟩
      replace HO_4 := kb HO_4 hb; replace HO_7 := kb HO_7 hb; replace HO_1539001 := kb HO_1539001 hb; replace HO1547 := kb HO1547 hb; replace BK1524 := bb BK1524 hb; replace BK1538 := bb BK1538 hb; replace HB := Aside0.mk (below_step (beQ HB) hb)
      (try clear hb)
      (try clear hb2)
      (try clear hk)
      (try clear hi)
      (try clear hgw_)
      refine hK.out _ _ ⟨bc BK1538 0, bc BK1538 1, bc BK1524 0, bc BK1524 1⟩ (fun hHeld => ?_)
      clear hK K
      refine norm_ (a' := ?_) ?_ ?_
      rotate_left
      ·show Act.put _ (some 44) _ = _
       simp only [Act.put, s1, s2, s3, i64_w, i32_w]
       rfl
      refine pure_ (i := 4) (N := some 45) (v := ?_) (a' := ?_) #[true, true, true, true, true] rfl rfl (by kernel_rfl) (fun _ _ _ h => h) (Or.inl ⟨by rfl, ?_⟩) ?_ ?_
      rotate_left
      ·intro w'
       go_simp
       with_reducible rfl
      rotate_left
      ·simp only [Act.put, s1, s2, s3, i64_w, i32_w]
       rfl
      refine done_ (by kernel_rfl) ?_
      try go_wp2
      go_ret
      exact ⟨rz, beQ HB⟩

end Go.Proofs.YtleeihpmniabhaaDoor.G
