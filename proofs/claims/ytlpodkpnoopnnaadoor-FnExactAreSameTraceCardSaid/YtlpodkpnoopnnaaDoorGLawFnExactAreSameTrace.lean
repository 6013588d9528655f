/- How the program's functions compute, function by function: each is told by a plain Lean function of the same answers, under the condition that this one answers. Written by a program of this project over the seat's translation; Lean checks it. -/
import Derived.Test.YtlpodkpnoopnnaaDoorG0
import Derived.Test.YtlpodkpnoopnnaaDoorGQ00
import Derived.Test.YtlpodkpnoopnnaaDoorGQ26
namespace Go.Proofs.YtlpodkpnoopnnaaDoor.G
open Go.RowKit Go.Proofs.YtlpodkpnoopnnaaDoorW.PrintWords Go.Proofs.YtlpodkpnoopnnaaDoorW.PrintLast Go.Proofs.YtlpodkpnoopnnaaDoorW.PrintMore
attribute [local go_sem] max2_int min2_int max_two min_two max_three min_three max_four min_four   -- for this text's walks alone
set_option linter.unusedVariables false
set_option linter.unusedSimpArgs false

/-! ### laws_FnExactAreSameTrace: function 9 -/
def laws_FnExactAreSameTrace.j0 : Nat → List Int → List Int → List Int → List Int → Bool → Int → List Int → Int → List Int → Option (Bool)
 | 0, _, _, _, _, _, _, _, _, _ => none
 | k + 1, x1, x2, x11, x12, x56, x781000, x781001, x799000, x799001 => if x56 = true then (some false) else ((laws_toAlphabet.f k x781000 x781001).bind fun bt807 => ((laws_eqAlphabet.f k x799000 x799001 bt807.1 bt807.2).bind fun t811 => (if t811 = true then ((laws_toInt64S.f k x1).bind fun t812 => ((laws_eqInt64S.f k x11 t812).bind fun t815 => (if t815 = true then ((laws_toInt64S.f k x2).bind fun t816 => ((laws_eqInt64S.f k x12 t816).bind fun t819 => (if t819 = true then (some true) else (some false)))) else (some false)))) else (some false))))
def laws_FnExactAreSameTrace.f (k : Nat) (a0_0 : Int) (l0_1 : List Int) (l1 : List Int) (l2 : List Int) : Option (Bool) := if (l1.length : Int) > 1048576 then (some true) else (if (l2.length : Int) > 1048576 then (some true) else ((laws_szAlphabet.f a0_0 l0_1 1048576).bind fun t781 => (if t781 < 0 then (some true) else ((laws_toAlphabet.f k a0_0 l0_1).bind fun bt782 => ((laws_toInt64S.f k l1).bind fun t786 => ((laws_toInt64S.f k l2).bind fun t789 => ((spec_AreSameTrace.f k bt782.1 bt782.2 t786 t789).bind fun bt792 => ((laws_toAlphabet.f k a0_0 l0_1).bind fun bt794 => ((laws_toInt64S.f k l1).bind fun t799 => ((laws_toInt64S.f k l2).bind fun t802 => ((impl_AreSameTrace.f k bt794.1 bt794.2 t799 t802).bind fun bt805 => (if (bt805.1 != bt792.1) = true then (laws_FnExactAreSameTrace.j0 k l1 l2 t799 t802 true a0_0 l0_1 bt794.1 bt794.2) else (laws_FnExactAreSameTrace.j0 k l1 l2 t799 t802 (bt805.2 != bt792.2) a0_0 l0_1 bt794.1 bt794.2)))))))))))))
theorem laws_FnExactAreSameTrace.mono_l : ∀ k, (∀ y0 y1 y2 y3 y4 y5 y6 y7 y8, LeO (laws_FnExactAreSameTrace.j0 k y0 y1 y2 y3 y4 y5 y6 y7 y8) (laws_FnExactAreSameTrace.j0 (k + 1) y0 y1 y2 y3 y4 y5 y6 y7 y8))
 | 0 => fun _ _ _ _ _ _ _ _ _ r h => by simp [laws_FnExactAreSameTrace.j0] at h
 | k + 1 => by
  have ih0 := laws_FnExactAreSameTrace.mono_l k
  ·intro y0 y1 y2 y3 y4 y5 y6 y7 y8
   unfold laws_FnExactAreSameTrace.j0
   repeat' first
   | (with_reducible exact ih0 _ _ _ _ _ _ _ _ _)
   | (with_reducible exact impl_AreSameTrace.mono _ _ _ _ _)
   | (with_reducible exact laws_eqAlphabet.mono _ _ _ _ _)
   | (with_reducible exact laws_eqInt64S.mono _ _ _)
   | (with_reducible exact laws_toAlphabet.mono _ _ _)
   | (with_reducible exact laws_toInt64S.mono _ _)
   | (with_reducible exact spec_AreSameTrace.mono _ _ _ _ _)
   | (with_reducible exact LeO.refl _)
   | (with_reducible exact LeO.none _)
   | (with_reducible refine LeO.ite ?_ ?_)
   | (with_reducible refine LeO.bind ?_ (fun _ => ?_))
   | exact ih0 _ _ _ _ _ _ _ _ _
   | exact impl_AreSameTrace.mono _ _ _ _ _
   | exact laws_eqAlphabet.mono _ _ _ _ _
   | exact laws_eqInt64S.mono _ _ _
   | exact laws_toAlphabet.mono _ _ _
   | exact laws_toInt64S.mono _ _
   | exact spec_AreSameTrace.mono _ _ _ _ _
   | exact LeO.none _
   | refine LeO.ite ?_ ?_
   | refine LeO.bind ?_ (fun _ => ?_)
theorem laws_FnExactAreSameTrace.mono : ∀ a0 a1 a2 a3 k, LeO (laws_FnExactAreSameTrace.f k a0 a1 a2 a3) (laws_FnExactAreSameTrace.f (k + 1) a0 a1 a2 a3) := by
 intro a0 a1 a2 a3 k
 have ih0 := laws_FnExactAreSameTrace.mono_l k
 unfold laws_FnExactAreSameTrace.f
 repeat' first
   | (with_reducible exact ih0 _ _ _ _ _ _ _ _ _)
   | (with_reducible exact impl_AreSameTrace.mono _ _ _ _ _)
   | (with_reducible exact laws_eqAlphabet.mono _ _ _ _ _)
   | (with_reducible exact laws_eqInt64S.mono _ _ _)
   | (with_reducible exact laws_toAlphabet.mono _ _ _)
   | (with_reducible exact laws_toInt64S.mono _ _)
   | (with_reducible exact spec_AreSameTrace.mono _ _ _ _ _)
   | (with_reducible exact LeO.refl _)
   | (with_reducible exact LeO.none _)
   | (with_reducible refine LeO.ite ?_ ?_)
   | (with_reducible refine LeO.bind ?_ (fun _ => ?_))
   | exact ih0 _ _ _ _ _ _ _ _ _
   | exact impl_AreSameTrace.mono _ _ _ _ _
   | exact laws_eqAlphabet.mono _ _ _ _ _
   | exact laws_eqInt64S.mono _ _ _
   | exact laws_toAlphabet.mono _ _ _
   | exact laws_toInt64S.mono _ _
   | exact spec_AreSameTrace.mono _ _ _ _ _
   | exact LeO.none _
   | refine LeO.ite ?_ ?_
   | refine LeO.bind ?_ (fun _ => ?_)
set_option maxHeartbeats 8000000 in
set_option maxRecDepth 100000 in
theorem laws_FnExactAreSameTrace.calls (k : Nat) (a0_0 : Int) (A0_1 : Option Addr) (c0_1 : Nat) (l0_1 : List Int) (A1 : Option Addr) (c1 : Nat) (l1 : List Int) (A2 : Option Addr) (c2 : Nat) (l2 : List Int) (r : Bool) (w : World) (hr0_1 : Kd.C (Kd.int .i64) w A0_1 l0_1.length l0_1) (hc0_1 : l0_1.length ≤ c0_1) (hr1 : Kd.C (Kd.int .i64) w A1 l1.length l1) (hc1 : l1.length ≤ c1) (hr2 : Kd.C (Kd.int .i64) w A2 l2.length l2) (hc2 : l2.length ≤ c2) (hT : TabW w) (h : laws_FnExactAreSameTrace.f k a0_0 l0_1 l1 l2 = some r) :
  Calls Tryd.prog 9 #[.agg #[.int .i64 a0_0, .slice A0_1 l0_1.length c0_1], .slice A1 l1.length c1, .slice A2 l2.length c2] w fun e w' => e = .returned (.bool r) ∧ Below w.heap.size w w' := by
 have hu24 := Tryd.underlying24; have hu28 := Tryd.underlying28; have HT := Aside0.mk hT; clear hT; have HR0_1 := Aside0.mk hr0_1; have HC0_1 := Aside0.mk hc0_1; clear hr0_1 hc0_1; have HR1 := Aside0.mk hr1; have HC1 := Aside0.mk hc1; clear hr1 hc1; have HR2 := Aside0.mk hr2; have HC2 := Aside0.mk hc2; clear hr2 hc2; have HB := Aside0.mk (Below.refl w.heap.size w)
 have H : (if (l1.length : Int) > 1048576 then (some true) else (if (l2.length : Int) > 1048576 then (some true) else ((laws_szAlphabet.f a0_0 l0_1 1048576).bind fun t781 => (if t781 < 0 then (some true) else ((laws_toAlphabet.f k a0_0 l0_1).bind fun bt782 => ((laws_toInt64S.f k l1).bind fun t786 => ((laws_toInt64S.f k l2).bind fun t789 => ((spec_AreSameTrace.f k bt782.1 bt782.2 t786 t789).bind fun bt792 => ((laws_toAlphabet.f k a0_0 l0_1).bind fun bt794 => ((laws_toInt64S.f k l1).bind fun t799 => ((laws_toInt64S.f k l2).bind fun t802 => ((impl_AreSameTrace.f k bt794.1 bt794.2 t799 t802).bind fun bt805 => (if (bt805.1 != bt792.1) = true then (laws_FnExactAreSameTrace.j0 k l1 l2 t799 t802 true a0_0 l0_1 bt794.1 bt794.2) else (laws_FnExactAreSameTrace.j0 k l1 l2 t799 t802 (bt805.2 != bt792.2) a0_0 l0_1 bt794.1 bt794.2)))))))))))))) = some r := h
 clear h
 by_cases c4 : (l1.length : Int) > 1048576
 ·rw [if_pos c4] at H
  have c4b0 : decide (1048576 < (l1.length : Int)) = true := decide_eq_true c4
  have c4b1 : decide (1048576 < l1.length) = true := decide_eq_true (by omega)
  clear c4
  obtain rfl := Option.some.inj H
  go_enter Tryd.func9, Tryd.ntmps9
  go_wp2_with (first | ((with_reducible refine gate_dst (N := 3) rfl ?_); refine box_event ?hg (N := 3) ?hd (cs := #[.int .i64 a0_0, .slice A0_1 l0_1.length c0_1]) (t := 24) ?hr ?_; (case hd => rfl); (case hg => rfl); (case hr => first | (go_simp; done) | (go_simp; rfl)); intro gb780 hg w5 hbox hb; have BK780 := Aside0.mk (hbox); have GW780 := Aside0.mk ((by rw [hg]; exact (below_size (beQ HB)) : w.heap.size ≤ gb780)); have GE780 := Aside0.mk ((by rw [hg]; exact (below_size (beQ HB)) : w.heap.size ≤ gb780)); replace HB := Aside0.mk (below_step (beQ HB) hb); clear hb hbox hg))
  go_ret
  exact ⟨rz, beQ HB⟩
 ·rw [if_neg c4] at H
  have c4b0 : decide (1048576 < (l1.length : Int)) = false := decide_eq_false c4
  have c4b1 : decide (1048576 < l1.length) = false := decide_eq_false (by omega)
  clear c4
  by_cases c6 : (l2.length : Int) > 1048576
  ·rw [if_pos c6] at H
   have c6b0 : decide (1048576 < (l2.length : Int)) = true := decide_eq_true c6
   have c6b1 : decide (1048576 < l2.length) = true := decide_eq_true (by omega)
   clear c6
   obtain rfl := Option.some.inj H
   go_enter Tryd.func9, Tryd.ntmps9
   go_wp2_with (first | ((with_reducible refine gate_dst (N := 3) rfl ?_); refine box_event ?hg (N := 3) ?hd (cs := #[.int .i64 a0_0, .slice A0_1 l0_1.length c0_1]) (t := 24) ?hr ?_; (case hd => rfl); (case hg => rfl); (case hr => first | (go_simp; done) | (go_simp; rfl)); intro gb780 hg w7 hbox hb; have BK780 := Aside0.mk (hbox); have GW780 := Aside0.mk ((by rw [hg]; exact (below_size (beQ HB)) : w.heap.size ≤ gb780)); have GE780 := Aside0.mk ((by rw [hg]; exact (below_size (beQ HB)) : w.heap.size ≤ gb780)); replace HB := Aside0.mk (below_step (beQ HB) hb); clear hb hbox hg))
   go_ret
   exact ⟨rz, beQ HB⟩
  ·rw [if_neg c6] at H
   have c6b0 : decide (1048576 < (l2.length : Int)) = false := decide_eq_false c6
   have c6b1 : decide (1048576 < l2.length) = false := decide_eq_false (by omega)
   clear c6; replace H := Option.bind_eq_some_iff.mp H; obtain ⟨t781, A80, H⟩ := H
   replace H : (if t781 < 0 then (some true) else ((laws_toAlphabet.f k a0_0 l0_1).bind fun bt782 => ((laws_toInt64S.f k l1).bind fun t786 => ((laws_toInt64S.f k l2).bind fun t789 => ((spec_AreSameTrace.f k bt782.1 bt782.2 t786 t789).bind fun bt792 => ((laws_toAlphabet.f k a0_0 l0_1).bind fun bt794 => ((laws_toInt64S.f k l1).bind fun t799 => ((laws_toInt64S.f k l2).bind fun t802 => ((impl_AreSameTrace.f k bt794.1 bt794.2 t799 t802).bind fun bt805 => (if (bt805.1 != bt792.1) = true then (laws_FnExactAreSameTrace.j0 k l1 l2 t799 t802 true a0_0 l0_1 bt794.1 bt794.2) else (laws_FnExactAreSameTrace.j0 k l1 l2 t799 t802 (bt805.2 != bt792.2) a0_0 l0_1 bt794.1 bt794.2))))))))))) = some r := H
   have A8 := Aside0.mk A80; clear A80
   by_cases c9 : t781 < 0
   ·rw [if_pos c9] at H
    have c9b0 : decide (t781 < 0) = true := decide_eq_true c9
    clear c9
    obtain rfl := Option.some.inj H
    go_enter Tryd.func9, Tryd.ntmps9
    go_wp2_with (first | ((with_reducible refine gate_dst (N := 3) rfl ?_); refine box_event ?hg (N := 3) ?hd (cs := #[.int .i64 a0_0, .slice A0_1 l0_1.length c0_1]) (t := 24) ?hr ?_; (case hd => rfl); (case hg => rfl); (case hr => first | (go_simp; done) | (go_simp; rfl)); intro gb780 hg w10 hbox hb; have BK780 := Aside0.mk (hbox); have GW780 := Aside0.mk ((by rw [hg]; exact (below_size (beQ HB)) : w.heap.size ≤ gb780)); have GE780 := Aside0.mk ((by rw [hg]; exact (below_size (beQ HB)) : w.heap.size ≤ gb780)); replace HB := Aside0.mk (below_step (beQ HB) hb); clear hb hbox hg; have hcz11_0 : w10.cell? ⟨gb780, 0, none⟩ = some (.int .i64 a0_0) := bc BK780 0; have hcz11_1 : w10.cell? ⟨gb780, 1, none⟩ = some (.slice A0_1 l0_1.length c0_1) := bc BK780 1; have hfz11_0 := blk_frozen BK780.out 0; have hfz11_1 := blk_frozen BK780.out 1) | ((with_reducible refine gate_callee (f := 15) rfl ?_); refine goesL_ (some 23) rfl rfl Tryd.func15 (by kernel_rfl) rfl #[.agg #[.int .i64 a0_0, .slice A0_1 l0_1.length c0_1], .int .i64 1048576] rfl lz ?_; (with_reducible refine (laws_szAlphabet.calls a0_0 _ _ l0_1 1048576 t781 _ ?side1 ?side2 A8.out).mono ?_); (case side1 => have q_ := Aside0.mk (Kd.C_below HR0_1.out HB.out); exact cQ q_); (case side2 => exact HC0_1.out); rintro e w12 ⟨rfl, hb⟩; refine ⟨_, rfl, ?_⟩; replace BK780 := bb BK780 hb; replace HB := Aside0.mk (below_step (beQ HB) hb); (try clear hb); (try clear hb2); (try clear hk); (try clear hi)))
    go_ret
    exact ⟨rz, beQ HB⟩
   ·rw [if_neg c9] at H
    have c9b0 : decide (t781 < 0) = false := decide_eq_false c9
    clear c9; replace H := Option.bind_eq_some_iff.mp H
    obtain ⟨⟨t782, t783⟩, A130, H⟩ := H
    replace H : ((laws_toInt64S.f k l1).bind fun t786 => ((laws_toInt64S.f k l2).bind fun t789 => ((spec_AreSameTrace.f k t782 t783 t786 t789).bind fun bt792 => ((laws_toAlphabet.f k a0_0 l0_1).bind fun bt794 => ((laws_toInt64S.f k l1).bind fun t799 => ((laws_toInt64S.f k l2).bind fun t802 => ((impl_AreSameTrace.f k bt794.1 bt794.2 t799 t802).bind fun bt805 => (if (bt805.1 != bt792.1) = true then (laws_FnExactAreSameTrace.j0 k l1 l2 t799 t802 true a0_0 l0_1 bt794.1 bt794.2) else (laws_FnExactAreSameTrace.j0 k l1 l2 t799 t802 (bt805.2 != bt792.2) a0_0 l0_1 bt794.1 bt794.2))))))))) = some r := H
    have A13 := Aside0.mk A130; clear A130; replace H := Option.bind_eq_some_iff.mp H; obtain ⟨t786, A140, H⟩ := H
    replace H : ((laws_toInt64S.f k l2).bind fun t789 => ((spec_AreSameTrace.f k t782 t783 t786 t789).bind fun bt792 => ((laws_toAlphabet.f k a0_0 l0_1).bind fun bt794 => ((laws_toInt64S.f k l1).bind fun t799 => ((laws_toInt64S.f k l2).bind fun t802 => ((impl_AreSameTrace.f k bt794.1 bt794.2 t799 t802).bind fun bt805 => (if (bt805.1 != bt792.1) = true then (laws_FnExactAreSameTrace.j0 k l1 l2 t799 t802 true a0_0 l0_1 bt794.1 bt794.2) else (laws_FnExactAreSameTrace.j0 k l1 l2 t799 t802 (bt805.2 != bt792.2) a0_0 l0_1 bt794.1 bt794.2)))))))) = some r := H
    have A14 := Aside0.mk A140; clear A140; replace H := Option.bind_eq_some_iff.mp H; obtain ⟨t789, A150, H⟩ := H
    replace H : ((spec_AreSameTrace.f k t782 t783 t786 t789).bind fun bt792 => ((laws_toAlphabet.f k a0_0 l0_1).bind fun bt794 => ((laws_toInt64S.f k l1).bind fun t799 => ((laws_toInt64S.f k l2).bind fun t802 => ((impl_AreSameTrace.f k bt794.1 bt794.2 t799 t802).bind fun bt805 => (if (bt805.1 != bt792.1) = true then (laws_FnExactAreSameTrace.j0 k l1 l2 t799 t802 true a0_0 l0_1 bt794.1 bt794.2) else (laws_FnExactAreSameTrace.j0 k l1 l2 t799 t802 (bt805.2 != bt792.2) a0_0 l0_1 bt794.1 bt794.2))))))) = some r := H
    have A15 := Aside0.mk A150; clear A150; replace H := Option.bind_eq_some_iff.mp H
    obtain ⟨⟨t792, t793⟩, A160, H⟩ := H
    replace H : ((laws_toAlphabet.f k a0_0 l0_1).bind fun bt794 => ((laws_toInt64S.f k l1).bind fun t799 => ((laws_toInt64S.f k l2).bind fun t802 => ((impl_AreSameTrace.f k bt794.1 bt794.2 t799 t802).bind fun bt805 => (if (bt805.1 != t792) = true then (laws_FnExactAreSameTrace.j0 k l1 l2 t799 t802 true a0_0 l0_1 bt794.1 bt794.2) else (laws_FnExactAreSameTrace.j0 k l1 l2 t799 t802 (bt805.2 != t793) a0_0 l0_1 bt794.1 bt794.2)))))) = some r := H
    have A16 := Aside0.mk A160; clear A160; replace H := Option.bind_eq_some_iff.mp H
    obtain ⟨⟨t794, t795⟩, A170, H⟩ := H
    replace H : ((laws_toInt64S.f k l1).bind fun t799 => ((laws_toInt64S.f k l2).bind fun t802 => ((impl_AreSameTrace.f k t794 t795 t799 t802).bind fun bt805 => (if (bt805.1 != t792) = true then (laws_FnExactAreSameTrace.j0 k l1 l2 t799 t802 true a0_0 l0_1 t794 t795) else (laws_FnExactAreSameTrace.j0 k l1 l2 t799 t802 (bt805.2 != t793) a0_0 l0_1 t794 t795))))) = some r := H
    have A17 := Aside0.mk A170; clear A170; replace H := Option.bind_eq_some_iff.mp H; obtain ⟨t799, A180, H⟩ := H
    replace H : ((laws_toInt64S.f k l2).bind fun t802 => ((impl_AreSameTrace.f k t794 t795 t799 t802).bind fun bt805 => (if (bt805.1 != t792) = true then (laws_FnExactAreSameTrace.j0 k l1 l2 t799 t802 true a0_0 l0_1 t794 t795) else (laws_FnExactAreSameTrace.j0 k l1 l2 t799 t802 (bt805.2 != t793) a0_0 l0_1 t794 t795)))) = some r := H
    have A18 := Aside0.mk A180; clear A180; replace H := Option.bind_eq_some_iff.mp H; obtain ⟨t802, A190, H⟩ := H
    replace H : ((impl_AreSameTrace.f k t794 t795 t799 t802).bind fun bt805 => (if (bt805.1 != t792) = true then (laws_FnExactAreSameTrace.j0 k l1 l2 t799 t802 true a0_0 l0_1 t794 t795) else (laws_FnExactAreSameTrace.j0 k l1 l2 t799 t802 (bt805.2 != t793) a0_0 l0_1 t794 t795))) = some r := H
    have A19 := Aside0.mk A190; clear A190; replace H := Option.bind_eq_some_iff.mp H
    obtain ⟨⟨t805, t806⟩, A200, H⟩ := H
    replace H : (if (t805 != t792) = true then (laws_FnExactAreSameTrace.j0 k l1 l2 t799 t802 true a0_0 l0_1 t794 t795) else (laws_FnExactAreSameTrace.j0 k l1 l2 t799 t802 (t806 != t793) a0_0 l0_1 t794 t795)) = some r := H
    have A20 := Aside0.mk A200; clear A200; have HC21 := Aside0.mk H; clear H
    go_enter Tryd.func9, Tryd.ntmps9
    go_upto_region 14 with (first | ((with_reducible refine gate_dst (N := 3) rfl ?_); refine box_event ?hg (N := 3) ?hd (cs := #[.int .i64 a0_0, .slice A0_1 l0_1.length c0_1]) (t := 24) ?hr ?_; (case hd => rfl); (case hg => rfl); (case hr => first | (go_simp; done) | (go_simp; rfl)); intro gb780 hg w22 hbox hb; have BK780 := Aside0.mk (hbox); have GW780 := Aside0.mk ((by rw [hg]; exact (below_size (beQ HB)) : w.heap.size ≤ gb780)); have GE780 := Aside0.mk ((by rw [hg]; exact (below_size (beQ HB)) : w.heap.size ≤ gb780)); replace HB := Aside0.mk (below_step (beQ HB) hb); clear hb hbox hg; have hcz23_0 : w22.cell? ⟨gb780, 0, none⟩ = some (.int .i64 a0_0) := bc BK780 0; have hcz23_1 : w22.cell? ⟨gb780, 1, none⟩ = some (.slice A0_1 l0_1.length c0_1) := bc BK780 1; have hfz23_0 := blk_frozen BK780.out 0; have hfz23_1 := blk_frozen BK780.out 1) | ((with_reducible refine gate_callee (f := 15) rfl ?_); refine goesL_ (some 23) rfl rfl Tryd.func15 (by kernel_rfl) rfl #[.agg #[.int .i64 a0_0, .slice A0_1 l0_1.length c0_1], .int .i64 1048576] rfl lz ?_; (with_reducible refine (laws_szAlphabet.calls a0_0 _ _ l0_1 1048576 t781 _ ?side1 ?side2 A8.out).mono ?_); (case side1 => have q_ := Aside0.mk (Kd.C_below HR0_1.out HB.out); exact cQ q_); (case side2 => exact HC0_1.out); rintro e w24 ⟨rfl, hb⟩; refine ⟨_, rfl, ?_⟩; replace BK780 := bb BK780 hb; replace HB := Aside0.mk (below_step (beQ HB) hb); (try clear hb); (try clear hb2); (try clear hk); (try clear hi); have hcz25_0 : w24.cell? ⟨gb780, 0, none⟩ = some (.int .i64 a0_0) := bc BK780 0; have hcz25_1 : w24.cell? ⟨gb780, 1, none⟩ = some (.slice A0_1 l0_1.length c0_1) := bc BK780 1; have hfz25_0 := blk_frozen BK780.out 0; have hfz25_1 := blk_frozen BK780.out 1) | ((with_reducible refine gate_callee (f := 17) rfl ?_); refine goesL_ (some 28) rfl rfl Tryd.func17 (by kernel_rfl) rfl #[.agg #[.int .i64 a0_0, .slice A0_1 l0_1.length c0_1]] rfl lz ?_; (with_reducible refine (laws_toAlphabet.calls k a0_0 _ _ l0_1 t782 t783 _ ?side1 ?side2 A13.out).mono ?_); (case side1 => have q_ := Aside0.mk (Kd.C_below HR0_1.out HB.out); exact cQ q_); (case side2 => exact HC0_1.out); rintro e w26 ⟨v784, rfl, ho0, hb⟩; refine ⟨_, rfl, ?_⟩; have HO785 := Aside0.mk (Kd.R_lower ho0 (below_size (beQ HB))); replace BK780 := bb BK780 hb; replace HB := Aside0.mk (below_step (beQ HB) hb); (try clear hb); (try clear hb2); (try clear hk); (try clear hi); (try clear ho0)) | ((with_reducible refine gate_callee (f := 18) rfl ?_); refine goesL_ (some 30) rfl rfl Tryd.func18 (by kernel_rfl) rfl #[.slice A1 l1.length c1] rfl lz ?_; (with_reducible refine (laws_toInt64S.calls k _ _ l1 t786 _ ?side1 ?side2 A14.out).mono ?_); (case side1 => have q_ := Aside0.mk (Kd.C_below HR1.out HB.out); exact cQ q_); (case side2 => exact HC1.out); rintro e w27 ⟨v787, rfl, ho0, hb⟩; refine ⟨_, rfl, ?_⟩; have HO788 := Aside0.mk (Kd.R_lower (Kd.R_new' ho0 (Kd.R_lt (kdQ HO785))) (below_size (beQ HB))); replace HO785 := Aside0.mk (Kd.R_elder' (kdQ HO785) (Kd.R_base ho0) hb); replace BK780 := bb BK780 hb; replace HB := Aside0.mk (below_step (beQ HB) hb); (try clear hb); (try clear hb2); (try clear hk); (try clear hi); (try clear ho0)) | ((with_reducible refine gate_callee (f := 18) rfl ?_); refine goesL_ (some 32) rfl rfl Tryd.func18 (by kernel_rfl) rfl #[.slice A2 l2.length c2] rfl lz ?_; (with_reducible refine (laws_toInt64S.calls k _ _ l2 t789 _ ?side1 ?side2 A15.out).mono ?_); (case side1 => have q_ := Aside0.mk (Kd.C_below HR2.out HB.out); exact cQ q_); (case side2 => exact HC2.out); rintro e w28 ⟨v790, rfl, ho0, hb⟩; refine ⟨_, rfl, ?_⟩; have HO791 := Aside0.mk (Kd.R_lower (Kd.R_new' (Kd.R_new' ho0 (Kd.R_lt (kdQ HO785))) (Kd.R_lt (kdQ HO788))) (below_size (beQ HB))); replace HO785 := Aside0.mk (Kd.R_elder' (kdQ HO785) (Kd.R_base ho0) hb); replace HO788 := Aside0.mk (Kd.R_elder' (kdQ HO788) (Kd.R_base ho0) hb); replace BK780 := bb BK780 hb; replace HB := Aside0.mk (below_step (beQ HB) hb); (try clear hb); (try clear hb2); (try clear hk); (try clear hi); (try clear ho0); obtain ⟨Ao29, co29, eo29⟩ := Kd.R_slice HO785.out; subst eo29; obtain ⟨Ao30, co30, eo30⟩ := Kd.R_slice HO788.out; subst eo30; obtain ⟨Ao31, co31, eo31⟩ := Kd.R_slice HO791.out; subst eo31) | ((with_reducible refine gate_callee (f := 38) rfl ?_); refine goesL_ (some 33) rfl rfl Tryd.func38 (by kernel_rfl) rfl #[.agg #[.int .i64 t782, .slice Ao29 t783.length co29], .slice Ao30 t786.length co30, .slice Ao31 t789.length co31] rfl lz ?_; (with_reducible refine (spec_AreSameTrace.calls k t782 _ _ t783 _ _ t786 _ _ t789 t792 t793 _ ?side1 ?side2 ?side3 ?side4 ?side5 ?side6 A16.out).mono ?_); (case side1 => have q_ := Aside0.mk (Kd.R_reads' HO785.out).2.2; exact cQ q_); (case side2 => exact (Kd.R_reads' HO785.out).2.1); (case side3 => have q_ := Aside0.mk (Kd.R_reads' HO788.out).2.2; exact cQ q_); (case side4 => exact (Kd.R_reads' HO788.out).2.1); (case side5 => have q_ := Aside0.mk (Kd.R_reads' HO791.out).2.2; exact cQ q_); (case side6 => exact (Kd.R_reads' HO791.out).2.1); rintro e w32 ⟨rfl, hb⟩; refine ⟨_, rfl, ?_⟩; replace HO785 := kb HO785 hb; replace HO788 := kb HO788 hb; replace HO791 := kb HO791 hb; replace BK780 := bb BK780 hb; replace HB := Aside0.mk (below_step (beQ HB) hb); (try clear hb); (try clear hb2); (try clear hk); (try clear hi); have hcz33_0 : w32.cell? ⟨gb780, 0, none⟩ = some (.int .i64 a0_0) := bc BK780 0; have hcz33_1 : w32.cell? ⟨gb780, 1, none⟩ = some (.slice A0_1 l0_1.length c0_1) := bc BK780 1; have hfz33_0 := blk_frozen BK780.out 0; have hfz33_1 := blk_frozen BK780.out 1) | ((with_reducible refine gate_callee (f := 17) rfl ?_); refine goesL_ (some 37) rfl rfl Tryd.func17 (by kernel_rfl) rfl #[.agg #[.int .i64 a0_0, .slice A0_1 l0_1.length c0_1]] rfl lz ?_; (with_reducible refine (laws_toAlphabet.calls k a0_0 _ _ l0_1 t794 t795 _ ?side1 ?side2 A17.out).mono ?_); (case side1 => have q_ := Aside0.mk (Kd.C_below HR0_1.out HB.out); exact cQ q_); (case side2 => exact HC0_1.out); rintro e w34 ⟨v796, rfl, ho0, hb⟩; refine ⟨_, rfl, ?_⟩; have HO797 := Aside0.mk (Kd.R_lower (Kd.R_new' (Kd.R_new' (Kd.R_new' ho0 (Kd.R_lt (kdQ HO785))) (Kd.R_lt (kdQ HO788))) (Kd.R_lt (kdQ HO791))) (below_size (beQ HB))); replace HO785 := Aside0.mk (Kd.R_elder' (kdQ HO785) (Kd.R_base ho0) hb); replace HO788 := Aside0.mk (Kd.R_elder' (kdQ HO788) (Kd.R_base ho0) hb); replace HO791 := Aside0.mk (Kd.R_elder' (kdQ HO791) (Kd.R_base ho0) hb); replace BK780 := bb BK780 hb; replace HB := Aside0.mk (below_step (beQ HB) hb); (try clear hb); (try clear hb2); (try clear hk); (try clear hi); (try clear ho0)) | ((with_reducible refine gate_dst (N := 10) rfl ?_); refine box_event ?hg (N := 10) ?hd (cs := #[.int .i64 0, .slice none 0 0]) (t := 28) ?hr ?_; (case hd => rfl); (case hg => rfl); (case hr => first | (go_simp; done) | (go_simp; rfl)); intro gb798 hg w35 hbox hb; replace HO785 := kb HO785 hb; replace HO788 := kb HO788 hb; replace HO791 := kb HO791 hb; replace HO797 := kb HO797 hb; have BK798 := Aside0.mk (hbox); have GW798 := Aside0.mk ((by rw [hg]; exact (below_size (beQ HB)) : w.heap.size ≤ gb798)); have GE798 := Aside0.mk ((by rw [hg]; exact (below_size (beQ HB)) : w.heap.size ≤ gb798)); replace HB := Aside0.mk (below_step (beQ HB) hb); have NB780_798 := Aside0.mk ((by rw [hg]; exact Nat.ne_of_lt (blk_lt (blkQ BK780)) : gb780 ≠ gb798)); have NB798_780 := Aside0.mk ((by rw [hg]; exact Nat.ne_of_gt (blk_lt (blkQ BK780)) : gb798 ≠ gb780)); replace BK780 := bb BK780 hb; clear hb hbox hg; have hnb36 := NB798_780.out; have hnc36 := NB780_798.out; have hcz37_0 : w35.cell? ⟨gb798, 0, none⟩ = some (.int .i64 0) := bc BK798 0; have hcz37_1 : w35.cell? ⟨gb798, 1, none⟩ = some (.slice none 0 0) := bc BK798 1; have hfz37_0 := blk_frozen BK798.out 0; have hfz37_1 := blk_frozen BK798.out 1; obtain ⟨Ao38, co38, eo38⟩ := Kd.R_slice HO797.out; subst eo38) | ((with_reducible refine gate_callee (f := 18) rfl ?_); refine goesL_ (some 39) rfl rfl Tryd.func18 (by kernel_rfl) rfl #[.slice A1 l1.length c1] rfl lz ?_; (with_reducible refine (laws_toInt64S.calls k _ _ l1 t799 _ ?side1 ?side2 A18.out).mono ?_); (case side1 => exact Kd.C_below HR1.out (beQ HB)); (case side2 => exact HC1.out); rintro e w39 ⟨v800, rfl, ho0, hb⟩; refine ⟨_, rfl, ?_⟩; have HO801 := Aside0.mk (Kd.R_lower (Kd.R_new' (Kd.R_new' (Kd.R_new' (Kd.R_new' ho0 (Kd.R_lt (by (with_reducible repeat (first | apply Kd.R_alloc | apply Kd.R_drewN | apply Kd.R_drew)); exact (Kd.R_mono (Kd.R_far (p := ⟨gb798, 1, none⟩) (Kd.R_far (p := ⟨gb798, 0, none⟩) (Kd.R_types HO785.out BK798.out (by decide)) (fun _ hk => hk.2) (.int .i64 t794)) (fun _ hk => hk.2) (.slice Ao38 t795.length co38)) (fun _ h_ => h_.1))))) (Kd.R_lt (by (with_reducible repeat (first | apply Kd.R_alloc | apply Kd.R_drewN | apply Kd.R_drew)); exact (Kd.R_mono (Kd.R_far (p := ⟨gb798, 1, none⟩) (Kd.R_far (p := ⟨gb798, 0, none⟩) (Kd.R_types HO788.out BK798.out (by decide)) (fun _ hk => hk.2) (.int .i64 t794)) (fun _ hk => hk.2) (.slice Ao38 t795.length co38)) (fun _ h_ => h_.1))))) (Kd.R_lt (by (with_reducible repeat (first | apply Kd.R_alloc | apply Kd.R_drewN | apply Kd.R_drew)); exact (Kd.R_mono (Kd.R_far (p := ⟨gb798, 1, none⟩) (Kd.R_far (p := ⟨gb798, 0, none⟩) (Kd.R_types HO791.out BK798.out (by decide)) (fun _ hk => hk.2) (.int .i64 t794)) (fun _ hk => hk.2) (.slice Ao38 t795.length co38)) (fun _ h_ => h_.1))))) (Kd.R_lt (by (with_reducible repeat (first | apply Kd.R_alloc | apply Kd.R_drewN | apply Kd.R_drew)); exact (Kd.R_mono (Kd.R_far (p := ⟨gb798, 1, none⟩) (Kd.R_far (p := ⟨gb798, 0, none⟩) (Kd.R_types HO797.out BK798.out (by decide)) (fun _ hk => hk.2) (.int .i64 t794)) (fun _ hk => hk.2) (.slice Ao38 t795.length co38)) (fun _ h_ => h_.1))))) (below_size (beQ HB))); replace HO785 := Aside0.mk (Kd.R_elder' (by (with_reducible repeat (first | apply Kd.R_alloc | apply Kd.R_drewN | apply Kd.R_drew)); exact (Kd.R_mono (Kd.R_far (p := ⟨gb798, 1, none⟩) (Kd.R_far (p := ⟨gb798, 0, none⟩) (Kd.R_types HO785.out BK798.out (by decide)) (fun _ hk => hk.2) (.int .i64 t794)) (fun _ hk => hk.2) (.slice Ao38 t795.length co38)) (fun _ h_ => h_.1))) (Kd.R_base ho0) hb); replace HO788 := Aside0.mk (Kd.R_elder' (by (with_reducible repeat (first | apply Kd.R_alloc | apply Kd.R_drewN | apply Kd.R_drew)); exact (Kd.R_mono (Kd.R_far (p := ⟨gb798, 1, none⟩) (Kd.R_far (p := ⟨gb798, 0, none⟩) (Kd.R_types HO788.out BK798.out (by decide)) (fun _ hk => hk.2) (.int .i64 t794)) (fun _ hk => hk.2) (.slice Ao38 t795.length co38)) (fun _ h_ => h_.1))) (Kd.R_base ho0) hb); replace HO791 := Aside0.mk (Kd.R_elder' (by (with_reducible repeat (first | apply Kd.R_alloc | apply Kd.R_drewN | apply Kd.R_drew)); exact (Kd.R_mono (Kd.R_far (p := ⟨gb798, 1, none⟩) (Kd.R_far (p := ⟨gb798, 0, none⟩) (Kd.R_types HO791.out BK798.out (by decide)) (fun _ hk => hk.2) (.int .i64 t794)) (fun _ hk => hk.2) (.slice Ao38 t795.length co38)) (fun _ h_ => h_.1))) (Kd.R_base ho0) hb); replace HO797 := Aside0.mk (Kd.R_elder' (by (with_reducible repeat (first | apply Kd.R_alloc | apply Kd.R_drewN | apply Kd.R_drew)); exact (Kd.R_mono (Kd.R_far (p := ⟨gb798, 1, none⟩) (Kd.R_far (p := ⟨gb798, 0, none⟩) (Kd.R_types HO797.out BK798.out (by decide)) (fun _ hk => hk.2) (.int .i64 t794)) (fun _ hk => hk.2) (.slice Ao38 t795.length co38)) (fun _ h_ => h_.1))) (Kd.R_base ho0) hb); replace BK780 := Aside0.mk (blk_below (blkF BK780) hb); replace BK798 := Aside0.mk (blk_below (g := gb798) (o := .cells #[.int .i64 t794, .slice Ao38 t795.length co38] 28 (0, 0)) (by (with_reducible repeat (first | refine blk_drewN ?_ _ | refine blk_drew ?_ | refine blk_alloc ?_ _)); refine blk_put (cs := #[.int .i64 t794, .slice none 0 0]) ?_ 1 _ rfl; (with_reducible repeat (first | refine blk_drewN ?_ _ | refine blk_drew ?_ | refine blk_alloc ?_ _)); refine blk_put (cs := #[.int .i64 0, .slice none 0 0]) ?_ 0 _ rfl; (with_reducible repeat (first | refine blk_drewN ?_ _ | refine blk_drew ?_ | refine blk_alloc ?_ _)); exact BK798.out) hb); replace HB := Aside0.mk (below_step (beQ HB) hb); (try clear hb); (try clear hb2); (try clear hk); (try clear hi); (try clear ho0)) | ((with_reducible refine gate_callee (f := 18) rfl ?_); refine goesL_ (some 41) rfl rfl Tryd.func18 (by kernel_rfl) rfl #[.slice A2 l2.length c2] rfl lz ?_; (with_reducible refine (laws_toInt64S.calls k _ _ l2 t802 _ ?side1 ?side2 A19.out).mono ?_); (case side1 => have q_ := Aside0.mk (Kd.C_below HR2.out HB.out); exact cQ q_); (case side2 => exact HC2.out); rintro e w40 ⟨v803, rfl, ho0, hb⟩; refine ⟨_, rfl, ?_⟩; have HO804 := Aside0.mk (Kd.R_lower (Kd.R_new' (Kd.R_new' (Kd.R_new' (Kd.R_new' (Kd.R_new' ho0 (Kd.R_lt (kdQ HO785))) (Kd.R_lt (kdQ HO788))) (Kd.R_lt (kdQ HO791))) (Kd.R_lt (kdQ HO797))) (Kd.R_lt (kdQ HO801))) (below_size (beQ HB))); replace HO785 := Aside0.mk (Kd.R_elder' (kdQ HO785) (Kd.R_base ho0) hb); replace HO788 := Aside0.mk (Kd.R_elder' (kdQ HO788) (Kd.R_base ho0) hb); replace HO791 := Aside0.mk (Kd.R_elder' (kdQ HO791) (Kd.R_base ho0) hb); replace HO797 := Aside0.mk (Kd.R_elder' (kdQ HO797) (Kd.R_base ho0) hb); replace HO801 := Aside0.mk (Kd.R_elder' (kdQ HO801) (Kd.R_base ho0) hb); replace BK780 := bb BK780 hb; replace BK798 := bb BK798 hb; replace HB := Aside0.mk (below_step (beQ HB) hb); (try clear hb); (try clear hb2); (try clear hk); (try clear hi); (try clear ho0); have hcz41_0 : w40.cell? ⟨gb798, 0, none⟩ = some (.int .i64 t794) := bc BK798 0; have hcz41_1 : w40.cell? ⟨gb798, 1, none⟩ = some (.slice Ao38 t795.length co38) := bc BK798 1; have hfz41_0 := blk_frozen BK798.out 0; have hfz41_1 := blk_frozen BK798.out 1; obtain ⟨Ao42, co42, eo42⟩ := Kd.R_slice HO801.out; subst eo42; obtain ⟨Ao43, co43, eo43⟩ := Kd.R_slice HO804.out; subst eo43) | ((with_reducible refine gate_callee (f := 39) rfl ?_); refine goesL_ (some 46) rfl rfl Tryd.func39 (by kernel_rfl) rfl #[.agg #[.int .i64 t794, .slice Ao38 t795.length co38], .slice Ao42 t799.length co42, .slice Ao43 t802.length co43] rfl lz ?_; (with_reducible refine (impl_AreSameTrace.calls k t794 _ _ t795 (fun k_ => some k_ = (.slice Ao42 t799.length co42 : Value).ownBlock) _ _ t799 (fun k_ => some k_ = (.slice Ao43 t802.length co43 : Value).ownBlock) _ _ t802 t805 t806 _ ?side1 ?side2 ?side3 ?side4 ?side5 A20.out).mono ?_); (case side1 => have q_ := Aside0.mk (Kd.R_reads' HO797.out).2.2; exact cQ q_); (case side2 => exact (Kd.R_reads' HO797.out).2.1); (case side3 => exact Kd.R_V (Kd.R_tight rfl (Kd.R_types (Kd.R_types (HO801.out) BK780.out (by decide)) BK798.out (by decide)))); (case side4 => exact Kd.R_V (Kd.R_tight rfl (Kd.R_types (Kd.R_types (HO804.out) BK780.out (by decide)) BK798.out (by decide)))); (case side5 => exact TabW.below HT.out (beQ HB)); rintro e w44 ⟨rfl, hb⟩; refine ⟨_, rfl, ?_⟩; replace HO785 := kb HO785 hb; replace HO788 := kb HO788 hb; replace HO791 := kb HO791 hb; replace HO797 := kb HO797 hb; replace HO801 := kb HO801 hb; replace HO804 := kb HO804 hb; replace BK780 := bb BK780 hb; replace BK798 := bb BK798 hb; replace HB := Aside0.mk (below_step (beQ HB) hb); (try clear hb); (try clear hb2); (try clear hk); (try clear hi)))
    (try simp only [Act.put, List.setIfInBounds_toArray, List.set_cons_zero, List.set_cons_succ])
    go_cut [56] (fun v56 wc => ∃ (kq : Nat) (x56_20 : Bool), v56 = .bool x56_20 ∧ Aside0 (laws_FnExactAreSameTrace.j0 kq l1 l2 t799 t802 x56_20 a0_0 l0_1 t794 t795 = some r) ∧ Aside0 (kq ≤ k) ∧ Aside0 (Kd.R (Kd.int .i64) 2 wc w.heap.size (fun k_ => some k_ ≠ ((.slice Ao43 t802.length co43) : Value).ownBlock ∧ some k_ ≠ ((.slice Ao38 t795.length co38) : Value).ownBlock) (.slice Ao42 t799.length co42) t799) ∧ Aside0 (Kd.R (Kd.int .i64) 2 wc w.heap.size (fun k_ => some k_ ≠ ((.slice Ao42 t799.length co42) : Value).ownBlock ∧ some k_ ≠ ((.slice Ao38 t795.length co38) : Value).ownBlock) (.slice Ao43 t802.length co43) t802) ∧ Aside0 (Kd.R (Kd.int .i64) 2 wc w.heap.size (fun k_ => some k_ ≠ ((.slice Ao42 t799.length co42) : Value).ownBlock ∧ some k_ ≠ ((.slice Ao43 t802.length co43) : Value).ownBlock) (.slice Ao38 t795.length co38) t795) ∧ Aside0 (wc.heap[gb780]? = some (.cells #[.int .i64 a0_0, (.slice A0_1 l0_1.length c0_1)] 24 (0, 0))) ∧ Aside0 (wc.heap[gb798]? = some (.cells #[.int .i64 t794, (.slice Ao38 t795.length co38)] 28 (0, 0))) ∧ Aside0 (Below w.heap.size w wc))
    case first =>
     have H := HC21.out; clear HC21
     by_cases c45 : (t805 != t792) = true
     ·rw [if_pos c45] at H
      have c45b0 : (t805 != t792) = true := c45
      (try (have c45b1 : decide (t805 = t792) = false := by simpa using c45))
      (try (have c45b2 : (t805 == t792) = false := by simpa using c45))
      (try (have c45b3 : ¬ (t805 = t792) := by simpa using c45))
      clear c45
      (first | rw [c45b0] | (simp only [i64_w, i32_w]; rw [c45b0]) | skip)
      have H' := Aside0.mk H
      clear H
      go_wp2
      go_meet
      case rel => exact ⟨_, (true), sz, H', ⟨by first | omega | exact Nat.le_refl _⟩, ⟨by (with_reducible repeat (first | apply Kd.R_alloc | apply Kd.R_drewN | apply Kd.R_drew)); exact Kd.R_mono HO801.out (fun _ hk => ⟨hk.2, hk.1.2⟩)⟩, ⟨by (with_reducible repeat (first | apply Kd.R_alloc | apply Kd.R_drewN | apply Kd.R_drew)); exact Kd.R_mono HO804.out (fun _ hk => ⟨hk.2, hk.1.2⟩)⟩, ⟨by (with_reducible repeat (first | apply Kd.R_alloc | apply Kd.R_drewN | apply Kd.R_drew)); exact Kd.R_mono HO797.out (fun _ hk => ⟨hk.1.2, hk.2⟩)⟩, ⟨blkQ BK780⟩, ⟨blkQ BK798⟩, ⟨beQ HB⟩⟩
     ·rw [if_neg c45] at H
      have c45b0 : (t805 != t792) = false := by simpa using c45
      (try (have c45b1 : decide (t805 = t792) = true := by simpa using c45))
      (try (have c45b2 : (t805 == t792) = true := by simpa using c45))
      clear c45
      (first | rw [c45b0] | (simp only [i64_w, i32_w]; rw [c45b0]) | skip)
      have H' := Aside0.mk H
      clear H
      go_wp2
      go_meet
      case rel => exact ⟨_, ((t806 != t793)), sz, H', ⟨by first | omega | exact Nat.le_refl _⟩, ⟨by (with_reducible repeat (first | apply Kd.R_alloc | apply Kd.R_drewN | apply Kd.R_drew)); exact Kd.R_mono HO801.out (fun _ hk => ⟨hk.2, hk.1.2⟩)⟩, ⟨by (with_reducible repeat (first | apply Kd.R_alloc | apply Kd.R_drewN | apply Kd.R_drew)); exact Kd.R_mono HO804.out (fun _ hk => ⟨hk.2, hk.1.2⟩)⟩, ⟨by (with_reducible repeat (first | apply Kd.R_alloc | apply Kd.R_drewN | apply Kd.R_drew)); exact Kd.R_mono HO797.out (fun _ hk => ⟨hk.1.2, hk.2⟩)⟩, ⟨blkQ BK780⟩, ⟨blkQ BK798⟩, ⟨beQ HB⟩⟩
    case rest =>
     clear HC21
     try clear c1
     try clear c2
     try clear p2
     try clear c3
     try clear c4
     try clear c4b0
     try clear c4b1
     try clear c6
     try clear c6b0
     try clear c6b1
     try clear c9
     try clear c9b0
     try clear c15
     try clear c17
     try clear c18
     try clear c36
     try clear c38
     try clear c39
     try clear c45
     try clear c45b0
     try clear c45b1
     try clear c45b2
     try clear hcz11_0
     try clear hcz11_1
     try clear hcz23_0
     try clear hcz23_1
     try clear hcz25_0
     try clear hcz25_1
     try clear hcz33_0
     try clear hcz33_1
     try clear hcz37_0
     try clear hcz37_1
     try clear hcz41_0
     try clear hcz41_1
     try clear hfz11_0
     try clear hfz11_1
     try clear hfz23_0
     try clear hfz23_1
     try clear hfz25_0
     try clear hfz25_1
     try clear hfz33_0
     try clear hfz33_1
     try clear hfz37_0
     try clear hfz37_1
     try clear hfz41_0
     try clear hfz41_1
     obtain ⟨kq, x56_20, rfl, HA, HJ20, HO_11, HO_12, HO_799001, BK780, BK798, HB⟩ := hcut
     cases kq with
     | zero => exact absurd HA.out (by simp [laws_FnExactAreSameTrace.j0])
     | succ kj20 =>
      have H := HA.out; clear HA
      simp only [laws_FnExactAreSameTrace.j0] at H
      by_cases c46 : x56_20 = true
      ·subst c46
       have H1 : (some false) = some r := by rw [if_pos rfl] at H; exact H
       clear H; have H := H1; clear H1
       obtain rfl := Option.some.inj H
       go_wp2
       go_ret
       exact ⟨rz, beQ HB⟩
      ·replace c46 := Bool.eq_false_iff.mpr c46
       subst c46
       have H1 : ((laws_toAlphabet.f kj20 a0_0 l0_1).bind fun bt807 => ((laws_eqAlphabet.f kj20 t794 t795 bt807.1 bt807.2).bind fun t811 => (if t811 = true then ((laws_toInt64S.f kj20 l1).bind fun t812 => ((laws_eqInt64S.f kj20 t799 t812).bind fun t815 => (if t815 = true then ((laws_toInt64S.f kj20 l2).bind fun t816 => ((laws_eqInt64S.f kj20 t802 t816).bind fun t819 => (if t819 = true then (some true) else (some false)))) else (some false)))) else (some false)))) = some r := by rw [if_neg (show ¬ (false = true) by decide)] at H; exact H
       clear H; have H := H1; clear H1; replace H := Option.bind_eq_some_iff.mp H
       obtain ⟨⟨t807, t808⟩, A470, H⟩ := H
       replace H : ((laws_eqAlphabet.f kj20 t794 t795 t807 t808).bind fun t811 => (if t811 = true then ((laws_toInt64S.f kj20 l1).bind fun t812 => ((laws_eqInt64S.f kj20 t799 t812).bind fun t815 => (if t815 = true then ((laws_toInt64S.f kj20 l2).bind fun t816 => ((laws_eqInt64S.f kj20 t802 t816).bind fun t819 => (if t819 = true then (some true) else (some false)))) else (some false)))) else (some false))) = some r := H
       have A47 := Aside0.mk A470; clear A470; replace H := Option.bind_eq_some_iff.mp H; obtain ⟨t811, A480, H⟩ := H
       replace H : (if t811 = true then ((laws_toInt64S.f kj20 l1).bind fun t812 => ((laws_eqInt64S.f kj20 t799 t812).bind fun t815 => (if t815 = true then ((laws_toInt64S.f kj20 l2).bind fun t816 => ((laws_eqInt64S.f kj20 t802 t816).bind fun t819 => (if t819 = true then (some true) else (some false)))) else (some false)))) else (some false)) = some r := H
       have A48 := Aside0.mk A480; clear A480
       by_cases c49 : t811 = true
       ·subst c49
        have H1 : ((laws_toInt64S.f kj20 l1).bind fun t812 => ((laws_eqInt64S.f kj20 t799 t812).bind fun t815 => (if t815 = true then ((laws_toInt64S.f kj20 l2).bind fun t816 => ((laws_eqInt64S.f kj20 t802 t816).bind fun t819 => (if t819 = true then (some true) else (some false)))) else (some false)))) = some r := by rw [if_pos rfl] at H; exact H
        clear H; have H := H1; clear H1; replace H := Option.bind_eq_some_iff.mp H; obtain ⟨t812, A500, H⟩ := H
        replace H : ((laws_eqInt64S.f kj20 t799 t812).bind fun t815 => (if t815 = true then ((laws_toInt64S.f kj20 l2).bind fun t816 => ((laws_eqInt64S.f kj20 t802 t816).bind fun t819 => (if t819 = true then (some true) else (some false)))) else (some false))) = some r := H
        have A50 := Aside0.mk A500; clear A500; replace H := Option.bind_eq_some_iff.mp H; obtain ⟨t815, A510, H⟩ := H
        replace H : (if t815 = true then ((laws_toInt64S.f kj20 l2).bind fun t816 => ((laws_eqInt64S.f kj20 t802 t816).bind fun t819 => (if t819 = true then (some true) else (some false)))) else (some false)) = some r := H
        have A51 := Aside0.mk A510; clear A510
        by_cases c52 : t815 = true
        ·subst c52
         have H1 : ((laws_toInt64S.f kj20 l2).bind fun t816 => ((laws_eqInt64S.f kj20 t802 t816).bind fun t819 => (if t819 = true then (some true) else (some false)))) = some r := by rw [if_pos rfl] at H; exact H
         clear H; have H := H1; clear H1; replace H := Option.bind_eq_some_iff.mp H; obtain ⟨t816, A530, H⟩ := H
         replace H : ((laws_eqInt64S.f kj20 t802 t816).bind fun t819 => (if t819 = true then (some true) else (some false))) = some r := H
         have A53 := Aside0.mk A530; clear A530; replace H := Option.bind_eq_some_iff.mp H; obtain ⟨t819, A540, H⟩ := H
         replace H : (if t819 = true then (some true) else (some false)) = some r := H
         have A54 := Aside0.mk A540; clear A540
         by_cases c55 : t819 = true
         ·subst c55
          have H1 : (some true) = some r := by rw [if_pos rfl] at H; exact H
          clear H; have H := H1; clear H1
          obtain rfl := Option.some.inj H
          try go_wp2
          replace HO_11 := Aside0.mk (Kd.R_drew HO_11.out); replace HO_12 := Aside0.mk (Kd.R_drew HO_12.out); replace HO_799001 := Aside0.mk (Kd.R_drew HO_799001.out); replace BK780 := Aside0.mk (blk_drew BK780.out); replace BK798 := Aside0.mk (blk_drew BK798.out); replace HB := Aside0.mk (below_drew1 HB.out)
          refine start_ (n := 5) (S := fun w' => w'.cell? ⟨gb798, 0, none⟩ = some (.int .i64 t794) ∧ w'.cell? ⟨gb798, 1, none⟩ = some (.slice Ao38 t795.length co38) ∧ w'.cell? ⟨gb780, 0, none⟩ = some (.int .i64 a0_0) ∧ w'.cell? ⟨gb780, 1, none⟩ = some (.slice A0_1 l0_1.length c0_1)) (ds := []) #[false, false, false, false, false] (by kernel_rfl) rfl rfl ⟨bc BK798 0, bc BK798 1, bc BK780 0, bc BK780 1⟩ (fun hHeld => ?_)
          generalize wc.drew = w56 at HO_11 HO_12 HO_799001 BK780 BK798 HB hHeld ⊢
          refine take_ (i := 0) (N := some 57) (v := ?_) (a' := ?_) #[true, false, false, false, false] rfl rfl (by kernel_rfl) (fun _ _ _ h => h) (Or.inl ⟨by rfl, ?_⟩) hHeld ?_ ?_
          rotate_left
          ·rintro w' ⟨s0, s1, s2, s3⟩
           go_simp
           with_reducible rfl
          rotate_left
          ·simp only [Act.put, s1, s2, s3, i64_w, i32_w]
           rfl
          refine take_ (i := 1) (N := some 58) (v := ?_) (a' := ?_) #[true, true, false, false, false] rfl rfl (by kernel_rfl) (fun _ _ _ h => h) (Or.inl ⟨by rfl, ?_⟩) hHeld ?_ ?_
          rotate_left
          ·rintro w' ⟨s0, s1, s2, s3⟩
           go_simp
           with_reducible rfl
          rotate_left
          ·simp only [Act.put, s1, s2, s3, i64_w, i32_w]
           rfl
          refine one_ (i := 2) (N := some 59) #[true, true, true, false, false] rfl rfl (by kernel_rfl) (by decide) (fun K hK => ?_)
          refine goes_ Tryd.func17 (by kernel_rfl) rfl #[.agg #[.int .i64 a0_0, .slice A0_1 l0_1.length c0_1]] (by rfl) rfl rfl lz ?_
          with_reducible refine (laws_toAlphabet.calls kj20 a0_0 _ _ l0_1 t807 t808 _ ?side1 ?side2 A47.out).mono ?_
          (case side1 => have q_ := Aside0.mk (Kd.C_below HR0_1.out HB.out); exact cQ q_)
          (case side2 => exact HC0_1.out)
          rintro e w57 ⟨v809, rfl, ho0, hb⟩
          refine ⟨_, rfl, ?_⟩
          have HO810 := Aside0.mk (Kd.R_lower (Kd.R_new' (Kd.R_new' (Kd.R_new' ho0 (Kd.R_lt (kdQ HO_11))) (Kd.R_lt (kdQ HO_12))) (Kd.R_lt (kdQ HO_799001))) (below_size (beQ HB))); replace HO_11 := Aside0.mk (Kd.R_elder' (kdQ HO_11) (Kd.R_base ho0) hb); replace HO_12 := Aside0.mk (Kd.R_elder' (kdQ HO_12) (Kd.R_base ho0) hb); replace HO_799001 := Aside0.mk (Kd.R_elder' (kdQ HO_799001) (Kd.R_base ho0) hb); replace BK780 := bb BK780 hb; replace BK798 := bb BK798 hb; replace HB := Aside0.mk (below_step (beQ HB) hb)
          (try clear hb)
          (try clear hb2)
          (try clear hk)
          (try clear hi)
          (try clear ho0)
          obtain ⟨Ao58, co58, eo58⟩ := Kd.R_slice HO810.out
          (first | subst eo58 | (injection eo58 with f1_ f2_ f3_; have f4_ := f1_.symm; have f5_ := f3_.symm; clear f1_ f2_ f3_; subst f4_; subst f5_))
          refine hK.out _ _ ⟨bc BK798 0, bc BK798 1, bc BK780 0, bc BK780 1⟩ (fun hHeld => ?_)
          clear hK K
          refine norm_ (a' := ?_) ?_ ?_
          rotate_left
          ·show Act.put _ (some 59) _ = _
           simp only [Act.put, s1, s2, s3, i64_w, i32_w]
           rfl
          refine one_ (i := 3) (N := some 60) #[true, true, true, true, false] rfl rfl (by kernel_rfl) (by decide) (fun K hK => ?_)
          refine goes_ Tryd.func20 (by kernel_rfl) rfl #[.agg #[.int .i64 t794, .slice Ao38 t795.length co38], .agg #[.int .i64 t807, .slice Ao58 t808.length co58]] (by rfl) rfl rfl lz ?_
          with_reducible refine (laws_eqAlphabet.calls kj20 t794 _ _ t795 t807 _ _ t808 true _ ?side1 ?side2 ?side3 ?side4 A48.out).mono ?_
          (case side1 => have q_ := Aside0.mk (Kd.R_reads' HO_799001.out).2.2; exact cQ q_)
          (case side2 => exact (Kd.R_reads' HO_799001.out).2.1)
          (case side3 => have q_ := Aside0.mk (Kd.R_reads' HO810.out).2.2; exact cQ q_)
          (case side4 => exact (Kd.R_reads' HO810.out).2.1)
          rintro e w59 ⟨rfl, hb⟩
          refine ⟨_, rfl, ?_⟩
          replace HO_11 := kb HO_11 hb; replace HO_12 := kb HO_12 hb; replace HO_799001 := kb HO_799001 hb; replace HO810 := kb HO810 hb; replace BK780 := bb BK780 hb; replace BK798 := bb BK798 hb; replace HB := Aside0.mk (below_step (beQ HB) hb)
          (try clear hb)
          (try clear hb2)
          (try clear hk)
          (try clear hi)
          refine hK.out _ _ ⟨bc BK798 0, bc BK798 1, bc BK780 0, bc BK780 1⟩ (fun hHeld => ?_)
          clear hK K
          refine norm_ (a' := ?_) ?_ ?_
          rotate_left
          ·show Act.put _ (some 60) _ = _
           simp only [Act.put, s1, s2, s3, i64_w, i32_w]
           rfl
          refine pure_ (i := 4) (N := some 61) (v := ?_) (a' := ?_) #[true, true, true, true, true] rfl rfl (by kernel_rfl) (fun _ _ _ h => h) (Or.inl ⟨by rfl, ?_⟩) ?_ ?_
          rotate_left
          ·intro w'
           go_simp
           with_reducible rfl
          rotate_left
          ·simp only [Act.put, s1, s2, s3, i64_w, i32_w]
           rfl
          refine done_ (by kernel_rfl) ?_
          try go_wp2_with (first | ((with_reducible refine gate_callee (f := 18) rfl ?_); refine goesL_ (some 64) rfl rfl Tryd.func18 (by kernel_rfl) rfl #[.slice A1 l1.length c1] rfl lz ?_; (with_reducible refine (laws_toInt64S.calls kj20 _ _ l1 t812 _ ?side1 ?side2 A50.out).mono ?_); (case side1 => have q_ := Aside0.mk (Kd.C_below HR1.out HB.out); exact cQ q_); (case side2 => exact HC1.out); rintro e w60 ⟨v813, rfl, ho0, hb⟩; refine ⟨_, rfl, ?_⟩; have HO814 := Aside0.mk (Kd.R_lower (Kd.R_new' (Kd.R_new' (Kd.R_new' (Kd.R_new' ho0 (Kd.R_lt (kdQ HO_11))) (Kd.R_lt (kdQ HO_12))) (Kd.R_lt (kdQ HO_799001))) (Kd.R_lt (kdQ HO810))) (below_size (beQ HB))); replace HO_11 := Aside0.mk (Kd.R_elder' (kdQ HO_11) (Kd.R_base ho0) hb); replace HO_12 := Aside0.mk (Kd.R_elder' (kdQ HO_12) (Kd.R_base ho0) hb); replace HO_799001 := Aside0.mk (Kd.R_elder' (kdQ HO_799001) (Kd.R_base ho0) hb); replace HO810 := Aside0.mk (Kd.R_elder' (kdQ HO810) (Kd.R_base ho0) hb); replace BK780 := bb BK780 hb; replace BK798 := bb BK798 hb; replace HB := Aside0.mk (below_step (beQ HB) hb); (try clear hb); (try clear hb2); (try clear hk); (try clear hi); (try clear ho0); obtain ⟨Ao61, co61, eo61⟩ := Kd.R_slice HO814.out; subst eo61) | ((with_reducible refine gate_callee (f := 21) rfl ?_); refine goesL_ (some 65) rfl rfl Tryd.func21 (by kernel_rfl) rfl #[.slice Ao42 t799.length co42, .slice Ao61 t812.length co61] rfl lz ?_; (with_reducible refine (laws_eqInt64S.calls kj20 _ _ t799 _ _ t812 true _ ?side1 ?side2 ?side3 ?side4 A51.out).mono ?_); (case side1 => have q_ := Aside0.mk (Kd.R_reads' HO_11.out).2.2; exact cQ q_); (case side2 => exact (Kd.R_reads' HO_11.out).2.1); (case side3 => have q_ := Aside0.mk (Kd.R_reads' HO814.out).2.2; exact cQ q_); (case side4 => exact (Kd.R_reads' HO814.out).2.1); rintro e w' ⟨rfl, ⟨nd, rfl⟩⟩; refine ⟨_, rfl, ?_⟩) | ((with_reducible refine gate_callee (f := 18) rfl ?_); refine goesL_ (some 69) rfl rfl Tryd.func18 (by kernel_rfl) rfl #[.slice A2 l2.length c2] rfl lz ?_; (with_reducible refine (laws_toInt64S.calls kj20 _ _ l2 t816 _ ?side1 ?side2 A53.out).mono ?_); (case side1 => have q_ := Aside0.mk (Kd.C_below HR2.out (beQ HB)); exact cQ q_); (case side2 => exact HC2.out); rintro e w62 ⟨v817, rfl, ho0, hb⟩; refine ⟨_, rfl, ?_⟩; have HO818 := Aside0.mk (Kd.R_lower (Kd.R_new' (Kd.R_new' (Kd.R_new' (Kd.R_new' (Kd.R_new' ho0 (Kd.R_lt (kdQ HO_11))) (Kd.R_lt (kdQ HO_12))) (Kd.R_lt (kdQ HO_799001))) (Kd.R_lt (kdQ HO810))) (Kd.R_lt (kdQ HO814))) (below_size (beQ HB))); replace HO_11 := Aside0.mk (Kd.R_elder' (kdQ HO_11) (Kd.R_base ho0) hb); replace HO_12 := Aside0.mk (Kd.R_elder' (kdQ HO_12) (Kd.R_base ho0) hb); replace HO_799001 := Aside0.mk (Kd.R_elder' (kdQ HO_799001) (Kd.R_base ho0) hb); replace HO810 := Aside0.mk (Kd.R_elder' (kdQ HO810) (Kd.R_base ho0) hb); replace HO814 := Aside0.mk (Kd.R_elder' (kdQ HO814) (Kd.R_base ho0) hb); replace BK780 := bb BK780 hb; replace BK798 := bb BK798 hb; replace HB := Aside0.mk (below_step (beQ HB) hb); (try clear hb); (try clear hb2); (try clear hk); (try clear hi); (try clear ho0); obtain ⟨Ao63, co63, eo63⟩ := Kd.R_slice HO818.out; subst eo63) | ((with_reducible refine gate_callee (f := 21) rfl ?_); refine goesL_ (some 70) rfl rfl Tryd.func21 (by kernel_rfl) rfl #[.slice Ao43 t802.length co43, .slice Ao63 t816.length co63] rfl lz ?_; (with_reducible refine (laws_eqInt64S.calls kj20 _ _ t802 _ _ t816 true _ ?side1 ?side2 ?side3 ?side4 A54.out).mono ?_); (case side1 => have q_ := Aside0.mk (Kd.R_reads' HO_12.out).2.2; exact cQ q_); (case side2 => exact (Kd.R_reads' HO_12.out).2.1); (case side3 => have q_ := Aside0.mk (Kd.R_reads' HO818.out).2.2; exact cQ q_); (case side4 => exact (Kd.R_reads' HO818.out).2.1); rintro e w' ⟨rfl, ⟨nd, rfl⟩⟩; refine ⟨_, rfl, ?_⟩))
          go_ret
          exact ⟨rz, beQ HB⟩
         ·replace c55 := Bool.eq_false_iff.mpr c55
          subst c55
          have H1 : (some false) = some r := by rw [if_neg (show ¬ (false = true) by decide)] at H; exact H
          clear H; have H := H1; clear H1
          obtain rfl := Option.some.inj H
          try go_wp2
          replace HO_11 := Aside0.mk (Kd.R_drew HO_11.out); replace HO_12 := Aside0.mk (Kd.R_drew HO_12.out); replace HO_799001 := Aside0.mk (Kd.R_drew HO_799001.out); replace BK780 := Aside0.mk (blk_drew BK780.out); replace BK798 := Aside0.mk (blk_drew BK798.out); replace HB := Aside0.mk (below_drew1 HB.out)
          refine start_ (n := 5) (S := fun w' => w'.cell? ⟨gb798, 0, none⟩ = some (.int .i64 t794) ∧ w'.cell? ⟨gb798, 1, none⟩ = some (.slice Ao38 t795.length co38) ∧ w'.cell? ⟨gb780, 0, none⟩ = some (.int .i64 a0_0) ∧ w'.cell? ⟨gb780, 1, none⟩ = some (.slice A0_1 l0_1.length c0_1)) (ds := []) #[false, false, false, false, false] (by kernel_rfl) rfl rfl ⟨bc BK798 0, bc BK798 1, bc BK780 0, bc BK780 1⟩ (fun hHeld => ?_)
          generalize wc.drew = w64 at HO_11 HO_12 HO_799001 BK780 BK798 HB hHeld ⊢
          refine take_ (i := 0) (N := some 57) (v := ?_) (a' := ?_) #[true, false, false, false, false] rfl rfl (by kernel_rfl) (fun _ _ _ h => h) (Or.inl ⟨by rfl, ?_⟩) hHeld ?_ ?_
          rotate_left
          ·rintro w' ⟨s0, s1, s2, s3⟩
           go_simp
           with_reducible rfl
          rotate_left
          ·simp only [Act.put, s1, s2, s3, i64_w, i32_w]
           rfl
          refine take_ (i := 1) (N := some 58) (v := ?_) (a' := ?_) #[true, true, false, false, false] rfl rfl (by kernel_rfl) (fun _ _ _ h => h) (Or.inl ⟨by rfl, ?_⟩) hHeld ?_ ?_
          rotate_left
          ·rintro w' ⟨s0, s1, s2, s3⟩
           go_simp
           with_reducible rfl
          rotate_left
          ·simp only [Act.put, s1, s2, s3, i64_w, i32_w]
           rfl
          refine one_ (i := 2) (N := some 59) #[true, true, true, false, false] rfl rfl (by kernel_rfl) (by decide) (fun K hK => ?_)
          refine goes_ Tryd.func17 (by kernel_rfl) rfl #[.agg #[.int .i64 a0_0, .slice A0_1 l0_1.length c0_1]] (by rfl) rfl rfl lz ?_
          with_reducible refine (laws_toAlphabet.calls kj20 a0_0 _ _ l0_1 t807 t808 _ ?side1 ?side2 A47.out).mono ?_
          (case side1 => have q_ := Aside0.mk (Kd.C_below HR0_1.out HB.out); exact cQ q_)
          (case side2 => exact HC0_1.out)
          rintro e w65 ⟨v809, rfl, ho0, hb⟩
          refine ⟨_, rfl, ?_⟩
          have HO810 := Aside0.mk (Kd.R_lower (Kd.R_new' (Kd.R_new' (Kd.R_new' ho0 (Kd.R_lt (kdQ HO_11))) (Kd.R_lt (kdQ HO_12))) (Kd.R_lt (kdQ HO_799001))) (below_size (beQ HB))); replace HO_11 := Aside0.mk (Kd.R_elder' (kdQ HO_11) (Kd.R_base ho0) hb); replace HO_12 := Aside0.mk (Kd.R_elder' (kdQ HO_12) (Kd.R_base ho0) hb); replace HO_799001 := Aside0.mk (Kd.R_elder' (kdQ HO_799001) (Kd.R_base ho0) hb); replace BK780 := bb BK780 hb; replace BK798 := bb BK798 hb; replace HB := Aside0.mk (below_step (beQ HB) hb)
          (try clear hb)
          (try clear hb2)
          (try clear hk)
          (try clear hi)
          (try clear ho0)
          obtain ⟨Ao66, co66, eo66⟩ := Kd.R_slice HO810.out
          (first | subst eo66 | (injection eo66 with f1_ f2_ f3_; have f4_ := f1_.symm; have f5_ := f3_.symm; clear f1_ f2_ f3_; subst f4_; subst f5_))
          refine hK.out _ _ ⟨bc BK798 0, bc BK798 1, bc BK780 0, bc BK780 1⟩ (fun hHeld => ?_)
          clear hK K
          refine norm_ (a' := ?_) ?_ ?_
          rotate_left
          ·show Act.put _ (some 59) _ = _
           simp only [Act.put, s1, s2, s3, i64_w, i32_w]
           rfl
          refine one_ (i := 3) (N := some 60) #[true, true, true, true, false] rfl rfl (by kernel_rfl) (by decide) (fun K hK => ?_)
          refine goes_ Tryd.func20 (by kernel_rfl) rfl #[.agg #[.int .i64 t794, .slice Ao38 t795.length co38], .agg #[.int .i64 t807, .slice Ao66 t808.length co66]] (by rfl) rfl rfl lz ?_
          with_reducible refine (laws_eqAlphabet.calls kj20 t794 _ _ t795 t807 _ _ t808 true _ ?side1 ?side2 ?side3 ?side4 A48.out).mono ?_
          (case side1 => have q_ := Aside0.mk (Kd.R_reads' HO_799001.out).2.2; exact cQ q_)
          (case side2 => exact (Kd.R_reads' HO_799001.out).2.1)
          (case side3 => have q_ := Aside0.mk (Kd.R_reads' HO810.out).2.2; exact cQ q_)
          (case side4 => exact (Kd.R_reads' HO810.out).2.1)
          rintro e w67 ⟨rfl, hb⟩
          refine ⟨_, rfl, ?_⟩
          replace HO_11 := kb HO_11 hb; replace HO_12 := kb HO_12 hb; replace HO_799001 := kb HO_799001 hb; replace HO810 := kb HO810 hb; replace BK780 := bb BK780 hb; replace BK798 := bb BK798 hb; replace HB := Aside0.mk (below_step (beQ HB) hb)
          (try clear hb)
          (try clear hb2)
          (try clear hk)
          (try clear hi)
          refine hK.out _ _ ⟨bc BK798 0, bc BK798 1, bc BK780 0, bc BK780 1⟩ (fun hHeld => ?_)
          clear hK K
          refine norm_ (a' := ?_) ?_ ?_
          rotate_left
          ·show Act.put _ (some 60) _ = _
           simp only [Act.put, s1, s2, s3, i64_w, i32_w]
           rfl
          refine pure_ (i := 4) (N := some 61) (v := ?_) (a' := ?_) #[true, true, true, true, true] rfl rfl (by kernel_rfl) (fun _ _ _ h => h) (Or.inl ⟨by rfl, ?_⟩) ?_ ?_
          rotate_left
          ·intro w'
           go_simp
           with_reducible rfl
          rotate_left
          ·simp only [Act.put, s1, s2, s3, i64_w, i32_w]
           rfl
          refine done_ (by kernel_rfl) ?_
          try go_wp2_with (first | ((with_reducible refine gate_callee (f := 18) rfl ?_); refine goesL_ (some 64) rfl rfl Tryd.func18 (by kernel_rfl) rfl #[.slice A1 l1.length c1] rfl lz ?_; (with_reducible refine (laws_toInt64S.calls kj20 _ _ l1 t812 _ ?side1 ?side2 A50.out).mono ?_); (case side1 => have q_ := Aside0.mk (Kd.C_below HR1.out HB.out); exact cQ q_); (case side2 => exact HC1.out); rintro e w68 ⟨v813, rfl, ho0, hb⟩; refine ⟨_, rfl, ?_⟩; have HO814 := Aside0.mk (Kd.R_lower (Kd.R_new' (Kd.R_new' (Kd.R_new' (Kd.R_new' ho0 (Kd.R_lt (kdQ HO_11))) (Kd.R_lt (kdQ HO_12))) (Kd.R_lt (kdQ HO_799001))) (Kd.R_lt (kdQ HO810))) (below_size (beQ HB))); replace HO_11 := Aside0.mk (Kd.R_elder' (kdQ HO_11) (Kd.R_base ho0) hb); replace HO_12 := Aside0.mk (Kd.R_elder' (kdQ HO_12) (Kd.R_base ho0) hb); replace HO_799001 := Aside0.mk (Kd.R_elder' (kdQ HO_799001) (Kd.R_base ho0) hb); replace HO810 := Aside0.mk (Kd.R_elder' (kdQ HO810) (Kd.R_base ho0) hb); replace BK780 := bb BK780 hb; replace BK798 := bb BK798 hb; replace HB := Aside0.mk (below_step (beQ HB) hb); (try clear hb); (try clear hb2); (try clear hk); (try clear hi); (try clear ho0); obtain ⟨Ao69, co69, eo69⟩ := Kd.R_slice HO814.out; subst eo69) | ((with_reducible refine gate_callee (f := 21) rfl ?_); refine goesL_ (some 65) rfl rfl Tryd.func21 (by kernel_rfl) rfl #[.slice Ao42 t799.length co42, .slice Ao69 t812.length co69] rfl lz ?_; (with_reducible refine (laws_eqInt64S.calls kj20 _ _ t799 _ _ t812 true _ ?side1 ?side2 ?side3 ?side4 A51.out).mono ?_); (case side1 => have q_ := Aside0.mk (Kd.R_reads' HO_11.out).2.2; exact cQ q_); (case side2 => exact (Kd.R_reads' HO_11.out).2.1); (case side3 => have q_ := Aside0.mk (Kd.R_reads' HO814.out).2.2; exact cQ q_); (case side4 => exact (Kd.R_reads' HO814.out).2.1); rintro e w' ⟨rfl, ⟨nd, rfl⟩⟩; refine ⟨_, rfl, ?_⟩) | ((with_reducible refine gate_callee (f := 18) rfl ?_); refine goesL_ (some 69) rfl rfl Tryd.func18 (by kernel_rfl) rfl #[.slice A2 l2.length c2] rfl lz ?_; (with_reducible refine (laws_toInt64S.calls kj20 _ _ l2 t816 _ ?side1 ?side2 A53.out).mono ?_); (case side1 => have q_ := Aside0.mk (Kd.C_below HR2.out (beQ HB)); exact cQ q_); (case side2 => exact HC2.out); rintro e w70 ⟨v817, rfl, ho0, hb⟩; refine ⟨_, rfl, ?_⟩; have HO818 := Aside0.mk (Kd.R_lower (Kd.R_new' (Kd.R_new' (Kd.R_new' (Kd.R_new' (Kd.R_new' ho0 (Kd.R_lt (kdQ HO_11))) (Kd.R_lt (kdQ HO_12))) (Kd.R_lt (kdQ HO_799001))) (Kd.R_lt (kdQ HO810))) (Kd.R_lt (kdQ HO814))) (below_size (beQ HB))); replace HO_11 := Aside0.mk (Kd.R_elder' (kdQ HO_11) (Kd.R_base ho0) hb); replace HO_12 := Aside0.mk (Kd.R_elder' (kdQ HO_12) (Kd.R_base ho0) hb); replace HO_799001 := Aside0.mk (Kd.R_elder' (kdQ HO_799001) (Kd.R_base ho0) hb); replace HO810 := Aside0.mk (Kd.R_elder' (kdQ HO810) (Kd.R_base ho0) hb); replace HO814 := Aside0.mk (Kd.R_elder' (kdQ HO814) (Kd.R_base ho0) hb); replace BK780 := bb BK780 hb; replace BK798 := bb BK798 hb; replace HB := Aside0.mk (below_step (beQ HB) hb); (try clear hb); (try clear hb2); (try clear hk); (try clear hi); (try clear ho0); obtain ⟨Ao71, co71, eo71⟩ := Kd.R_slice HO818.out; subst eo71) | ((with_reducible refine gate_callee (f := 21) rfl ?_); refine goesL_ (some 70) rfl rfl Tryd.func21 (by kernel_rfl) rfl #[.slice Ao43 t802.length co43, .slice Ao71 t816.length co71] rfl lz ?_; (with_reducible refine (laws_eqInt64S.calls kj20 _ _ t802 _ _ t816 false _ ?side1 ?side2 ?side3 ?side4 A54.out).mono ?_); (case side1 => have q_ := Aside0.mk (Kd.R_reads' HO_12.out).2.2; exact cQ q_); (case side2 => exact (Kd.R_reads' HO_12.out).2.1); (case side3 => have q_ := Aside0.mk (Kd.R_reads' HO818.out).2.2; exact cQ q_); (case side4 => exact (Kd.R_reads' HO818.out).2.1); rintro e w' ⟨rfl, ⟨nd, rfl⟩⟩; refine ⟨_, rfl, ?_⟩))
          go_ret
          exact ⟨rz, beQ HB⟩
        ·replace c52 := Bool.eq_false_iff.mpr c52
         subst c52
         have H1 : (some false) = some r := by rw [if_neg (show ¬ (false = true) by decide)] at H; exact H
         clear H; have H := H1; clear H1
         obtain rfl := Option.some.inj H
         try go_wp2
         replace HO_11 := Aside0.mk (Kd.R_drew HO_11.out); replace HO_12 := Aside0.mk (Kd.R_drew HO_12.out); replace HO_799001 := Aside0.mk (Kd.R_drew HO_799001.out); replace BK780 := Aside0.mk (blk_drew BK780.out); replace BK798 := Aside0.mk (blk_drew BK798.out); replace HB := Aside0.mk (below_drew1 HB.out)
         refine start_ (n := 5) (S := fun w' => w'.cell? ⟨gb798, 0, none⟩ = some (.int .i64 t794) ∧ w'.cell? ⟨gb798, 1, none⟩ = some (.slice Ao38 t795.length co38) ∧ w'.cell? ⟨gb780, 0, none⟩ = some (.int .i64 a0_0) ∧ w'.cell? ⟨gb780, 1, none⟩ = some (.slice A0_1 l0_1.length c0_1)) (ds := []) #[false, false, false, false, false] (by kernel_rfl) rfl rfl ⟨bc BK798 0, bc BK798 1, bc BK780 0, bc BK780 1⟩ (fun hHeld => ?_)
         generalize wc.drew = w72 at HO_11 HO_12 HO_799001 BK780 BK798 HB hHeld ⊢
         refine take_ (i := 0) (N := some 57) (v := ?_) (a' := ?_) #[true, false, false, false, false] rfl rfl (by kernel_rfl) (fun _ _ _ h => h) (Or.inl ⟨by rfl, ?_⟩) hHeld ?_ ?_
         rotate_left
         ·rintro w' ⟨s0, s1, s2, s3⟩
          go_simp
          with_reducible rfl
         rotate_left
         ·simp only [Act.put, s1, s2, s3, i64_w, i32_w]
          rfl
         refine take_ (i := 1) (N := some 58) (v := ?_) (a' := ?_) #[true, true, false, false, false] rfl rfl (by kernel_rfl) (fun _ _ _ h => h) (Or.inl ⟨by rfl, ?_⟩) hHeld ?_ ?_
         rotate_left
         ·rintro w' ⟨s0, s1, s2, s3⟩
          go_simp
          with_reducible rfl
         rotate_left
         ·simp only [Act.put, s1, s2, s3, i64_w, i32_w]
          rfl
         refine one_ (i := 2) (N := some 59) #[true, true, true, false, false] rfl rfl (by kernel_rfl) (by decide) (fun K hK => ?_)
         refine goes_ Tryd.func17 (by kernel_rfl) rfl #[.agg #[.int .i64 a0_0, .slice A0_1 l0_1.length c0_1]] (by rfl) rfl rfl lz ?_
         with_reducible refine (laws_toAlphabet.calls kj20 a0_0 _ _ l0_1 t807 t808 _ ?side1 ?side2 A47.out).mono ?_
         (case side1 => have q_ := Aside0.mk (Kd.C_below HR0_1.out HB.out); exact cQ q_)
         (case side2 => exact HC0_1.out)
         rintro e w73 ⟨v809, rfl, ho0, hb⟩
         refine ⟨_, rfl, ?_⟩
         have HO810 := Aside0.mk (Kd.R_lower (Kd.R_new' (Kd.R_new' (Kd.R_new' ho0 (Kd.R_lt (kdQ HO_11))) (Kd.R_lt (kdQ HO_12))) (Kd.R_lt (kdQ HO_799001))) (below_size (beQ HB))); replace HO_11 := Aside0.mk (Kd.R_elder' (kdQ HO_11) (Kd.R_base ho0) hb); replace HO_12 := Aside0.mk (Kd.R_elder' (kdQ HO_12) (Kd.R_base ho0) hb); replace HO_799001 := Aside0.mk (Kd.R_elder' (kdQ HO_799001) (Kd.R_base ho0) hb); replace BK780 := bb BK780 hb; replace BK798 := bb BK798 hb; replace HB := Aside0.mk (below_step (beQ HB) hb)
         (try clear hb)
         (try clear hb2)
         (try clear hk)
         (try clear hi)
         (try clear ho0)
         obtain ⟨Ao74, co74, eo74⟩ := Kd.R_slice HO810.out
         (first | subst eo74 | (injection eo74 with f1_ f2_ f3_; have f4_ := f1_.symm; have f5_ := f3_.symm; clear f1_ f2_ f3_; subst f4_; subst f5_))
         refine hK.out _ _ ⟨bc BK798 0, bc BK798 1, bc BK780 0, bc BK780 1⟩ (fun hHeld => ?_)
         clear hK K
         refine norm_ (a' := ?_) ?_ ?_
         rotate_left
         ·show Act.put _ (some 59) _ = _
          simp only [Act.put, s1, s2, s3, i64_w, i32_w]
          rfl
         refine one_ (i := 3) (N := some 60) #[true, true, true, true, false] rfl rfl (by kernel_rfl) (by decide) (fun K hK => ?_)
         refine goes_ Tryd.func20 (by kernel_rfl) rfl #[.agg #[.int .i64 t794, .slice Ao38 t795.length co38], .agg #[.int .i64 t807, .slice Ao74 t808.length co74]] (by rfl) rfl rfl lz ?_
         with_reducible refine (laws_eqAlphabet.calls kj20 t794 _ _ t795 t807 _ _ t808 true _ ?side1 ?side2 ?side3 ?side4 A48.out).mono ?_
         (case side1 => have q_ := Aside0.mk (Kd.R_reads' HO_799001.out).2.2; exact cQ q_)
         (case side2 => exact (Kd.R_reads' HO_799001.out).2.1)
         (case side3 => have q_ := Aside0.mk (Kd.R_reads' HO810.out).2.2; exact cQ q_)
         (case side4 => exact (Kd.R_reads' HO810.out).2.1)
         rintro e w75 ⟨rfl, hb⟩
         refine ⟨_, rfl, ?_⟩
         replace HO_11 := kb HO_11 hb; replace HO_12 := kb HO_12 hb; replace HO_799001 := kb HO_799001 hb; replace HO810 := kb HO810 hb; replace BK780 := bb BK780 hb; replace BK798 := bb BK798 hb; replace HB := Aside0.mk (below_step (beQ HB) hb)
         (try clear hb)
         (try clear hb2)
         (try clear hk)
         (try clear hi)
         refine hK.out _ _ ⟨bc BK798 0, bc BK798 1, bc BK780 0, bc BK780 1⟩ (fun hHeld => ?_)
         clear hK K
         refine norm_ (a' := ?_) ?_ ?_
         rotate_left
         ·show Act.put _ (some 60) _ = _
          simp only [Act.put, s1, s2, s3, i64_w, i32_w]
          rfl
         refine pure_ (i := 4) (N := some 61) (v := ?_) (a' := ?_) #[true, true, true, true, true] rfl rfl (by kernel_rfl) (fun _ _ _ h => h) (Or.inl ⟨by rfl, ?_⟩) ?_ ?_
         rotate_left
         ·intro w'
          go_simp
          with_reducible rfl
         rotate_left
         ·simp only [Act.put, s1, s2, s3, i64_w, i32_w]
          rfl
         refine done_ (by kernel_rfl) ?_
         try go_wp2_with (first | ((with_reducible refine gate_callee (f := 18) rfl ?_); refine goesL_ (some 64) rfl rfl Tryd.func18 (by kernel_rfl) rfl #[.slice A1 l1.length c1] rfl lz ?_; (with_reducible refine (laws_toInt64S.calls kj20 _ _ l1 t812 _ ?side1 ?side2 A50.out).mono ?_); (case side1 => have q_ := Aside0.mk (Kd.C_below HR1.out HB.out); exact cQ q_); (case side2 => exact HC1.out); rintro e w76 ⟨v813, rfl, ho0, hb⟩; refine ⟨_, rfl, ?_⟩; have HO814 := Aside0.mk (Kd.R_lower (Kd.R_new' (Kd.R_new' (Kd.R_new' (Kd.R_new' ho0 (Kd.R_lt (kdQ HO_11))) (Kd.R_lt (kdQ HO_12))) (Kd.R_lt (kdQ HO_799001))) (Kd.R_lt (kdQ HO810))) (below_size (beQ HB))); replace HO_11 := Aside0.mk (Kd.R_elder' (kdQ HO_11) (Kd.R_base ho0) hb); replace HO_12 := Aside0.mk (Kd.R_elder' (kdQ HO_12) (Kd.R_base ho0) hb); replace HO_799001 := Aside0.mk (Kd.R_elder' (kdQ HO_799001) (Kd.R_base ho0) hb); replace HO810 := Aside0.mk (Kd.R_elder' (kdQ HO810) (Kd.R_base ho0) hb); replace BK780 := bb BK780 hb; replace BK798 := bb BK798 hb; replace HB := Aside0.mk (below_step (beQ HB) hb); (try clear hb); (try clear hb2); (try clear hk); (try clear hi); (try clear ho0); obtain ⟨Ao77, co77, eo77⟩ := Kd.R_slice HO814.out; subst eo77) | ((with_reducible refine gate_callee (f := 21) rfl ?_); refine goesL_ (some 65) rfl rfl Tryd.func21 (by kernel_rfl) rfl #[.slice Ao42 t799.length co42, .slice Ao77 t812.length co77] rfl lz ?_; (with_reducible refine (laws_eqInt64S.calls kj20 _ _ t799 _ _ t812 false _ ?side1 ?side2 ?side3 ?side4 A51.out).mono ?_); (case side1 => have q_ := Aside0.mk (Kd.R_reads' HO_11.out).2.2; exact cQ q_); (case side2 => exact (Kd.R_reads' HO_11.out).2.1); (case side3 => have q_ := Aside0.mk (Kd.R_reads' HO814.out).2.2; exact cQ q_); (case side4 => exact (Kd.R_reads' HO814.out).2.1); rintro e w' ⟨rfl, ⟨nd, rfl⟩⟩; refine ⟨_, rfl, ?_⟩))
         go_ret
         exact ⟨rz, beQ HB⟩
       ·replace c49 := Bool.eq_false_iff.mpr c49
        subst c49
        have H1 : (some false) = some r := by rw [if_neg (show ¬ (false = true) by decide)] at H; exact H
        clear H; have H := H1; clear H1
        obtain rfl := Option.some.inj H
        try go_wp2
        replace HO_11 := Aside0.mk (Kd.R_drew HO_11.out); replace HO_12 := Aside0.mk (Kd.R_drew HO_12.out); replace HO_799001 := Aside0.mk (Kd.R_drew HO_799001.out); replace BK780 := Aside0.mk (blk_drew BK780.out); replace BK798 := Aside0.mk (blk_drew BK798.out); replace HB := Aside0.mk (below_drew1 HB.out)
        refine start_ (n := 5) (S := fun w' => w'.cell? ⟨gb798, 0, none⟩ = some (.int .i64 t794) ∧ w'.cell? ⟨gb798, 1, none⟩ = some (.slice Ao38 t795.length co38) ∧ w'.cell? ⟨gb780, 0, none⟩ = some (.int .i64 a0_0) ∧ w'.cell? ⟨gb780, 1, none⟩ = some (.slice A0_1 l0_1.length c0_1)) (ds := []) #[false, false, false, false, false] (by kernel_rfl) rfl rfl ⟨bc BK798 0, bc BK798 1, bc BK780 0, bc BK780 1⟩ (fun hHeld => ?_)
        generalize wc.drew = w78 at HO_11 HO_12 HO_799001 BK780 BK798 HB hHeld ⊢
        refine take_ (i := 0) (N := some 57) (v := ?_) (a' := ?_) #[true, false, false, false, false] rfl rfl (by kernel_rfl) (fun _ _ _ h => h) (Or.inl ⟨by rfl, ?_⟩) hHeld ?_ ?_
        rotate_left
        ·rintro w' ⟨s0, s1, s2, s3⟩
         go_simp
         with_reducible rfl
        rotate_left
        ·simp only [Act.put, s1, s2, s3, i64_w, i32_w]
         rfl
        refine take_ (i := 1) (N := some 58) (v := ?_) (a' := ?_) #[true, true, false, false, false] rfl rfl (by kernel_rfl) (fun _ _ _ h => h) (Or.inl ⟨by rfl, ?_⟩) hHeld ?_ ?_
        rotate_left
        ·rintro w' ⟨s0, s1, s2, s3⟩
         go_simp
         with_reducible rfl
        rotate_left
        ·simp only [Act.put, s1, s2, s3, i64_w, i32_w]
         rfl
        refine one_ (i := 2) (N := some 59) #[true, true, true, false, false] rfl rfl (by kernel_rfl) (by decide) (fun K hK => ?_)
        refine goes_ Tryd.func17 (by kernel_rfl) rfl #[.agg #[.int .i64 a0_0, .slice A0_1 l0_1.length c0_1]] (by rfl) rfl rfl lz ?_
        with_reducible refine (laws_toAlphabet.calls kj20 a0_0 _ _ l0_1 t807 t808 _ ?side1 ?side2 A47.out).mono ?_
        (case side1 => have q_ := Aside0.mk (Kd.C_below HR0_1.out HB.out); exact cQ q_)
        (case side2 => exact HC0_1.out)
        rintro e w79 ⟨v809, rfl, ho0, hb⟩
        refine ⟨_, rfl, ?_⟩
        have HO810 := Aside0.mk (Kd.R_lower (Kd.R_new' (Kd.R_new' (Kd.R_new' ho0 (Kd.R_lt (kdQ HO_11))) (Kd.R_lt (kdQ HO_12))) (Kd.R_lt (kdQ HO_799001))) (below_size (beQ HB))); replace HO_11 := Aside0.mk (Kd.R_elder' (kdQ HO_11) (Kd.R_base ho0) hb); replace HO_12 := Aside0.mk (Kd.R_elder' (kdQ HO_12) (Kd.R_base ho0) hb); replace HO_799001 := Aside0.mk (Kd.R_elder' (kdQ HO_799001) (Kd.R_base ho0) hb); replace BK780 := bb BK780 hb; replace BK798 := bb BK798 hb; replace HB := Aside0.mk (below_step (beQ HB) hb)
        (try clear hb)
        (try clear hb2)
        (try clear hk)
        (try clear hi)
        (try clear ho0)
        obtain ⟨Ao80, co80, eo80⟩ := Kd.R_slice HO810.out
        (first | subst eo80 | (injection eo80 with f1_ f2_ f3_; have f4_ := f1_.symm; have f5_ := f3_.symm; clear f1_ f2_ f3_; subst f4_; subst f5_))
        refine hK.out _ _ ⟨bc BK798 0, bc BK798 1, bc BK780 0, bc BK780 1⟩ (fun hHeld => ?_)
        clear hK K
        refine norm_ (a' := ?_) ?_ ?_
        rotate_left
        ·show Act.put _ (some 59) _ = _
         simp only [Act.put, s1, s2, s3, i64_w, i32_w]
         rfl
        refine one_ (i := 3) (N := some 60) #[true, true, true, true, false] rfl rfl (by kernel_rfl) (by decide) (fun K hK => ?_)
        refine goes_ Tryd.func20 (by kernel_rfl) rfl #[.agg #[.int .i64 t794, .slice Ao38 t795.length co38], .agg #[.int .i64 t807, .slice Ao80 t808.length co80]] (by rfl) rfl rfl lz ?_
        with_reducible refine (laws_eqAlphabet.calls kj20 t794 _ _ t795 t807 _ _ t808 false _ ?side1 ?side2 ?side3 ?side4 A48.out).mono ?_
        (case side1 => have q_ := Aside0.mk (Kd.R_reads' HO_799001.out).2.2; exact cQ q_)
        (case side2 => exact (Kd.R_reads' HO_799001.out).2.1)
        (case side3 => have q_ := Aside0.mk (Kd.R_reads' HO810.out).2.2; exact cQ q_)
        (case side4 => exact (Kd.R_reads' HO810.out).2.1)
        rintro e w81 ⟨rfl, hb⟩
        refine ⟨_, rfl, ?_⟩
        replace HO_11 := kb HO_11 hb; replace HO_12 := kb HO_12 hb; replace HO_799001 := kb HO_799001 hb; replace HO810 := kb HO810 hb; replace BK780 := bb BK780 hb; replace BK798 := bb BK798 hb; replace HB := Aside0.mk (below_step (beQ HB) hb)
        (try clear hb)
        (try clear hb2)
        (try clear hk)
        (try clear hi)
        refine hK.out _ _ ⟨bc BK798 0, bc BK798 1, bc BK780 0, bc BK780 1⟩ (fun hHeld => ?_)
        clear hK K
        refine norm_ (a' := ?_) ?_ ?_
        rotate_left
        ·show Act.put _ (some 60) _ = _
         simp only [Act.put, s1, s2, s3, i64_w, i32_w]
         rfl
        refine pure_ (i := 4) (N := some 61) (v := ?_) (a' := ?_) #[true, true, true, true, true] rfl rfl (by kernel_rfl) (fun _ _ _ h => h) (Or.inl ⟨by rfl, ?_⟩) ?_ ?_
        rotate_left
        ·intro w'
         go_simp
         with_reducible rfl
        rotate_left
        ·simp only [Act.put, s1, s2, s3, i64_w, i32_w]
         rfl
        refine done_ (by kernel_rfl) ?_
        try go_wp2
        go_ret
        exact ⟨rz, beQ HB⟩

end Go.Proofs.YtlpodkpnoopnnaaDoor.G
