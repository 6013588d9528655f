/- How the program's functions compute, function by function: each is told by a plain Lean function of the same answers, under the condition that this one answers. Written by a program of this project over the seat's translation; Lean checks it. -/
import Derived.Test.YtdbdlhjhacbjoaaDoorG0
import Derived.Test.YtdbdlhjhacbjoaaDoorGQ11
import Derived.Test.YtdbdlhjhacbjoaaDoorGQ13
import Derived.Test.YtdbdlhjhacbjoaaDoorGQ15
import Derived.Test.YtdbdlhjhacbjoaaDoorGQ19a
import Derived.Test.YtdbdlhjhacbjoaaDoorGQ23a
import Derived.Test.YtdbdlhjhacbjoaaDoorGQ23b
namespace Go.Proofs.YtdbdlhjhacbjoaaDoor.G
open Go.RowKit Go.Proofs.YtdbdlhjhacbjoaaDoorW.PrintWords Go.Proofs.YtdbdlhjhacbjoaaDoorW.PrintLast Go.Proofs.YtdbdlhjhacbjoaaDoorW.PrintMore
attribute [local go_sem] max2_int min2_int max_two min_two max_three min_three max_four min_four   -- for this text's walks alone
set_option linter.unusedVariables false
set_option linter.unusedSimpArgs false

/-! ### laws_FnExactPartOfAlphabet: function 9 -/
mutual
def laws_FnExactPartOfAlphabet.j0 : Nat → Int → Int → Int → Bool → Int → List Int → Int → List Int → Int → List Int → Int → List Int → Option (Bool)
 | 0, _, _, _, _, _, _, _, _, _, _, _, _ => none
 | k + 1, x1, x7, x10, x44, x634000, x634001, x645000, x645001, x650000, x650001, x656000, x656001 => if x44 = true then (some false) else ((laws_toAlphabet.f k x634000 x634001).bind fun bt657 => ((laws_eqAlphabet.f k x650000 x650001 bt657.1 bt657.2).bind fun t661 => (if t661 = true then ((laws_markAlphabet.f k x650000 x650001 1).bind fun bt662 => (if bt662.1 < 0 then (laws_FnExactPartOfAlphabet.j1 k x1 x7 true x634000 x634001 x645000 x645001 x656000 x656001) else ((laws_eqAlphabet.f k x656000 x656001 x645000 x645001).bind fun t664 => (if t664 = true then (laws_FnExactPartOfAlphabet.j1 k x1 x7 (x10 != x7) x634000 x634001 x645000 x645001 x656000 x656001) else (laws_FnExactPartOfAlphabet.j1 k x1 x7 true x634000 x634001 x645000 x645001 x656000 x656001))))) else (some false))))
def laws_FnExactPartOfAlphabet.j1 : Nat → Int → Int → Bool → Int → List Int → Int → List Int → Int → List Int → Option (Bool)
 | 0, _, _, _, _, _, _, _, _, _ => none
 | k + 1, x1, x7, x65, x634000, x634001, x645000, x645001, x656000, x656001 => if x65 = true then (some false) else ((laws_markAlphabet.f k x656000 x656001 1).bind fun bt665 => ((laws_heldAlphabet.f k x656000 bt665.2 1).bind fun t667 => (if t667 < 0 then (some false) else (if t667 = bt665.1 then ((laws_toAlphabet.f k x634000 x634001).bind fun bt668 => ((impl_PartOfAlphabet.f k bt668.1 bt668.2 x1).bind fun bt672 => ((laws_eqAlphabet.f k bt672.1 bt672.2.1 x645000 x645001).bind fun t678 => (if t678 = true then (laws_FnExactPartOfAlphabet.j2 k bt665.1 (bt672.2.2 != x7) x656000 bt665.2) else (laws_FnExactPartOfAlphabet.j2 k bt665.1 true x656000 bt665.2))))) else (some false)))))
def laws_FnExactPartOfAlphabet.j2 : Nat → Int → Bool → Int → List Int → Option (Bool)
 | 0, _, _, _, _ => none
 | k + 1, x12, x92, x656000, x656001 => if x92 = true then (some false) else ((laws_heldAlphabet.f k x656000 x656001 1).bind fun t679 => (if t679 < 0 then (some false) else (if t679 = x12 then (some true) else (some false))))
end
def laws_FnExactPartOfAlphabet.f (k : Nat) (a0_0 : Int) (l0_1 : List Int) (a1 : Int) : Option (Bool) := (laws_szAlphabet.f a0_0 l0_1 1048576).bind fun t634 => (if t634 < 0 then (some true) else ((laws_toAlphabet.f k a0_0 l0_1).bind fun bt635 => ((spec_PartOfAlphabet.f k bt635.1 bt635.2 a1).bind fun bt639 => ((laws_toAlphabet.f k a0_0 l0_1).bind fun bt645 => ((impl_PartOfAlphabet.f k bt645.1 bt645.2 a1).bind fun bt650 => ((laws_eqAlphabet.f k bt650.1 bt650.2.1 bt639.1 bt639.2.1).bind fun t656 => (if t656 = true then (laws_FnExactPartOfAlphabet.j0 k a1 bt639.2.2 bt650.2.2 (bt650.2.2 != bt639.2.2) a0_0 l0_1 bt639.1 bt639.2.1 bt645.1 bt645.2 bt650.1 bt650.2.1) else (laws_FnExactPartOfAlphabet.j0 k a1 bt639.2.2 bt650.2.2 true a0_0 l0_1 bt639.1 bt639.2.1 bt645.1 bt645.2 bt650.1 bt650.2.1))))))))
theorem laws_FnExactPartOfAlphabet.mono_l : ∀ k, (∀ y0 y1 y2 y3 y4 y5 y6 y7 y8 y9 y10 y11, LeO (laws_FnExactPartOfAlphabet.j0 k y0 y1 y2 y3 y4 y5 y6 y7 y8 y9 y10 y11) (laws_FnExactPartOfAlphabet.j0 (k + 1) y0 y1 y2 y3 y4 y5 y6 y7 y8 y9 y10 y11)) ∧ (∀ y0 y1 y2 y3 y4 y5 y6 y7 y8, LeO (laws_FnExactPartOfAlphabet.j1 k y0 y1 y2 y3 y4 y5 y6 y7 y8) (laws_FnExactPartOfAlphabet.j1 (k + 1) y0 y1 y2 y3 y4 y5 y6 y7 y8)) ∧ (∀ y0 y1 y2 y3, LeO (laws_FnExactPartOfAlphabet.j2 k y0 y1 y2 y3) (laws_FnExactPartOfAlphabet.j2 (k + 1) y0 y1 y2 y3))
 | 0 => ⟨fun _ _ _ _ _ _ _ _ _ _ _ _ r h => by simp [laws_FnExactPartOfAlphabet.j0] at h, fun _ _ _ _ _ _ _ _ _ r h => by simp [laws_FnExactPartOfAlphabet.j1] at h, fun _ _ _ _ r h => by simp [laws_FnExactPartOfAlphabet.j2] at h⟩
 | k + 1 => by
  obtain ⟨ih0, ih1, ih2⟩ := laws_FnExactPartOfAlphabet.mono_l k
  refine ⟨?_, ?_, ?_⟩
  ·intro y0 y1 y2 y3 y4 y5 y6 y7 y8 y9 y10 y11
   unfold laws_FnExactPartOfAlphabet.j0
   repeat' first
   | (with_reducible exact ih0 _ _ _ _ _ _ _ _ _ _ _ _)
   | (with_reducible exact ih1 _ _ _ _ _ _ _ _ _)
   | (with_reducible exact ih2 _ _ _ _)
   | (with_reducible exact impl_PartOfAlphabet.mono _ _ _ _)
   | (with_reducible exact laws_eqAlphabet.mono _ _ _ _ _)
   | (with_reducible exact laws_heldAlphabet.mono _ _ _ _)
   | (with_reducible exact laws_markAlphabet.mono _ _ _ _)
   | (with_reducible exact laws_toAlphabet.mono _ _ _)
   | (with_reducible exact spec_PartOfAlphabet.mono _ _ _ _)
   | (with_reducible exact LeO.refl _)
   | (with_reducible exact LeO.none _)
   | (with_reducible refine LeO.ite ?_ ?_)
   | (with_reducible refine LeO.bind ?_ (fun _ => ?_))
   | exact ih0 _ _ _ _ _ _ _ _ _ _ _ _
   | exact ih1 _ _ _ _ _ _ _ _ _
   | exact ih2 _ _ _ _
   | exact impl_PartOfAlphabet.mono _ _ _ _
   | exact laws_eqAlphabet.mono _ _ _ _ _
   | exact laws_heldAlphabet.mono _ _ _ _
   | exact laws_markAlphabet.mono _ _ _ _
   | exact laws_toAlphabet.mono _ _ _
   | exact spec_PartOfAlphabet.mono _ _ _ _
   | exact LeO.none _
   | refine LeO.ite ?_ ?_
   | refine LeO.bind ?_ (fun _ => ?_)
  ·intro y0 y1 y2 y3 y4 y5 y6 y7 y8
   unfold laws_FnExactPartOfAlphabet.j1
   repeat' first
   | (with_reducible exact ih0 _ _ _ _ _ _ _ _ _ _ _ _)
   | (with_reducible exact ih1 _ _ _ _ _ _ _ _ _)
   | (with_reducible exact ih2 _ _ _ _)
   | (with_reducible exact impl_PartOfAlphabet.mono _ _ _ _)
   | (with_reducible exact laws_eqAlphabet.mono _ _ _ _ _)
   | (with_reducible exact laws_heldAlphabet.mono _ _ _ _)
   | (with_reducible exact laws_markAlphabet.mono _ _ _ _)
   | (with_reducible exact laws_toAlphabet.mono _ _ _)
   | (with_reducible exact spec_PartOfAlphabet.mono _ _ _ _)
   | (with_reducible exact LeO.refl _)
   | (with_reducible exact LeO.none _)
   | (with_reducible refine LeO.ite ?_ ?_)
   | (with_reducible refine LeO.bind ?_ (fun _ => ?_))
   | exact ih0 _ _ _ _ _ _ _ _ _ _ _ _
   | exact ih1 _ _ _ _ _ _ _ _ _
   | exact ih2 _ _ _ _
   | exact impl_PartOfAlphabet.mono _ _ _ _
   | exact laws_eqAlphabet.mono _ _ _ _ _
   | exact laws_heldAlphabet.mono _ _ _ _
   | exact laws_markAlphabet.mono _ _ _ _
   | exact laws_toAlphabet.mono _ _ _
   | exact spec_PartOfAlphabet.mono _ _ _ _
   | exact LeO.none _
   | refine LeO.ite ?_ ?_
   | refine LeO.bind ?_ (fun _ => ?_)
  ·intro y0 y1 y2 y3
   unfold laws_FnExactPartOfAlphabet.j2
   repeat' first
   | (with_reducible exact ih0 _ _ _ _ _ _ _ _ _ _ _ _)
   | (with_reducible exact ih1 _ _ _ _ _ _ _ _ _)
   | (with_reducible exact ih2 _ _ _ _)
   | (with_reducible exact impl_PartOfAlphabet.mono _ _ _ _)
   | (with_reducible exact laws_eqAlphabet.mono _ _ _ _ _)
   | (with_reducible exact laws_heldAlphabet.mono _ _ _ _)
   | (with_reducible exact laws_markAlphabet.mono _ _ _ _)
   | (with_reducible exact laws_toAlphabet.mono _ _ _)
   | (with_reducible exact spec_PartOfAlphabet.mono _ _ _ _)
   | (with_reducible exact LeO.refl _)
   | (with_reducible exact LeO.none _)
   | (with_reducible refine LeO.ite ?_ ?_)
   | (with_reducible refine LeO.bind ?_ (fun _ => ?_))
   | exact ih0 _ _ _ _ _ _ _ _ _ _ _ _
   | exact ih1 _ _ _ _ _ _ _ _ _
   | exact ih2 _ _ _ _
   | exact impl_PartOfAlphabet.mono _ _ _ _
   | exact laws_eqAlphabet.mono _ _ _ _ _
   | exact laws_heldAlphabet.mono _ _ _ _
   | exact laws_markAlphabet.mono _ _ _ _
   | exact laws_toAlphabet.mono _ _ _
   | exact spec_PartOfAlphabet.mono _ _ _ _
   | exact LeO.none _
   | refine LeO.ite ?_ ?_
   | refine LeO.bind ?_ (fun _ => ?_)
theorem laws_FnExactPartOfAlphabet.mono : ∀ a0 a1 a2 k, LeO (laws_FnExactPartOfAlphabet.f k a0 a1 a2) (laws_FnExactPartOfAlphabet.f (k + 1) a0 a1 a2) := by
 intro a0 a1 a2 k
 obtain ⟨ih0, ih1, ih2⟩ := laws_FnExactPartOfAlphabet.mono_l k
 unfold laws_FnExactPartOfAlphabet.f
 repeat' first
   | (with_reducible exact ih0 _ _ _ _ _ _ _ _ _ _ _ _)
   | (with_reducible exact ih1 _ _ _ _ _ _ _ _ _)
   | (with_reducible exact ih2 _ _ _ _)
   | (with_reducible exact impl_PartOfAlphabet.mono _ _ _ _)
   | (with_reducible exact laws_eqAlphabet.mono _ _ _ _ _)
   | (with_reducible exact laws_heldAlphabet.mono _ _ _ _)
   | (with_reducible exact laws_markAlphabet.mono _ _ _ _)
   | (with_reducible exact laws_toAlphabet.mono _ _ _)
   | (with_reducible exact spec_PartOfAlphabet.mono _ _ _ _)
   | (with_reducible exact LeO.refl _)
   | (with_reducible exact LeO.none _)
   | (with_reducible refine LeO.ite ?_ ?_)
   | (with_reducible refine LeO.bind ?_ (fun _ => ?_))
   | exact ih0 _ _ _ _ _ _ _ _ _ _ _ _
   | exact ih1 _ _ _ _ _ _ _ _ _
   | exact ih2 _ _ _ _
   | exact impl_PartOfAlphabet.mono _ _ _ _
   | exact laws_eqAlphabet.mono _ _ _ _ _
   | exact laws_heldAlphabet.mono _ _ _ _
   | exact laws_markAlphabet.mono _ _ _ _
   | exact laws_toAlphabet.mono _ _ _
   | exact spec_PartOfAlphabet.mono _ _ _ _
   | exact LeO.none _
   | refine LeO.ite ?_ ?_
   | refine LeO.bind ?_ (fun _ => ?_)
set_option maxHeartbeats 8000000 in
set_option maxRecDepth 100000 in
theorem laws_FnExactPartOfAlphabet.calls (k : Nat) (a0_0 : Int) (A0_1 : Option Addr) (c0_1 : Nat) (l0_1 : List Int) (a1 : Int) (r : Bool) (w : World) (hr0_1 : Kd.C (Kd.int .i64) w A0_1 l0_1.length l0_1) (hc0_1 : l0_1.length ≤ c0_1) (hT : TabW w) (h : laws_FnExactPartOfAlphabet.f k a0_0 l0_1 a1 = some r) :
  Calls Tryd.prog 9 #[.agg #[.int .i64 a0_0, .slice A0_1 l0_1.length c0_1], .int .i64 a1] w fun e w' => e = .returned (.bool r) ∧ Below w.heap.size w w' := by
 have hu46 := Tryd.underlying46; have hu38 := Tryd.underlying38; have HT := Aside0.mk hT; clear hT; have HR0_1 := Aside0.mk hr0_1; have HC0_1 := Aside0.mk hc0_1; clear hr0_1 hc0_1; have HB := Aside0.mk (Below.refl w.heap.size w)
 have H : ((laws_szAlphabet.f a0_0 l0_1 1048576).bind fun t634 => (if t634 < 0 then (some true) else ((laws_toAlphabet.f k a0_0 l0_1).bind fun bt635 => ((spec_PartOfAlphabet.f k bt635.1 bt635.2 a1).bind fun bt639 => ((laws_toAlphabet.f k a0_0 l0_1).bind fun bt645 => ((impl_PartOfAlphabet.f k bt645.1 bt645.2 a1).bind fun bt650 => ((laws_eqAlphabet.f k bt650.1 bt650.2.1 bt639.1 bt639.2.1).bind fun t656 => (if t656 = true then (laws_FnExactPartOfAlphabet.j0 k a1 bt639.2.2 bt650.2.2 (bt650.2.2 != bt639.2.2) a0_0 l0_1 bt639.1 bt639.2.1 bt645.1 bt645.2 bt650.1 bt650.2.1) else (laws_FnExactPartOfAlphabet.j0 k a1 bt639.2.2 bt650.2.2 true a0_0 l0_1 bt639.1 bt639.2.1 bt645.1 bt645.2 bt650.1 bt650.2.1))))))))) = some r := h
 clear h; replace H := Option.bind_eq_some_iff.mp H; obtain ⟨t634, A30, H⟩ := H
 replace H : (if t634 < 0 then (some true) else ((laws_toAlphabet.f k a0_0 l0_1).bind fun bt635 => ((spec_PartOfAlphabet.f k bt635.1 bt635.2 a1).bind fun bt639 => ((laws_toAlphabet.f k a0_0 l0_1).bind fun bt645 => ((impl_PartOfAlphabet.f k bt645.1 bt645.2 a1).bind fun bt650 => ((laws_eqAlphabet.f k bt650.1 bt650.2.1 bt639.1 bt639.2.1).bind fun t656 => (if t656 = true then (laws_FnExactPartOfAlphabet.j0 k a1 bt639.2.2 bt650.2.2 (bt650.2.2 != bt639.2.2) a0_0 l0_1 bt639.1 bt639.2.1 bt645.1 bt645.2 bt650.1 bt650.2.1) else (laws_FnExactPartOfAlphabet.j0 k a1 bt639.2.2 bt650.2.2 true a0_0 l0_1 bt639.1 bt639.2.1 bt645.1 bt645.2 bt650.1 bt650.2.1)))))))) = some r := H
 have A3 := Aside0.mk A30; clear A30
 by_cases c4 : t634 < 0
 ·rw [if_pos c4] at H
  have c4b0 : decide (t634 < 0) = true := decide_eq_true c4
  clear c4
  obtain rfl := Option.some.inj H
  go_enter Tryd.func9, Tryd.ntmps9
  go_wp2_with (first | ((with_reducible refine gate_dst (N := 2) rfl ?_); refine box_event ?hg (N := 2) ?hd (cs := #[.int .i64 a0_0, .slice A0_1 l0_1.length c0_1]) (t := 46) ?hr ?_; (case hd => rfl); (case hg => rfl); (case hr => first | (go_simp; done) | (go_simp; rfl)); intro gb633 hg w5 hbox hb; have BK633 := Aside0.mk (hbox); have GW633 := Aside0.mk ((by rw [hg]; exact (below_size (beQ HB)) : w.heap.size ≤ gb633)); have GE633 := Aside0.mk ((by rw [hg]; exact (below_size (beQ HB)) : w.heap.size ≤ gb633)); replace HB := Aside0.mk (below_step (beQ HB) hb); clear hb hbox hg; have hcz6_0 : w5.cell? ⟨gb633, 0, none⟩ = some (.int .i64 a0_0) := bc BK633 0; have hcz6_1 : w5.cell? ⟨gb633, 1, none⟩ = some (.slice A0_1 l0_1.length c0_1) := bc BK633 1; have hfz6_0 := blk_frozen BK633.out 0; have hfz6_1 := blk_frozen BK633.out 1) | ((with_reducible refine gate_callee (f := 35) rfl ?_); refine goesL_ (some 18) rfl rfl Tryd.func35 (by kernel_rfl) rfl #[.agg #[.int .i64 a0_0, .slice A0_1 l0_1.length c0_1], .int .i64 1048576] rfl lz ?_; (with_reducible refine (laws_szAlphabet.calls a0_0 _ _ l0_1 1048576 t634 _ ?side1 ?side2 A3.out).mono ?_); (case side1 => have q_ := Aside0.mk (Kd.C_below HR0_1.out HB.out); exact cQ q_); (case side2 => exact HC0_1.out); rintro e w7 ⟨rfl, hb⟩; refine ⟨_, rfl, ?_⟩; replace BK633 := bb BK633 hb; replace HB := Aside0.mk (below_step (beQ HB) hb); (try clear hb); (try clear hb2); (try clear hk); (try clear hi)))
  go_ret
  exact ⟨rz, beQ HB⟩
 ·rw [if_neg c4] at H
  have c4b0 : decide (t634 < 0) = false := decide_eq_false c4
  clear c4; replace H := Option.bind_eq_some_iff.mp H
  obtain ⟨⟨t635, t636⟩, A80, H⟩ := H
  replace H : ((spec_PartOfAlphabet.f k t635 t636 a1).bind fun bt639 => ((laws_toAlphabet.f k a0_0 l0_1).bind fun bt645 => ((impl_PartOfAlphabet.f k bt645.1 bt645.2 a1).bind fun bt650 => ((laws_eqAlphabet.f k bt650.1 bt650.2.1 bt639.1 bt639.2.1).bind fun t656 => (if t656 = true then (laws_FnExactPartOfAlphabet.j0 k a1 bt639.2.2 bt650.2.2 (bt650.2.2 != bt639.2.2) a0_0 l0_1 bt639.1 bt639.2.1 bt645.1 bt645.2 bt650.1 bt650.2.1) else (laws_FnExactPartOfAlphabet.j0 k a1 bt639.2.2 bt650.2.2 true a0_0 l0_1 bt639.1 bt639.2.1 bt645.1 bt645.2 bt650.1 bt650.2.1)))))) = some r := H
  have A8 := Aside0.mk A80; clear A80; replace H := Option.bind_eq_some_iff.mp H
  obtain ⟨⟨t639, t640, t643⟩, A90, H⟩ := H
  replace H : ((laws_toAlphabet.f k a0_0 l0_1).bind fun bt645 => ((impl_PartOfAlphabet.f k bt645.1 bt645.2 a1).bind fun bt650 => ((laws_eqAlphabet.f k bt650.1 bt650.2.1 t639 t640).bind fun t656 => (if t656 = true then (laws_FnExactPartOfAlphabet.j0 k a1 t643 bt650.2.2 (bt650.2.2 != t643) a0_0 l0_1 t639 t640 bt645.1 bt645.2 bt650.1 bt650.2.1) else (laws_FnExactPartOfAlphabet.j0 k a1 t643 bt650.2.2 true a0_0 l0_1 t639 t640 bt645.1 bt645.2 bt650.1 bt650.2.1))))) = some r := H
  have A9 := Aside0.mk A90; clear A90; replace H := Option.bind_eq_some_iff.mp H
  obtain ⟨⟨t645, t646⟩, A100, H⟩ := H
  replace H : ((impl_PartOfAlphabet.f k t645 t646 a1).bind fun bt650 => ((laws_eqAlphabet.f k bt650.1 bt650.2.1 t639 t640).bind fun t656 => (if t656 = true then (laws_FnExactPartOfAlphabet.j0 k a1 t643 bt650.2.2 (bt650.2.2 != t643) a0_0 l0_1 t639 t640 t645 t646 bt650.1 bt650.2.1) else (laws_FnExactPartOfAlphabet.j0 k a1 t643 bt650.2.2 true a0_0 l0_1 t639 t640 t645 t646 bt650.1 bt650.2.1)))) = some r := H
  have A10 := Aside0.mk A100; clear A100; replace H := Option.bind_eq_some_iff.mp H
  obtain ⟨⟨t650, t651, t654⟩, A110, H⟩ := H
  replace H : ((laws_eqAlphabet.f k t650 t651 t639 t640).bind fun t656 => (if t656 = true then (laws_FnExactPartOfAlphabet.j0 k a1 t643 t654 (t654 != t643) a0_0 l0_1 t639 t640 t645 t646 t650 t651) else (laws_FnExactPartOfAlphabet.j0 k a1 t643 t654 true a0_0 l0_1 t639 t640 t645 t646 t650 t651))) = some r := H
  have A11 := Aside0.mk A110; clear A110; have HC12 := Aside0.mk H; clear H
  go_enter Tryd.func9, Tryd.ntmps9
  go_upto_region 8 with (first | ((with_reducible refine gate_dst (N := 2) rfl ?_); refine box_event ?hg (N := 2) ?hd (cs := #[.int .i64 a0_0, .slice A0_1 l0_1.length c0_1]) (t := 46) ?hr ?_; (case hd => rfl); (case hg => rfl); (case hr => first | (go_simp; done) | (go_simp; rfl)); intro gb633 hg w13 hbox hb; have BK633 := Aside0.mk (hbox); have GW633 := Aside0.mk ((by rw [hg]; exact (below_size (beQ HB)) : w.heap.size ≤ gb633)); have GE633 := Aside0.mk ((by rw [hg]; exact (below_size (beQ HB)) : w.heap.size ≤ gb633)); replace HB := Aside0.mk (below_step (beQ HB) hb); clear hb hbox hg; have hcz14_0 : w13.cell? ⟨gb633, 0, none⟩ = some (.int .i64 a0_0) := bc BK633 0; have hcz14_1 : w13.cell? ⟨gb633, 1, none⟩ = some (.slice A0_1 l0_1.length c0_1) := bc BK633 1; have hfz14_0 := blk_frozen BK633.out 0; have hfz14_1 := blk_frozen BK633.out 1) | ((with_reducible refine gate_callee (f := 35) rfl ?_); refine goesL_ (some 18) rfl rfl Tryd.func35 (by kernel_rfl) rfl #[.agg #[.int .i64 a0_0, .slice A0_1 l0_1.length c0_1], .int .i64 1048576] rfl lz ?_; (with_reducible refine (laws_szAlphabet.calls a0_0 _ _ l0_1 1048576 t634 _ ?side1 ?side2 A3.out).mono ?_); (case side1 => have q_ := Aside0.mk (Kd.C_below HR0_1.out HB.out); exact cQ q_); (case side2 => exact HC0_1.out); rintro e w15 ⟨rfl, hb⟩; refine ⟨_, rfl, ?_⟩; replace BK633 := bb BK633 hb; replace HB := Aside0.mk (below_step (beQ HB) hb); (try clear hb); (try clear hb2); (try clear hk); (try clear hi); have hcz16_0 : w15.cell? ⟨gb633, 0, none⟩ = some (.int .i64 a0_0) := bc BK633 0; have hcz16_1 : w15.cell? ⟨gb633, 1, none⟩ = some (.slice A0_1 l0_1.length c0_1) := bc BK633 1; have hfz16_0 := blk_frozen BK633.out 0; have hfz16_1 := blk_frozen BK633.out 1) | ((with_reducible refine gate_callee (f := 37) rfl ?_); refine goesL_ (some 23) rfl rfl Tryd.func37 (by kernel_rfl) rfl #[.agg #[.int .i64 a0_0, .slice A0_1 l0_1.length c0_1]] rfl lz ?_; (with_reducible refine (laws_toAlphabet.calls k a0_0 _ _ l0_1 t635 t636 _ ?side1 ?side2 A8.out).mono ?_); (case side1 => have q_ := Aside0.mk (Kd.C_below HR0_1.out HB.out); exact cQ q_); (case side2 => exact HC0_1.out); rintro e w17 ⟨v637, rfl, ho0, hb⟩; refine ⟨_, rfl, ?_⟩; have HO638 := Aside0.mk (Kd.R_lower ho0 (below_size (beQ HB))); replace BK633 := bb BK633 hb; replace HB := Aside0.mk (below_step (beQ HB) hb); (try clear hb); (try clear hb2); (try clear hk); (try clear hi); (try clear ho0); obtain ⟨Ao18, co18, eo18⟩ := Kd.R_slice HO638.out; subst eo18) | ((with_reducible refine gate_callee (f := 39) rfl ?_); refine goesL_ (some 25) rfl rfl Tryd.func39 (by kernel_rfl) rfl #[.agg #[.int .i64 t635, .slice Ao18 t636.length co18], .int .i64 a1] rfl lz ?_; (with_reducible refine (spec_PartOfAlphabet.calls k t635 _ _ t636 a1 t639 t640 t643 _ ?side1 ?side2 A9.out).mono ?_); (case side1 => have q_ := Aside0.mk (Kd.R_reads' HO638.out).2.2; exact cQ q_); (case side2 => exact (Kd.R_reads' HO638.out).2.1); rintro e w19 ⟨v641, rfl, ho0, hb⟩; refine ⟨_, rfl, ?_⟩; have HO642 := Aside0.mk (Kd.R_lower (Kd.R_new' ho0 (Kd.R_lt (kdQ HO638))) (below_size (beQ HB))); replace HO638 := Aside0.mk (Kd.R_elder' (kdQ HO638) (Kd.R_base ho0) hb); replace BK633 := bb BK633 hb; replace HB := Aside0.mk (below_step (beQ HB) hb); (try clear hb); (try clear hb2); (try clear hk); (try clear hi); (try clear ho0)) | ((with_reducible refine gate_dst (N := 6) rfl ?_); refine box_event ?hg (N := 6) ?hd (cs := #[.int .i64 0, .slice none 0 0]) (t := 38) ?hr ?_; (case hd => rfl); (case hg => rfl); (case hr => first | (go_simp; done) | (go_simp; rfl)); intro gb644 hg w20 hbox hb; replace HO638 := kb HO638 hb; replace HO642 := kb HO642 hb; have BK644 := Aside0.mk (hbox); have GW644 := Aside0.mk ((by rw [hg]; exact (below_size (beQ HB)) : w.heap.size ≤ gb644)); have GE644 := Aside0.mk ((by rw [hg]; exact (below_size (beQ HB)) : w.heap.size ≤ gb644)); replace HB := Aside0.mk (below_step (beQ HB) hb); have NB633_644 := Aside0.mk ((by rw [hg]; exact Nat.ne_of_lt (blk_lt (blkQ BK633)) : gb633 ≠ gb644)); have NB644_633 := Aside0.mk ((by rw [hg]; exact Nat.ne_of_gt (blk_lt (blkQ BK633)) : gb644 ≠ gb633)); replace BK633 := bb BK633 hb; clear hb hbox hg; have hnb21 := NB644_633.out; have hnc21 := NB633_644.out; have hcz22_0 : w20.cell? ⟨gb644, 0, none⟩ = some (.int .i64 0) := bc BK644 0; have hcz22_1 : w20.cell? ⟨gb644, 1, none⟩ = some (.slice none 0 0) := bc BK644 1; have hfz22_0 := blk_frozen BK644.out 0; have hfz22_1 := blk_frozen BK644.out 1; obtain ⟨Ao23, co23, eo23⟩ := Kd.R_slice HO642.out; subst eo23; have hcz24_0 : w20.cell? ⟨gb633, 0, none⟩ = some (.int .i64 a0_0) := bc BK633 0; have hcz24_1 : w20.cell? ⟨gb633, 1, none⟩ = some (.slice A0_1 l0_1.length c0_1) := bc BK633 1; have hfz24_0 := blk_frozen BK633.out 0; have hfz24_1 := blk_frozen BK633.out 1) | ((with_reducible refine gate_callee (f := 37) rfl ?_); refine goesL_ (some 29) rfl rfl Tryd.func37 (by kernel_rfl) rfl #[.agg #[.int .i64 a0_0, .slice A0_1 l0_1.length c0_1]] rfl lz ?_; (with_reducible refine (laws_toAlphabet.calls k a0_0 _ _ l0_1 t645 t646 _ ?side1 ?side2 A10.out).mono ?_); (case side1 => exact Kd.C_below HR0_1.out (beQ HB)); (case side2 => exact HC0_1.out); rintro e w25 ⟨v647, rfl, ho0, hb⟩; refine ⟨_, rfl, ?_⟩; have HO648 := Aside0.mk (Kd.R_lower (Kd.R_new' (Kd.R_new' ho0 (Kd.R_lt (by (with_reducible repeat (first | apply Kd.R_alloc | apply Kd.R_drewN | apply Kd.R_drew)); exact (Kd.R_mono (Kd.R_far (p := ⟨gb644, 1, none⟩) (Kd.R_far (p := ⟨gb644, 0, none⟩) (Kd.R_types HO638.out BK644.out (by decide)) (fun _ hk => hk.2) (.int .i64 t639)) (fun _ hk => hk.2) (.slice Ao23 t640.length co23)) (fun _ h_ => h_.1))))) (Kd.R_lt (by (with_reducible repeat (first | apply Kd.R_alloc | apply Kd.R_drewN | apply Kd.R_drew)); exact (Kd.R_mono (Kd.R_far (p := ⟨gb644, 1, none⟩) (Kd.R_far (p := ⟨gb644, 0, none⟩) (Kd.R_types HO642.out BK644.out (by decide)) (fun _ hk => hk.2) (.int .i64 t639)) (fun _ hk => hk.2) (.slice Ao23 t640.length co23)) (fun _ h_ => h_.1))))) (below_size (beQ HB))); replace HO638 := Aside0.mk (Kd.R_elder' (by (with_reducible repeat (first | apply Kd.R_alloc | apply Kd.R_drewN | apply Kd.R_drew)); exact (Kd.R_mono (Kd.R_far (p := ⟨gb644, 1, none⟩) (Kd.R_far (p := ⟨gb644, 0, none⟩) (Kd.R_types HO638.out BK644.out (by decide)) (fun _ hk => hk.2) (.int .i64 t639)) (fun _ hk => hk.2) (.slice Ao23 t640.length co23)) (fun _ h_ => h_.1))) (Kd.R_base ho0) hb); replace HO642 := Aside0.mk (Kd.R_elder' (by (with_reducible repeat (first | apply Kd.R_alloc | apply Kd.R_drewN | apply Kd.R_drew)); exact (Kd.R_mono (Kd.R_far (p := ⟨gb644, 1, none⟩) (Kd.R_far (p := ⟨gb644, 0, none⟩) (Kd.R_types HO642.out BK644.out (by decide)) (fun _ hk => hk.2) (.int .i64 t639)) (fun _ hk => hk.2) (.slice Ao23 t640.length co23)) (fun _ h_ => h_.1))) (Kd.R_base ho0) hb); replace BK633 := Aside0.mk (blk_below (blkF BK633) hb); replace BK644 := Aside0.mk (blk_below (g := gb644) (o := .cells #[.int .i64 t639, .slice Ao23 t640.length co23] 38 (0, 0)) (by (with_reducible repeat (first | refine blk_drewN ?_ _ | refine blk_drew ?_ | refine blk_alloc ?_ _)); refine blk_put (cs := #[.int .i64 t639, .slice none 0 0]) ?_ 1 _ rfl; (with_reducible repeat (first | refine blk_drewN ?_ _ | refine blk_drew ?_ | refine blk_alloc ?_ _)); refine blk_put (cs := #[.int .i64 0, .slice none 0 0]) ?_ 0 _ rfl; (with_reducible repeat (first | refine blk_drewN ?_ _ | refine blk_drew ?_ | refine blk_alloc ?_ _)); exact BK644.out) hb); replace HB := Aside0.mk (below_step (beQ HB) hb); (try clear hb); (try clear hb2); (try clear hk); (try clear hi); (try clear ho0)) | ((with_reducible refine gate_dst (N := 8) rfl ?_); refine box_event ?hg (N := 8) ?hd (cs := #[.int .i64 0, .slice none 0 0]) (t := 38) ?hr ?_; (case hd => rfl); (case hg => rfl); (case hr => first | (go_simp; done) | (go_simp; rfl)); intro gb649 hg w26 hbox hb; replace HO638 := kb HO638 hb; replace HO642 := kb HO642 hb; replace HO648 := kb HO648 hb; have BK649 := Aside0.mk (hbox); have GW649 := Aside0.mk ((by rw [hg]; exact (below_size (beQ HB)) : w.heap.size ≤ gb649)); have GE649 := Aside0.mk ((by rw [hg]; exact (below_size (beQ HB)) : w.heap.size ≤ gb649)); replace HB := Aside0.mk (below_step (beQ HB) hb); have NB633_649 := Aside0.mk ((by rw [hg]; exact Nat.ne_of_lt (blk_lt (blkQ BK633)) : gb633 ≠ gb649)); have NB649_633 := Aside0.mk ((by rw [hg]; exact Nat.ne_of_gt (blk_lt (blkQ BK633)) : gb649 ≠ gb633)); replace BK633 := bb BK633 hb; have NB644_649 := Aside0.mk ((by rw [hg]; exact Nat.ne_of_lt (blk_lt (blkQ BK644)) : gb644 ≠ gb649)); have NB649_644 := Aside0.mk ((by rw [hg]; exact Nat.ne_of_gt (blk_lt (blkQ BK644)) : gb649 ≠ gb644)); replace BK644 := bb BK644 hb; clear hb hbox hg; have hnb27 := NB649_633.out; have hnc27 := NB633_649.out; have hnb28 := NB649_644.out; have hnc28 := NB644_649.out; have hcz29_0 : w26.cell? ⟨gb649, 0, none⟩ = some (.int .i64 0) := bc BK649 0; have hcz29_1 : w26.cell? ⟨gb649, 1, none⟩ = some (.slice none 0 0) := bc BK649 1; have hfz29_0 := blk_frozen BK649.out 0; have hfz29_1 := blk_frozen BK649.out 1; obtain ⟨Ao30, co30, eo30⟩ := Kd.R_slice HO648.out; subst eo30) | ((with_reducible refine gate_callee (f := 40) rfl ?_); refine goesL_ (some 33) rfl rfl Tryd.func40 (by kernel_rfl) rfl #[.agg #[.int .i64 t645, .slice Ao30 t646.length co30], .int .i64 a1] rfl lz ?_; (with_reducible refine (impl_PartOfAlphabet.calls k t645 _ _ t646 a1 t650 t651 t654 _ ?side1 ?side2 ?side3 A11.out).mono ?_); (case side1 => refine (Kd.R_reads' (e := 2) (base := w.heap.size) (ok := fun k_ => ((True ∧ some k_ ≠ (.slice Ao18 t636.length co18 : Value).ownBlock) ∧ some k_ ≠ (.slice Ao23 t640.length co23 : Value).ownBlock)) (n := t646.length) (c := co30) ?_).2.2; exact (by (with_reducible repeat (first | apply Kd.R_alloc | apply Kd.R_drewN | apply Kd.R_drew)); exact (Kd.R_mono (Kd.R_far (p := ⟨gb649, 1, none⟩) (Kd.R_far (p := ⟨gb649, 0, none⟩) (Kd.R_types HO648.out BK649.out (by decide)) (fun _ hk => hk.2) (.int .i64 t645)) (fun _ hk => hk.2) (.slice Ao30 t646.length co30)) (fun _ h_ => h_.1)))); (case side2 => exact (Kd.R_reads' HO648.out).2.1); (case side3 => exact TabW.below HT.out (beQ HB)); rintro e w31 ⟨v652, rfl, ho0, hb⟩; refine ⟨_, rfl, ?_⟩; have HO653 := Aside0.mk (Kd.R_lower (Kd.R_new' (Kd.R_new' (Kd.R_new' ho0 (Kd.R_lt (by (with_reducible repeat (first | apply Kd.R_alloc | apply Kd.R_drewN | apply Kd.R_drew)); exact (Kd.R_mono (Kd.R_far (p := ⟨gb649, 1, none⟩) (Kd.R_far (p := ⟨gb649, 0, none⟩) (Kd.R_types HO638.out BK649.out (by decide)) (fun _ hk => hk.2) (.int .i64 t645)) (fun _ hk => hk.2) (.slice Ao30 t646.length co30)) (fun _ h_ => h_.1))))) (Kd.R_lt (by (with_reducible repeat (first | apply Kd.R_alloc | apply Kd.R_drewN | apply Kd.R_drew)); exact (Kd.R_mono (Kd.R_far (p := ⟨gb649, 1, none⟩) (Kd.R_far (p := ⟨gb649, 0, none⟩) (Kd.R_types HO642.out BK649.out (by decide)) (fun _ hk => hk.2) (.int .i64 t645)) (fun _ hk => hk.2) (.slice Ao30 t646.length co30)) (fun _ h_ => h_.1))))) (Kd.R_lt (by (with_reducible repeat (first | apply Kd.R_alloc | apply Kd.R_drewN | apply Kd.R_drew)); exact (Kd.R_mono (Kd.R_far (p := ⟨gb649, 1, none⟩) (Kd.R_far (p := ⟨gb649, 0, none⟩) (Kd.R_types HO648.out BK649.out (by decide)) (fun _ hk => hk.2) (.int .i64 t645)) (fun _ hk => hk.2) (.slice Ao30 t646.length co30)) (fun _ h_ => h_.1))))) (below_size (beQ HB))); replace HO638 := Aside0.mk (Kd.R_elder' (by (with_reducible repeat (first | apply Kd.R_alloc | apply Kd.R_drewN | apply Kd.R_drew)); exact (Kd.R_mono (Kd.R_far (p := ⟨gb649, 1, none⟩) (Kd.R_far (p := ⟨gb649, 0, none⟩) (Kd.R_types HO638.out BK649.out (by decide)) (fun _ hk => hk.2) (.int .i64 t645)) (fun _ hk => hk.2) (.slice Ao30 t646.length co30)) (fun _ h_ => h_.1))) (Kd.R_base ho0) hb); replace HO642 := Aside0.mk (Kd.R_elder' (by (with_reducible repeat (first | apply Kd.R_alloc | apply Kd.R_drewN | apply Kd.R_drew)); exact (Kd.R_mono (Kd.R_far (p := ⟨gb649, 1, none⟩) (Kd.R_far (p := ⟨gb649, 0, none⟩) (Kd.R_types HO642.out BK649.out (by decide)) (fun _ hk => hk.2) (.int .i64 t645)) (fun _ hk => hk.2) (.slice Ao30 t646.length co30)) (fun _ h_ => h_.1))) (Kd.R_base ho0) hb); replace HO648 := Aside0.mk (Kd.R_elder' (by (with_reducible repeat (first | apply Kd.R_alloc | apply Kd.R_drewN | apply Kd.R_drew)); exact (Kd.R_mono (Kd.R_far (p := ⟨gb649, 1, none⟩) (Kd.R_far (p := ⟨gb649, 0, none⟩) (Kd.R_types HO648.out BK649.out (by decide)) (fun _ hk => hk.2) (.int .i64 t645)) (fun _ hk => hk.2) (.slice Ao30 t646.length co30)) (fun _ h_ => h_.1))) (Kd.R_base ho0) hb); replace BK633 := Aside0.mk (blk_below (blkF BK633) hb); replace BK644 := Aside0.mk (blk_below (blkF BK644) hb); replace BK649 := Aside0.mk (blk_below (g := gb649) (o := .cells #[.int .i64 t645, .slice Ao30 t646.length co30] 38 (0, 0)) (by (with_reducible repeat (first | refine blk_drewN ?_ _ | refine blk_drew ?_ | refine blk_alloc ?_ _)); refine blk_put (cs := #[.int .i64 t645, .slice none 0 0]) ?_ 1 _ rfl; (with_reducible repeat (first | refine blk_drewN ?_ _ | refine blk_drew ?_ | refine blk_alloc ?_ _)); refine blk_put (cs := #[.int .i64 0, .slice none 0 0]) ?_ 0 _ rfl; (with_reducible repeat (first | refine blk_drewN ?_ _ | refine blk_drew ?_ | refine blk_alloc ?_ _)); exact BK649.out) hb); replace HB := Aside0.mk (below_step (beQ HB) hb); (try clear hb); (try clear hb2); (try clear hk); (try clear hi); (try clear ho0)) | ((with_reducible refine gate_dst (N := 9) rfl ?_); refine box_event ?hg (N := 9) ?hd (cs := #[.int .i64 0, .slice none 0 0]) (t := 38) ?hr ?_; (case hd => rfl); (case hg => rfl); (case hr => first | (go_simp; done) | (go_simp; rfl)); intro gb655 hg w32 hbox hb; replace HO638 := kb HO638 hb; replace HO642 := kb HO642 hb; replace HO648 := kb HO648 hb; replace HO653 := kb HO653 hb; have BK655 := Aside0.mk (hbox); have GW655 := Aside0.mk ((by rw [hg]; exact (below_size (beQ HB)) : w.heap.size ≤ gb655)); have GE655 := Aside0.mk ((by rw [hg]; exact (below_size (beQ HB)) : w.heap.size ≤ gb655)); replace HB := Aside0.mk (below_step (beQ HB) hb); have NB633_655 := Aside0.mk ((by rw [hg]; exact Nat.ne_of_lt (blk_lt (blkQ BK633)) : gb633 ≠ gb655)); have NB655_633 := Aside0.mk ((by rw [hg]; exact Nat.ne_of_gt (blk_lt (blkQ BK633)) : gb655 ≠ gb633)); replace BK633 := bb BK633 hb; have NB644_655 := Aside0.mk ((by rw [hg]; exact Nat.ne_of_lt (blk_lt (blkQ BK644)) : gb644 ≠ gb655)); have NB655_644 := Aside0.mk ((by rw [hg]; exact Nat.ne_of_gt (blk_lt (blkQ BK644)) : gb655 ≠ gb644)); replace BK644 := bb BK644 hb; have NB649_655 := Aside0.mk ((by rw [hg]; exact Nat.ne_of_lt (blk_lt (blkQ BK649)) : gb649 ≠ gb655)); have NB655_649 := Aside0.mk ((by rw [hg]; exact Nat.ne_of_gt (blk_lt (blkQ BK649)) : gb655 ≠ gb649)); replace BK649 := bb BK649 hb; clear hb hbox hg; have hnb33 := NB655_633.out; have hnc33 := NB633_655.out; have hnb34 := NB655_644.out; have hnc34 := NB644_655.out; have hnb35 := NB655_649.out; have hnc35 := NB649_655.out; have hcz36_0 : w32.cell? ⟨gb655, 0, none⟩ = some (.int .i64 0) := bc BK655 0; have hcz36_1 : w32.cell? ⟨gb655, 1, none⟩ = some (.slice none 0 0) := bc BK655 1; have hfz36_0 := blk_frozen BK655.out 0; have hfz36_1 := blk_frozen BK655.out 1; obtain ⟨Ao37, co37, eo37⟩ := Kd.R_slice HO653.out; subst eo37))
  (try simp only [Act.put, List.setIfInBounds_toArray, List.set_cons_zero, List.set_cons_succ])
  go_cut [44] (fun v44 wc => ∃ (kq : Nat) (x44_11 : Bool), v44 = .bool x44_11 ∧ Aside0 (laws_FnExactPartOfAlphabet.j0 kq a1 t643 t654 x44_11 a0_0 l0_1 t639 t640 t645 t646 t650 t651 = some r) ∧ Aside0 (kq ≤ k) ∧ Aside0 (Kd.R (Kd.int .i64) 2 wc w.heap.size (fun k_ => some k_ ≠ ((.slice Ao30 t646.length co30) : Value).ownBlock ∧ some k_ ≠ ((.slice Ao37 t651.length co37) : Value).ownBlock) (.slice Ao23 t640.length co23) t640) ∧ Aside0 (Kd.R (Kd.int .i64) 2 wc w.heap.size (fun k_ => some k_ ≠ ((.slice Ao23 t640.length co23) : Value).ownBlock ∧ some k_ ≠ ((.slice Ao37 t651.length co37) : Value).ownBlock) (.slice Ao30 t646.length co30) t646) ∧ Aside0 (Kd.R (Kd.int .i64) 2 wc w.heap.size (fun k_ => some k_ ≠ ((.slice Ao23 t640.length co23) : Value).ownBlock ∧ some k_ ≠ ((.slice Ao30 t646.length co30) : Value).ownBlock) (.slice Ao37 t651.length co37) t651) ∧ Aside0 (wc.heap[gb633]? = some (.cells #[.int .i64 a0_0, (.slice A0_1 l0_1.length c0_1)] 46 (0, 0))) ∧ Aside0 (wc.heap[gb644]? = some (.cells #[.int .i64 t639, (.slice Ao23 t640.length co23)] 38 (0, 0))) ∧ Aside0 (wc.heap[gb649]? = some (.cells #[.int .i64 t645, (.slice Ao30 t646.length co30)] 38 (0, 0))) ∧ Aside0 (wc.heap[gb655]? = some (.cells #[.int .i64 t650, (.slice Ao37 t651.length co37)] 38 (0, 0))) ∧ Aside0 (Below w.heap.size w wc))
  case first =>
   have H := HC12.out; clear HC12; replace H := Option.bind_eq_some_iff.mp H; obtain ⟨t656, A380, H⟩ := H
   replace H : (if t656 = true then (laws_FnExactPartOfAlphabet.j0 k a1 t643 t654 (t654 != t643) a0_0 l0_1 t639 t640 t645 t646 t650 t651) else (laws_FnExactPartOfAlphabet.j0 k a1 t643 t654 true a0_0 l0_1 t639 t640 t645 t646 t650 t651)) = some r := H
   have A38 := Aside0.mk A380; clear A380
   by_cases c39 : t656 = true
   ·subst c39
    have H1 : (laws_FnExactPartOfAlphabet.j0 k a1 t643 t654 (t654 != t643) a0_0 l0_1 t639 t640 t645 t646 t650 t651) = some r := by rw [if_pos rfl] at H; exact H
    clear H; have H := H1; clear H1
    have H' := Aside0.mk H
    clear H; have hnb40 := NB655_633.out; have hnc40 := NB633_655.out; have hnb41 := NB655_644.out; have hnc41 := NB644_655.out; have hnb42 := NB655_649.out; have hnc42 := NB649_655.out
    have hcz43_0 : w32.cell? ⟨gb655, 0, none⟩ = some (.int .i64 0) := bc BK655 0
    have hcz43_1 : w32.cell? ⟨gb655, 1, none⟩ = some (.slice none 0 0) := bc BK655 1
    have hfz43_0 := blk_frozen BK655.out 0; have hfz43_1 := blk_frozen BK655.out 1; have hnb44 := NB644_633.out; have hnc44 := NB633_644.out; have hnb45 := NB644_649.out; have hnc45 := NB649_644.out
    have hcz46_0 : w32.cell? ⟨gb644, 0, none⟩ = some (.int .i64 t639) := bc BK644 0
    have hcz46_1 : w32.cell? ⟨gb644, 1, none⟩ = some (.slice Ao23 t640.length co23) := bc BK644 1
    have hfz46_0 := blk_frozen BK644.out 0; have hfz46_1 := blk_frozen BK644.out 1
    go_wp2_with (first | ((with_reducible refine gate_callee (f := 26) rfl ?_); refine goesL_ (some 38) rfl rfl Tryd.func26 (by kernel_rfl) rfl #[.agg #[.int .i64 t650, .slice Ao37 t651.length co37], .agg #[.int .i64 t639, .slice Ao23 t640.length co23]] rfl lz ?_; (with_reducible refine (laws_eqAlphabet.calls k t650 _ _ t651 t639 _ _ t640 true _ ?side1 ?side2 ?side3 ?side4 A38.out).mono ?_); (case side1 => refine (Kd.R_reads' (e := 2) (base := w.heap.size) (ok := fun k_ => (((True ∧ some k_ ≠ (.slice Ao18 t636.length co18 : Value).ownBlock) ∧ some k_ ≠ (.slice Ao23 t640.length co23 : Value).ownBlock) ∧ some k_ ≠ (.slice Ao30 t646.length co30 : Value).ownBlock)) (n := t651.length) (c := co37) ?_).2.2; exact (by (with_reducible repeat (first | apply Kd.R_alloc | apply Kd.R_drewN | apply Kd.R_drew)); exact (Kd.R_mono (Kd.R_far (p := ⟨gb655, 1, none⟩) (Kd.R_far (p := ⟨gb655, 0, none⟩) (Kd.R_types HO653.out BK655.out (by decide)) (fun _ hk => hk.2) (.int .i64 t650)) (fun _ hk => hk.2) (.slice Ao37 t651.length co37)) (fun _ h_ => h_.1)))); (case side2 => exact (Kd.R_reads' HO653.out).2.1); (case side3 => refine (Kd.R_reads' (e := 2) (base := w.heap.size) (ok := fun k_ => (((True ∧ some k_ ≠ (.slice Ao18 t636.length co18 : Value).ownBlock) ∧ some k_ ≠ (.slice Ao30 t646.length co30 : Value).ownBlock) ∧ some k_ ≠ (.slice Ao37 t651.length co37 : Value).ownBlock)) (n := t640.length) (c := co23) ?_).2.2; exact (by (with_reducible repeat (first | apply Kd.R_alloc | apply Kd.R_drewN | apply Kd.R_drew)); exact (Kd.R_mono (Kd.R_far (p := ⟨gb655, 1, none⟩) (Kd.R_far (p := ⟨gb655, 0, none⟩) (Kd.R_types HO642.out BK655.out (by decide)) (fun _ hk => hk.2) (.int .i64 t650)) (fun _ hk => hk.2) (.slice Ao37 t651.length co37)) (fun _ h_ => h_.1)))); (case side4 => exact (Kd.R_reads' HO642.out).2.1); rintro e w47 ⟨rfl, hb⟩; refine ⟨_, rfl, ?_⟩; replace HO638 := Aside0.mk (Kd.R_below (by (with_reducible repeat (first | apply Kd.R_alloc | apply Kd.R_drewN | apply Kd.R_drew)); exact (Kd.R_mono (Kd.R_far (p := ⟨gb655, 1, none⟩) (Kd.R_far (p := ⟨gb655, 0, none⟩) (Kd.R_types HO638.out BK655.out (by decide)) (fun _ hk => hk.2) (.int .i64 t650)) (fun _ hk => hk.2) (.slice Ao37 t651.length co37)) (fun _ h_ => h_.1))) hb); replace HO642 := Aside0.mk (Kd.R_below (by (with_reducible repeat (first | apply Kd.R_alloc | apply Kd.R_drewN | apply Kd.R_drew)); exact (Kd.R_mono (Kd.R_far (p := ⟨gb655, 1, none⟩) (Kd.R_far (p := ⟨gb655, 0, none⟩) (Kd.R_types HO642.out BK655.out (by decide)) (fun _ hk => hk.2) (.int .i64 t650)) (fun _ hk => hk.2) (.slice Ao37 t651.length co37)) (fun _ h_ => h_.1))) hb); replace HO648 := Aside0.mk (Kd.R_below (by (with_reducible repeat (first | apply Kd.R_alloc | apply Kd.R_drewN | apply Kd.R_drew)); exact (Kd.R_mono (Kd.R_far (p := ⟨gb655, 1, none⟩) (Kd.R_far (p := ⟨gb655, 0, none⟩) (Kd.R_types HO648.out BK655.out (by decide)) (fun _ hk => hk.2) (.int .i64 t650)) (fun _ hk => hk.2) (.slice Ao37 t651.length co37)) (fun _ h_ => h_.1))) hb); replace HO653 := Aside0.mk (Kd.R_below (by (with_reducible repeat (first | apply Kd.R_alloc | apply Kd.R_drewN | apply Kd.R_drew)); exact (Kd.R_mono (Kd.R_far (p := ⟨gb655, 1, none⟩) (Kd.R_far (p := ⟨gb655, 0, none⟩) (Kd.R_types HO653.out BK655.out (by decide)) (fun _ hk => hk.2) (.int .i64 t650)) (fun _ hk => hk.2) (.slice Ao37 t651.length co37)) (fun _ h_ => h_.1))) hb); replace BK633 := Aside0.mk (blk_below (blkF BK633) hb); replace BK644 := Aside0.mk (blk_below (blkF BK644) hb); replace BK649 := Aside0.mk (blk_below (blkF BK649) hb); replace BK655 := Aside0.mk (blk_below (g := gb655) (o := .cells #[.int .i64 t650, .slice Ao37 t651.length co37] 38 (0, 0)) (by (with_reducible repeat (first | refine blk_drewN ?_ _ | refine blk_drew ?_ | refine blk_alloc ?_ _)); refine blk_put (cs := #[.int .i64 t650, .slice none 0 0]) ?_ 1 _ rfl; (with_reducible repeat (first | refine blk_drewN ?_ _ | refine blk_drew ?_ | refine blk_alloc ?_ _)); refine blk_put (cs := #[.int .i64 0, .slice none 0 0]) ?_ 0 _ rfl; (with_reducible repeat (first | refine blk_drewN ?_ _ | refine blk_drew ?_ | refine blk_alloc ?_ _)); exact BK655.out) hb); replace HB := Aside0.mk (below_step (beQ HB) hb); (try clear hb); (try clear hb2); (try clear hk); (try clear hi)))
    go_meet
    case rel => exact ⟨_, ((t654 != t643)), sz, H', ⟨by first | omega | exact Nat.le_refl _⟩, ⟨by (with_reducible repeat (first | apply Kd.R_alloc | apply Kd.R_drewN | apply Kd.R_drew)); exact Kd.R_mono HO642.out (fun _ hk => ⟨hk.1.2, hk.2⟩)⟩, ⟨by (with_reducible repeat (first | apply Kd.R_alloc | apply Kd.R_drewN | apply Kd.R_drew)); exact Kd.R_mono HO648.out (fun _ hk => ⟨hk.1.2, hk.2⟩)⟩, ⟨by (with_reducible repeat (first | apply Kd.R_alloc | apply Kd.R_drewN | apply Kd.R_drew)); exact Kd.R_mono HO653.out (fun _ hk => ⟨hk.1.2, hk.2⟩)⟩, ⟨blkQ BK633⟩, ⟨blkQ BK644⟩, ⟨blkQ BK649⟩, ⟨blkQ BK655⟩, ⟨beQ HB⟩⟩
   ·replace c39 := Bool.eq_false_iff.mpr c39
    subst c39
    have H1 : (laws_FnExactPartOfAlphabet.j0 k a1 t643 t654 true a0_0 l0_1 t639 t640 t645 t646 t650 t651) = some r := by rw [if_neg (show ¬ (false = true) by decide)] at H; exact H
    clear H; have H := H1; clear H1
    have H' := Aside0.mk H
    clear H; have hnb48 := NB655_633.out; have hnc48 := NB633_655.out; have hnb49 := NB655_644.out; have hnc49 := NB644_655.out; have hnb50 := NB655_649.out; have hnc50 := NB649_655.out
    have hcz51_0 : w32.cell? ⟨gb655, 0, none⟩ = some (.int .i64 0) := bc BK655 0
    have hcz51_1 : w32.cell? ⟨gb655, 1, none⟩ = some (.slice none 0 0) := bc BK655 1
    have hfz51_0 := blk_frozen BK655.out 0; have hfz51_1 := blk_frozen BK655.out 1; have hnb52 := NB644_633.out; have hnc52 := NB633_644.out; have hnb53 := NB644_649.out; have hnc53 := NB649_644.out
    have hcz54_0 : w32.cell? ⟨gb644, 0, none⟩ = some (.int .i64 t639) := bc BK644 0
    have hcz54_1 : w32.cell? ⟨gb644, 1, none⟩ = some (.slice Ao23 t640.length co23) := bc BK644 1
    have hfz54_0 := blk_frozen BK644.out 0; have hfz54_1 := blk_frozen BK644.out 1
    go_wp2_with (first | ((with_reducible refine gate_callee (f := 26) rfl ?_); refine goesL_ (some 38) rfl rfl Tryd.func26 (by kernel_rfl) rfl #[.agg #[.int .i64 t650, .slice Ao37 t651.length co37], .agg #[.int .i64 t639, .slice Ao23 t640.length co23]] rfl lz ?_; (with_reducible refine (laws_eqAlphabet.calls k t650 _ _ t651 t639 _ _ t640 false _ ?side1 ?side2 ?side3 ?side4 A38.out).mono ?_); (case side1 => refine (Kd.R_reads' (e := 2) (base := w.heap.size) (ok := fun k_ => (((True ∧ some k_ ≠ (.slice Ao18 t636.length co18 : Value).ownBlock) ∧ some k_ ≠ (.slice Ao23 t640.length co23 : Value).ownBlock) ∧ some k_ ≠ (.slice Ao30 t646.length co30 : Value).ownBlock)) (n := t651.length) (c := co37) ?_).2.2; exact (by (with_reducible repeat (first | apply Kd.R_alloc | apply Kd.R_drewN | apply Kd.R_drew)); exact (Kd.R_mono (Kd.R_far (p := ⟨gb655, 1, none⟩) (Kd.R_far (p := ⟨gb655, 0, none⟩) (Kd.R_types HO653.out BK655.out (by decide)) (fun _ hk => hk.2) (.int .i64 t650)) (fun _ hk => hk.2) (.slice Ao37 t651.length co37)) (fun _ h_ => h_.1)))); (case side2 => exact (Kd.R_reads' HO653.out).2.1); (case side3 => refine (Kd.R_reads' (e := 2) (base := w.heap.size) (ok := fun k_ => (((True ∧ some k_ ≠ (.slice Ao18 t636.length co18 : Value).ownBlock) ∧ some k_ ≠ (.slice Ao30 t646.length co30 : Value).ownBlock) ∧ some k_ ≠ (.slice Ao37 t651.length co37 : Value).ownBlock)) (n := t640.length) (c := co23) ?_).2.2; exact (by (with_reducible repeat (first | apply Kd.R_alloc | apply Kd.R_drewN | apply Kd.R_drew)); exact (Kd.R_mono (Kd.R_far (p := ⟨gb655, 1, none⟩) (Kd.R_far (p := ⟨gb655, 0, none⟩) (Kd.R_types HO642.out BK655.out (by decide)) (fun _ hk => hk.2) (.int .i64 t650)) (fun _ hk => hk.2) (.slice Ao37 t651.length co37)) (fun _ h_ => h_.1)))); (case side4 => exact (Kd.R_reads' HO642.out).2.1); rintro e w55 ⟨rfl, hb⟩; refine ⟨_, rfl, ?_⟩; replace HO638 := Aside0.mk (Kd.R_below (by (with_reducible repeat (first | apply Kd.R_alloc | apply Kd.R_drewN | apply Kd.R_drew)); exact (Kd.R_mono (Kd.R_far (p := ⟨gb655, 1, none⟩) (Kd.R_far (p := ⟨gb655, 0, none⟩) (Kd.R_types HO638.out BK655.out (by decide)) (fun _ hk => hk.2) (.int .i64 t650)) (fun _ hk => hk.2) (.slice Ao37 t651.length co37)) (fun _ h_ => h_.1))) hb); replace HO642 := Aside0.mk (Kd.R_below (by (with_reducible repeat (first | apply Kd.R_alloc | apply Kd.R_drewN | apply Kd.R_drew)); exact (Kd.R_mono (Kd.R_far (p := ⟨gb655, 1, none⟩) (Kd.R_far (p := ⟨gb655, 0, none⟩) (Kd.R_types HO642.out BK655.out (by decide)) (fun _ hk => hk.2) (.int .i64 t650)) (fun _ hk => hk.2) (.slice Ao37 t651.length co37)) (fun _ h_ => h_.1))) hb); replace HO648 := Aside0.mk (Kd.R_below (by (with_reducible repeat (first | apply Kd.R_alloc | apply Kd.R_drewN | apply Kd.R_drew)); exact (Kd.R_mono (Kd.R_far (p := ⟨gb655, 1, none⟩) (Kd.R_far (p := ⟨gb655, 0, none⟩) (Kd.R_types HO648.out BK655.out (by decide)) (fun _ hk => hk.2) (.int .i64 t650)) (fun _ hk => hk.2) (.slice Ao37 t651.length co37)) (fun _ h_ => h_.1))) hb); replace HO653 := Aside0.mk (Kd.R_below (by (with_reducible repeat (first | apply Kd.R_alloc | apply Kd.R_drewN | apply Kd.R_drew)); exact (Kd.R_mono (Kd.R_far (p := ⟨gb655, 1, none⟩) (Kd.R_far (p := ⟨gb655, 0, none⟩) (Kd.R_types HO653.out BK655.out (by decide)) (fun _ hk => hk.2) (.int .i64 t650)) (fun _ hk => hk.2) (.slice Ao37 t651.length co37)) (fun _ h_ => h_.1))) hb); replace BK633 := Aside0.mk (blk_below (blkF BK633) hb); replace BK644 := Aside0.mk (blk_below (blkF BK644) hb); replace BK649 := Aside0.mk (blk_below (blkF BK649) hb); replace BK655 := Aside0.mk (blk_below (g := gb655) (o := .cells #[.int .i64 t650, .slice Ao37 t651.length co37] 38 (0, 0)) (by (with_reducible repeat (first | refine blk_drewN ?_ _ | refine blk_drew ?_ | refine blk_alloc ?_ _)); refine blk_put (cs := #[.int .i64 t650, .slice none 0 0]) ?_ 1 _ rfl; (with_reducible repeat (first | refine blk_drewN ?_ _ | refine blk_drew ?_ | refine blk_alloc ?_ _)); refine blk_put (cs := #[.int .i64 0, .slice none 0 0]) ?_ 0 _ rfl; (with_reducible repeat (first | refine blk_drewN ?_ _ | refine blk_drew ?_ | refine blk_alloc ?_ _)); exact BK655.out) hb); replace HB := Aside0.mk (below_step (beQ HB) hb); (try clear hb); (try clear hb2); (try clear hk); (try clear hi)))
    go_meet
    case rel => exact ⟨_, (true), sz, H', ⟨by first | omega | exact Nat.le_refl _⟩, ⟨by (with_reducible repeat (first | apply Kd.R_alloc | apply Kd.R_drewN | apply Kd.R_drew)); exact Kd.R_mono HO642.out (fun _ hk => ⟨hk.1.2, hk.2⟩)⟩, ⟨by (with_reducible repeat (first | apply Kd.R_alloc | apply Kd.R_drewN | apply Kd.R_drew)); exact Kd.R_mono HO648.out (fun _ hk => ⟨hk.1.2, hk.2⟩)⟩, ⟨by (with_reducible repeat (first | apply Kd.R_alloc | apply Kd.R_drewN | apply Kd.R_drew)); exact Kd.R_mono HO653.out (fun _ hk => ⟨hk.1.2, hk.2⟩)⟩, ⟨blkQ BK633⟩, ⟨blkQ BK644⟩, ⟨blkQ BK649⟩, ⟨blkQ BK655⟩, ⟨beQ HB⟩⟩
  case rest =>
   clear HC12
   try clear c2
   try clear p2
   try clear c3
   try clear c4
   try clear c4b0
   try clear c5
   try clear c9
   try clear c21
   try clear c26
   try clear c27
   try clear c28
   try clear c33
   try clear c34
   try clear c35
   try clear c37
   try clear c39
   try clear c40
   try clear c41
   try clear c42
   try clear c44
   try clear c45
   try clear c48
   try clear c49
   try clear c50
   try clear c52
   try clear c53
   try clear hcz14_0
   try clear hcz14_1
   try clear hcz16_0
   try clear hcz16_1
   try clear hcz22_0
   try clear hcz22_1
   try clear hcz24_0
   try clear hcz24_1
   try clear hcz29_0
   try clear hcz29_1
   try clear hcz36_0
   try clear hcz36_1
   try clear hcz43_0
   try clear hcz43_1
   try clear hcz46_0
   try clear hcz46_1
   try clear hcz51_0
   try clear hcz51_1
   try clear hcz54_0
   try clear hcz54_1
   try clear hcz6_0
   try clear hcz6_1
   try clear hfz14_0
   try clear hfz14_1
   try clear hfz16_0
   try clear hfz16_1
   try clear hfz22_0
   try clear hfz22_1
   try clear hfz24_0
   try clear hfz24_1
   try clear hfz29_0
   try clear hfz29_1
   try clear hfz36_0
   try clear hfz36_1
   try clear hfz43_0
   try clear hfz43_1
   try clear hfz46_0
   try clear hfz46_1
   try clear hfz51_0
   try clear hfz51_1
   try clear hfz54_0
   try clear hfz54_1
   try clear hfz6_0
   try clear hfz6_1
   obtain ⟨kq, x44_11, rfl, HA, HJ11, HO_645001, HO_650001, HO_656001, BK633, BK644, BK649, BK655, HB⟩ := hcut
   cases kq with
   | zero => exact absurd HA.out (by simp [laws_FnExactPartOfAlphabet.j0])
   | succ kj11 =>
    have H := HA.out; clear HA
    simp only [laws_FnExactPartOfAlphabet.j0] at H
    by_cases c56 : x44_11 = true
    ·subst c56
     have H1 : (some false) = some r := by rw [if_pos rfl] at H; exact H
     clear H; have H := H1; clear H1
     obtain rfl := Option.some.inj H
     go_wp2
     go_ret
     exact ⟨rz, beQ HB⟩
    ·replace c56 := Bool.eq_false_iff.mpr c56
     subst c56
     have H1 : ((laws_toAlphabet.f kj11 a0_0 l0_1).bind fun bt657 => ((laws_eqAlphabet.f kj11 t645 t646 bt657.1 bt657.2).bind fun t661 => (if t661 = true then ((laws_markAlphabet.f kj11 t645 t646 1).bind fun bt662 => (if bt662.1 < 0 then (laws_FnExactPartOfAlphabet.j1 kj11 a1 t643 true a0_0 l0_1 t639 t640 t650 t651) else ((laws_eqAlphabet.f kj11 t650 t651 t639 t640).bind fun t664 => (if t664 = true then (laws_FnExactPartOfAlphabet.j1 kj11 a1 t643 (t654 != t643) a0_0 l0_1 t639 t640 t650 t651) else (laws_FnExactPartOfAlphabet.j1 kj11 a1 t643 true a0_0 l0_1 t639 t640 t650 t651))))) else (some false)))) = some r := by rw [if_neg (show ¬ (false = true) by decide)] at H; exact H
     clear H; have H := H1; clear H1; replace H := Option.bind_eq_some_iff.mp H
     obtain ⟨⟨t657, t658⟩, A570, H⟩ := H
     replace H : ((laws_eqAlphabet.f kj11 t645 t646 t657 t658).bind fun t661 => (if t661 = true then ((laws_markAlphabet.f kj11 t645 t646 1).bind fun bt662 => (if bt662.1 < 0 then (laws_FnExactPartOfAlphabet.j1 kj11 a1 t643 true a0_0 l0_1 t639 t640 t650 t651) else ((laws_eqAlphabet.f kj11 t650 t651 t639 t640).bind fun t664 => (if t664 = true then (laws_FnExactPartOfAlphabet.j1 kj11 a1 t643 (t654 != t643) a0_0 l0_1 t639 t640 t650 t651) else (laws_FnExactPartOfAlphabet.j1 kj11 a1 t643 true a0_0 l0_1 t639 t640 t650 t651))))) else (some false))) = some r := H
     have A57 := Aside0.mk A570; clear A570; replace H := Option.bind_eq_some_iff.mp H; obtain ⟨t661, A580, H⟩ := H
     replace H : (if t661 = true then ((laws_markAlphabet.f kj11 t645 t646 1).bind fun bt662 => (if bt662.1 < 0 then (laws_FnExactPartOfAlphabet.j1 kj11 a1 t643 true a0_0 l0_1 t639 t640 t650 t651) else ((laws_eqAlphabet.f kj11 t650 t651 t639 t640).bind fun t664 => (if t664 = true then (laws_FnExactPartOfAlphabet.j1 kj11 a1 t643 (t654 != t643) a0_0 l0_1 t639 t640 t650 t651) else (laws_FnExactPartOfAlphabet.j1 kj11 a1 t643 true a0_0 l0_1 t639 t640 t650 t651))))) else (some false)) = some r := H
     have A58 := Aside0.mk A580; clear A580
     by_cases c59 : t661 = true
     ·subst c59
      have H1 : ((laws_markAlphabet.f kj11 t645 t646 1).bind fun bt662 => (if bt662.1 < 0 then (laws_FnExactPartOfAlphabet.j1 kj11 a1 t643 true a0_0 l0_1 t639 t640 t650 t651) else ((laws_eqAlphabet.f kj11 t650 t651 t639 t640).bind fun t664 => (if t664 = true then (laws_FnExactPartOfAlphabet.j1 kj11 a1 t643 (t654 != t643) a0_0 l0_1 t639 t640 t650 t651) else (laws_FnExactPartOfAlphabet.j1 kj11 a1 t643 true a0_0 l0_1 t639 t640 t650 t651))))) = some r := by rw [if_pos rfl] at H; exact H
      clear H; have H := H1; clear H1; replace H := Option.bind_eq_some_iff.mp H
      obtain ⟨⟨t662, t663⟩, A600, H⟩ := H
      replace H : (if t662 < 0 then (laws_FnExactPartOfAlphabet.j1 kj11 a1 t643 true a0_0 l0_1 t639 t640 t650 t651) else ((laws_eqAlphabet.f kj11 t650 t651 t639 t640).bind fun t664 => (if t664 = true then (laws_FnExactPartOfAlphabet.j1 kj11 a1 t643 (t654 != t643) a0_0 l0_1 t639 t640 t650 t651) else (laws_FnExactPartOfAlphabet.j1 kj11 a1 t643 true a0_0 l0_1 t639 t640 t650 t651)))) = some r := H
      have A60 := Aside0.mk A600; clear A600; have HC61 := Aside0.mk H; clear H
      try go_wp2
      replace HO_645001 := Aside0.mk (Kd.R_drew HO_645001.out); replace HO_650001 := Aside0.mk (Kd.R_drew HO_650001.out); replace HO_656001 := Aside0.mk (Kd.R_drew HO_656001.out); replace BK633 := Aside0.mk (blk_drew BK633.out); replace BK644 := Aside0.mk (blk_drew BK644.out); replace BK649 := Aside0.mk (blk_drew BK649.out); replace BK655 := Aside0.mk (blk_drew BK655.out); replace HB := Aside0.mk (below_drew1 HB.out)
      refine start_ (n := 5) (S := fun w' => w'.cell? ⟨gb649, 0, none⟩ = some (.int .i64 t645) ∧ w'.cell? ⟨gb649, 1, none⟩ = some (.slice Ao30 t646.length co30) ∧ w'.cell? ⟨gb633, 0, none⟩ = some (.int .i64 a0_0) ∧ w'.cell? ⟨gb633, 1, none⟩ = some (.slice A0_1 l0_1.length c0_1)) (ds := []) #[false, false, false, false, false] (by kernel_rfl) rfl rfl ⟨bc BK649 0, bc BK649 1, bc BK633 0, bc BK633 1⟩ (fun hHeld => ?_)
      generalize wc.drew = w62 at HO_645001 HO_650001 HO_656001 BK633 BK644 BK649 BK655 HB hHeld ⊢
      refine take_ (i := 0) (N := some 45) (v := ?_) (a' := ?_) #[true, false, false, false, false] rfl rfl (by kernel_rfl) (fun _ _ _ h => h) (Or.inl ⟨by rfl, ?_⟩) hHeld ?_ ?_
      rotate_left
      ·rintro w' ⟨s0, s1, s2, s3⟩
       go_simp
       with_reducible rfl
      rotate_left
      ·simp only [Act.put, s1, s2, s3, i64_w, i32_w]
       rfl
      refine take_ (i := 1) (N := some 46) (v := ?_) (a' := ?_) #[true, true, false, false, false] rfl rfl (by kernel_rfl) (fun _ _ _ h => h) (Or.inl ⟨by rfl, ?_⟩) hHeld ?_ ?_
      rotate_left
      ·rintro w' ⟨s0, s1, s2, s3⟩
       go_simp
       with_reducible rfl
      rotate_left
      ·simp only [Act.put, s1, s2, s3, i64_w, i32_w]
       rfl
      refine one_ (i := 2) (N := some 47) #[true, true, true, false, false] rfl rfl (by kernel_rfl) (by decide) (fun K hK => ?_)
      refine goes_ Tryd.func37 (by kernel_rfl) rfl #[.agg #[.int .i64 a0_0, .slice A0_1 l0_1.length c0_1]] (by rfl) rfl rfl lz ?_
      with_reducible refine (laws_toAlphabet.calls kj11 a0_0 _ _ l0_1 t657 t658 _ ?side1 ?side2 A57.out).mono ?_
      (case side1 => have q_ := Aside0.mk (Kd.C_below HR0_1.out HB.out); exact cQ q_)
      (case side2 => exact HC0_1.out)
      rintro e w63 ⟨v659, rfl, ho0, hb⟩
      refine ⟨_, rfl, ?_⟩
      have HO660 := Aside0.mk (Kd.R_lower (Kd.R_new' (Kd.R_new' (Kd.R_new' ho0 (Kd.R_lt (kdQ HO_645001))) (Kd.R_lt (kdQ HO_650001))) (Kd.R_lt (kdQ HO_656001))) (below_size (beQ HB))); replace HO_645001 := Aside0.mk (Kd.R_elder' (kdQ HO_645001) (Kd.R_base ho0) hb); replace HO_650001 := Aside0.mk (Kd.R_elder' (kdQ HO_650001) (Kd.R_base ho0) hb); replace HO_656001 := Aside0.mk (Kd.R_elder' (kdQ HO_656001) (Kd.R_base ho0) hb); replace BK633 := bb BK633 hb; replace BK644 := bb BK644 hb; replace BK649 := bb BK649 hb; replace BK655 := bb BK655 hb; replace HB := Aside0.mk (below_step (beQ HB) hb)
      (try clear hb)
      (try clear hb2)
      (try clear hk)
      (try clear hi)
      (try clear ho0)
      obtain ⟨Ao64, co64, eo64⟩ := Kd.R_slice HO660.out
      (first | subst eo64 | (injection eo64 with f1_ f2_ f3_; have f4_ := f1_.symm; have f5_ := f3_.symm; clear f1_ f2_ f3_; subst f4_; subst f5_))
      refine hK.out _ _ ⟨bc BK649 0, bc BK649 1, bc BK633 0, bc BK633 1⟩ (fun hHeld => ?_)
      clear hK K
      refine norm_ (a' := ?_) ?_ ?_
      rotate_left
      ·show Act.put _ (some 47) _ = _
       simp only [Act.put, s1, s2, s3, i64_w, i32_w]
       rfl
      refine one_ (i := 3) (N := some 48) #[true, true, true, true, false] rfl rfl (by kernel_rfl) (by decide) (fun K hK => ?_)
      refine goes_ Tryd.func26 (by kernel_rfl) rfl #[.agg #[.int .i64 t645, .slice Ao30 t646.length co30], .agg #[.int .i64 t657, .slice Ao64 t658.length co64]] (by rfl) rfl rfl lz ?_
      with_reducible refine (laws_eqAlphabet.calls kj11 t645 _ _ t646 t657 _ _ t658 true _ ?side1 ?side2 ?side3 ?side4 A58.out).mono ?_
      (case side1 => have q_ := Aside0.mk (Kd.R_reads' HO_650001.out).2.2; exact cQ q_)
      (case side2 => exact (Kd.R_reads' HO_650001.out).2.1)
      (case side3 => have q_ := Aside0.mk (Kd.R_reads' HO660.out).2.2; exact cQ q_)
      (case side4 => exact (Kd.R_reads' HO660.out).2.1)
      rintro e w65 ⟨rfl, hb⟩
      refine ⟨_, rfl, ?_⟩
      replace HO_645001 := kb HO_645001 hb; replace HO_650001 := kb HO_650001 hb; replace HO_656001 := kb HO_656001 hb; replace HO660 := kb HO660 hb; replace BK633 := bb BK633 hb; replace BK644 := bb BK644 hb; replace BK649 := bb BK649 hb; replace BK655 := bb BK655 hb; replace HB := Aside0.mk (below_step (beQ HB) hb)
      (try clear hb)
      (try clear hb2)
      (try clear hk)
      (try clear hi)
      refine hK.out _ _ ⟨bc BK649 0, bc BK649 1, bc BK633 0, bc BK633 1⟩ (fun hHeld => ?_)
      clear hK K
      refine norm_ (a' := ?_) ?_ ?_
      rotate_left
      ·show Act.put _ (some 48) _ = _
       simp only [Act.put, s1, s2, s3, i64_w, i32_w]
       rfl
      refine pure_ (i := 4) (N := some 49) (v := ?_) (a' := ?_) #[true, true, true, true, true] rfl rfl (by kernel_rfl) (fun _ _ _ h => h) (Or.inl ⟨by rfl, ?_⟩) ?_ ?_
      rotate_left
      ·intro w'
       go_simp
       with_reducible rfl
      rotate_left
      ·simp only [Act.put, s1, s2, s3, i64_w, i32_w]
       rfl
      refine done_ (by kernel_rfl) ?_
      have hnb66 := NB649_633.out; have hnc66 := NB633_649.out; have hnb67 := NB649_644.out; have hnc67 := NB644_649.out; have hnb68 := NB649_655.out; have hnc68 := NB655_649.out
      have hcz69_0 : w65.cell? ⟨gb649, 0, none⟩ = some (.int .i64 t645) := bc BK649 0
      have hcz69_1 : w65.cell? ⟨gb649, 1, none⟩ = some (.slice Ao30 t646.length co30) := bc BK649 1
      have hfz69_0 := blk_frozen BK649.out 0; have hfz69_1 := blk_frozen BK649.out 1
      go_upto_region 14 with (first | ((with_reducible refine gate_callee (f := 28) rfl ?_); refine goesL_ (some 52) rfl rfl Tryd.func28 (by kernel_rfl) rfl #[.agg #[.int .i64 t645, .slice Ao30 t646.length co30], .int .i64 1] rfl lz ?_; (with_reducible refine (laws_markAlphabet.calls kj11 t645 (fun k_ => some k_ = (.slice Ao30 t646.length co30 : Value).ownBlock) (.slice Ao30 t646.length co30) t646 1 t662 t663 w _ ?side1 ?side2 A60.out).mono ?_); (case side1 => repeat (first | (with_reducible first | exact HB.out | apply below_alloc | apply pw_below_drewN | apply below_drew1 | refine below_set ?_ GE633.out | refine below_set ?_ GE644.out | refine below_set ?_ GE649.out | refine below_set ?_ GE655.out) | exact HB.out)); (case side2 => exact Kd.R_tight rfl HO_650001.out); rintro e w70 ⟨rfl, hy0, hb, hkp⟩; refine ⟨_, rfl, ?_⟩; replace HO_645001 := Aside0.mk (Kd.R_mono (ok' := fun k_ => some k_ ≠ (.slice Ao30 t646.length co30 : Value).ownBlock ∧ some k_ ≠ (.slice Ao37 t651.length co37 : Value).ownBlock ∧ some k_ ≠ (.slice Ao64 t658.length co64 : Value).ownBlock) (Kd.R_keptB (HO_645001.out) hkp (fun k_ hk_ hs_ => (hk_.1.1) hs_)) (fun k_ hk_ => ⟨hk_.1.1.1, hk_.1.1.2, hk_.1.2⟩)); replace HO_656001 := Aside0.mk (Kd.R_mono (ok' := fun k_ => some k_ ≠ (.slice Ao23 t640.length co23 : Value).ownBlock ∧ some k_ ≠ (.slice Ao30 t646.length co30 : Value).ownBlock ∧ some k_ ≠ (.slice Ao64 t658.length co64 : Value).ownBlock) (Kd.R_keptB (HO_656001.out) hkp (fun k_ hk_ hs_ => (hk_.1.2) hs_)) (fun k_ hk_ => ⟨hk_.1.1.1, hk_.1.1.2, hk_.1.2⟩)); replace BK633 := Aside0.mk (blk_kept (blkQ BK633) hkp (fun hs_ => (fun e_ => (Kd.R_ne HO_650001.out BK633.out (by decide)) e_) hs_)); replace BK644 := Aside0.mk (blk_kept (blkQ BK644) hkp (fun hs_ => (fun e_ => (Kd.R_ne HO_650001.out BK644.out (by decide)) e_) hs_)); replace BK649 := Aside0.mk (blk_kept (blkQ BK649) hkp (fun hs_ => (fun e_ => (Kd.R_ne HO_650001.out BK649.out (by decide)) e_) hs_)); replace BK655 := Aside0.mk (blk_kept (blkQ BK655) hkp (fun hs_ => (fun e_ => (Kd.R_ne HO_650001.out BK655.out (by decide)) e_) hs_)); replace HO_650001 := Aside0.mk (Kd.R_reok rfl hy0 (fun k_ e_ => HO_650001.out.1 k_ e_)); replace HO660 := Aside0.mk (Kd.R_mono (ok' := fun k_ => some k_ ≠ (.slice Ao23 t640.length co23 : Value).ownBlock ∧ some k_ ≠ (.slice Ao30 t646.length co30 : Value).ownBlock ∧ some k_ ≠ (.slice Ao37 t651.length co37 : Value).ownBlock) (Kd.R_keptB (HO660.out) hkp (fun k_ hk_ hs_ => (hk_.1.2) hs_)) (fun k_ hk_ => ⟨hk_.1.1.1.2, hk_.1.1.2, hk_.1.2⟩)); replace HB := Aside0.mk (hb); (try clear hb); (try clear hkp); (try clear hy0)))
      (try simp only [Act.put, List.setIfInBounds_toArray, List.set_cons_zero, List.set_cons_succ])
      go_cut [65] (fun v65 wc => ∃ (kq : Nat) (x65_60 : Bool), v65 = .bool x65_60 ∧ Aside0 (laws_FnExactPartOfAlphabet.j1 kq a1 t643 x65_60 a0_0 l0_1 t639 t640 t650 t651 = some r) ∧ Aside0 (kq ≤ kj11) ∧ Aside0 (Kd.R (Kd.int .i64) 2 wc w.heap.size (fun k_ => some k_ ≠ ((.slice Ao30 t646.length co30) : Value).ownBlock ∧ some k_ ≠ ((.slice Ao37 t651.length co37) : Value).ownBlock) (.slice Ao23 t640.length co23) t640) ∧ Aside0 (Kd.R (Kd.int .i64) 2 wc w.heap.size (fun k_ => some k_ ≠ ((.slice Ao23 t640.length co23) : Value).ownBlock ∧ some k_ ≠ ((.slice Ao37 t651.length co37) : Value).ownBlock) (.slice Ao30 t646.length co30) t663) ∧ Aside0 (Kd.R (Kd.int .i64) 2 wc w.heap.size (fun k_ => some k_ ≠ ((.slice Ao23 t640.length co23) : Value).ownBlock ∧ some k_ ≠ ((.slice Ao30 t646.length co30) : Value).ownBlock) (.slice Ao37 t651.length co37) t651) ∧ Aside0 (wc.heap[gb633]? = some (.cells #[.int .i64 a0_0, (.slice A0_1 l0_1.length c0_1)] 46 (0, 0))) ∧ Aside0 (wc.heap[gb644]? = some (.cells #[.int .i64 t639, (.slice Ao23 t640.length co23)] 38 (0, 0))) ∧ Aside0 (wc.heap[gb649]? = some (.cells #[.int .i64 t645, (.slice Ao30 t646.length co30)] 38 (0, 0))) ∧ Aside0 (wc.heap[gb655]? = some (.cells #[.int .i64 t650, (.slice Ao37 t651.length co37)] 38 (0, 0))) ∧ Aside0 (Below w.heap.size w wc))
      case first =>
       have H := HC61.out; clear HC61
       by_cases c71 : t662 < 0
       ·rw [if_pos c71] at H
        have c71b0 : decide (t662 < 0) = true := decide_eq_true c71
        clear c71
        (first | rw [c71b0] | (simp only [i64_w, i32_w]; rw [c71b0]) | skip)
        have H' := Aside0.mk H
        clear H
        go_wp2
        go_meet
        case rel => exact ⟨_, (true), sz, H', ⟨by have := HJ11.out; first | omega | exact Nat.le_refl _⟩, ⟨by (with_reducible repeat (first | apply Kd.R_alloc | apply Kd.R_drewN | apply Kd.R_drew)); exact Kd.R_mono HO_645001.out (fun _ hk => ⟨hk.1, hk.2.1⟩)⟩, ⟨by (with_reducible repeat (first | apply Kd.R_alloc | apply Kd.R_drewN | apply Kd.R_drew)); exact Kd.R_mono HO_650001.out (fun _ hk => ⟨hk.1.1, hk.1.2⟩)⟩, ⟨by (with_reducible repeat (first | apply Kd.R_alloc | apply Kd.R_drewN | apply Kd.R_drew)); exact Kd.R_mono HO_656001.out (fun _ hk => ⟨hk.1, hk.2.1⟩)⟩, ⟨blkQ BK633⟩, ⟨blkQ BK644⟩, ⟨blkQ BK649⟩, ⟨blkQ BK655⟩, ⟨beQ HB⟩⟩
       ·rw [if_neg c71] at H
        have c71b0 : decide (t662 < 0) = false := decide_eq_false c71
        clear c71
        (first | rw [c71b0] | (simp only [i64_w, i32_w]; rw [c71b0]) | skip)
        replace H := Option.bind_eq_some_iff.mp H; obtain ⟨t664, A720, H⟩ := H
        replace H : (if t664 = true then (laws_FnExactPartOfAlphabet.j1 kj11 a1 t643 (t654 != t643) a0_0 l0_1 t639 t640 t650 t651) else (laws_FnExactPartOfAlphabet.j1 kj11 a1 t643 true a0_0 l0_1 t639 t640 t650 t651)) = some r := H
        have A72 := Aside0.mk A720; clear A720
        by_cases c73 : t664 = true
        ·subst c73
         have H1 : (laws_FnExactPartOfAlphabet.j1 kj11 a1 t643 (t654 != t643) a0_0 l0_1 t639 t640 t650 t651) = some r := by rw [if_pos rfl] at H; exact H
         clear H; have H := H1; clear H1
         have H' := Aside0.mk H
         clear H; have hnb74 := NB655_633.out; have hnc74 := NB633_655.out; have hnb75 := NB655_644.out; have hnc75 := NB644_655.out; have hnb76 := NB655_649.out; have hnc76 := NB649_655.out
         have hcz77_0 : w70.cell? ⟨gb655, 0, none⟩ = some (.int .i64 t650) := bc BK655 0
         have hcz77_1 : w70.cell? ⟨gb655, 1, none⟩ = some (.slice Ao37 t651.length co37) := bc BK655 1
         have hfz77_0 := blk_frozen BK655.out 0; have hfz77_1 := blk_frozen BK655.out 1; have hnb78 := NB644_633.out; have hnc78 := NB633_644.out; have hnb79 := NB644_649.out; have hnc79 := NB649_644.out
         have hcz80_0 : w70.cell? ⟨gb644, 0, none⟩ = some (.int .i64 t639) := bc BK644 0
         have hcz80_1 : w70.cell? ⟨gb644, 1, none⟩ = some (.slice Ao23 t640.length co23) := bc BK644 1
         have hfz80_0 := blk_frozen BK644.out 0; have hfz80_1 := blk_frozen BK644.out 1
         go_wp2_with (first | (go_at_call 26; (with_reducible refine (laws_eqAlphabet.calls kj11 t650 _ _ t651 t639 _ _ t640 true _ ?side1 ?side2 ?side3 ?side4 A72.out).mono ?_); (case side1 => have q_ := Aside0.mk (Kd.R_reads' HO_656001.out).2.2; exact cQ q_); (case side2 => exact (Kd.R_reads' HO_656001.out).2.1); (case side3 => have q_ := Aside0.mk (Kd.R_reads' HO_645001.out).2.2; exact cQ q_); (case side4 => exact (Kd.R_reads' HO_645001.out).2.1); rintro e w81 ⟨rfl, hb⟩; replace HO_645001 := kb HO_645001 hb; replace HO_650001 := kb HO_650001 hb; replace HO_656001 := kb HO_656001 hb; replace HO660 := kb HO660 hb; replace BK633 := bb BK633 hb; replace BK644 := bb BK644 hb; replace BK649 := bb BK649 hb; replace BK655 := bb BK655 hb; replace HB := Aside0.mk (below_step (beQ HB) hb); (try clear hb); (try clear hb2); (try clear hk); (try clear hi)))
         go_meet
         case rel => exact ⟨_, ((t654 != t643)), sz, H', ⟨by have := HJ11.out; first | omega | exact Nat.le_refl _⟩, ⟨by (with_reducible repeat (first | apply Kd.R_alloc | apply Kd.R_drewN | apply Kd.R_drew)); exact Kd.R_mono HO_645001.out (fun _ hk => ⟨hk.1, hk.2.1⟩)⟩, ⟨by (with_reducible repeat (first | apply Kd.R_alloc | apply Kd.R_drewN | apply Kd.R_drew)); exact Kd.R_mono HO_650001.out (fun _ hk => ⟨hk.1.1, hk.1.2⟩)⟩, ⟨by (with_reducible repeat (first | apply Kd.R_alloc | apply Kd.R_drewN | apply Kd.R_drew)); exact Kd.R_mono HO_656001.out (fun _ hk => ⟨hk.1, hk.2.1⟩)⟩, ⟨blkQ BK633⟩, ⟨blkQ BK644⟩, ⟨blkQ BK649⟩, ⟨blkQ BK655⟩, ⟨beQ HB⟩⟩
        ·replace c73 := Bool.eq_false_iff.mpr c73
         subst c73
         have H1 : (laws_FnExactPartOfAlphabet.j1 kj11 a1 t643 true a0_0 l0_1 t639 t640 t650 t651) = some r := by rw [if_neg (show ¬ (false = true) by decide)] at H; exact H
         clear H; have H := H1; clear H1
         have H' := Aside0.mk H
         clear H; have hnb82 := NB655_633.out; have hnc82 := NB633_655.out; have hnb83 := NB655_644.out; have hnc83 := NB644_655.out; have hnb84 := NB655_649.out; have hnc84 := NB649_655.out
         have hcz85_0 : w70.cell? ⟨gb655, 0, none⟩ = some (.int .i64 t650) := bc BK655 0
         have hcz85_1 : w70.cell? ⟨gb655, 1, none⟩ = some (.slice Ao37 t651.length co37) := bc BK655 1
         have hfz85_0 := blk_frozen BK655.out 0; have hfz85_1 := blk_frozen BK655.out 1; have hnb86 := NB644_633.out; have hnc86 := NB633_644.out; have hnb87 := NB644_649.out; have hnc87 := NB649_644.out
         have hcz88_0 : w70.cell? ⟨gb644, 0, none⟩ = some (.int .i64 t639) := bc BK644 0
         have hcz88_1 : w70.cell? ⟨gb644, 1, none⟩ = some (.slice Ao23 t640.length co23) := bc BK644 1
         have hfz88_0 := blk_frozen BK644.out 0; have hfz88_1 := blk_frozen BK644.out 1
         go_wp2_with (first | (go_at_call 26; (with_reducible refine (laws_eqAlphabet.calls kj11 t650 _ _ t651 t639 _ _ t640 false _ ?side1 ?side2 ?side3 ?side4 A72.out).mono ?_); (case side1 => have q_ := Aside0.mk (Kd.R_reads' HO_656001.out).2.2; exact cQ q_); (case side2 => exact (Kd.R_reads' HO_656001.out).2.1); (case side3 => have q_ := Aside0.mk (Kd.R_reads' HO_645001.out).2.2; exact cQ q_); (case side4 => exact (Kd.R_reads' HO_645001.out).2.1); rintro e w89 ⟨rfl, hb⟩; replace HO_645001 := kb HO_645001 hb; replace HO_650001 := kb HO_650001 hb; replace HO_656001 := kb HO_656001 hb; replace HO660 := kb HO660 hb; replace BK633 := bb BK633 hb; replace BK644 := bb BK644 hb; replace BK649 := bb BK649 hb; replace BK655 := bb BK655 hb; replace HB := Aside0.mk (below_step (beQ HB) hb); (try clear hb); (try clear hb2); (try clear hk); (try clear hi)))
         go_meet
         case rel => exact ⟨_, (true), sz, H', ⟨by have := HJ11.out; first | omega | exact Nat.le_refl _⟩, ⟨by (with_reducible repeat (first | apply Kd.R_alloc | apply Kd.R_drewN | apply Kd.R_drew)); exact Kd.R_mono HO_645001.out (fun _ hk => ⟨hk.1, hk.2.1⟩)⟩, ⟨by (with_reducible repeat (first | apply Kd.R_alloc | apply Kd.R_drewN | apply Kd.R_drew)); exact Kd.R_mono HO_650001.out (fun _ hk => ⟨hk.1.1, hk.1.2⟩)⟩, ⟨by (with_reducible repeat (first | apply Kd.R_alloc | apply Kd.R_drewN | apply Kd.R_drew)); exact Kd.R_mono HO_656001.out (fun _ hk => ⟨hk.1, hk.2.1⟩)⟩, ⟨blkQ BK633⟩, ⟨blkQ BK644⟩, ⟨blkQ BK649⟩, ⟨blkQ BK655⟩, ⟨beQ HB⟩⟩
      case rest =>
       clear HC61
       try clear c2
       try clear p2
       try clear c3
       try clear c4
       try clear c4b0
       try clear c5
       try clear c6
       try clear c7
       try clear c8
       try clear c9
       try clear c21
       try clear c26
       try clear c27
       try clear c28
       try clear c33
       try clear c34
       try clear c35
       try clear c37
       try clear c39
       try clear c40
       try clear c41
       try clear c42
       try clear c44
       try clear c45
       try clear c48
       try clear c49
       try clear c50
       try clear c52
       try clear c53
       try clear c56
       try clear c59
       try clear c66
       try clear c67
       try clear c68
       try clear c71
       try clear c71b0
       try clear c73
       try clear c74
       try clear c75
       try clear c76
       try clear c78
       try clear c79
       try clear c82
       try clear c83
       try clear c84
       try clear c86
       try clear c87
       try clear hcz14_0
       try clear hcz14_1
       try clear hcz16_0
       try clear hcz16_1
       try clear hcz22_0
       try clear hcz22_1
       try clear hcz24_0
       try clear hcz24_1
       try clear hcz29_0
       try clear hcz29_1
       try clear hcz36_0
       try clear hcz36_1
       try clear hcz43_0
       try clear hcz43_1
       try clear hcz46_0
       try clear hcz46_1
       try clear hcz51_0
       try clear hcz51_1
       try clear hcz54_0
       try clear hcz54_1
       try clear hcz69_0
       try clear hcz69_1
       try clear hcz6_0
       try clear hcz6_1
       try clear hcz77_0
       try clear hcz77_1
       try clear hcz80_0
       try clear hcz80_1
       try clear hcz85_0
       try clear hcz85_1
       try clear hcz88_0
       try clear hcz88_1
       try clear hfz14_0
       try clear hfz14_1
       try clear hfz16_0
       try clear hfz16_1
       try clear hfz22_0
       try clear hfz22_1
       try clear hfz24_0
       try clear hfz24_1
       try clear hfz29_0
       try clear hfz29_1
       try clear hfz36_0
       try clear hfz36_1
       try clear hfz43_0
       try clear hfz43_1
       try clear hfz46_0
       try clear hfz46_1
       try clear hfz51_0
       try clear hfz51_1
       try clear hfz54_0
       try clear hfz54_1
       try clear hfz69_0
       try clear hfz69_1
       try clear hfz6_0
       try clear hfz6_1
       try clear hfz77_0
       try clear hfz77_1
       try clear hfz80_0
       try clear hfz80_1
       try clear hfz85_0
       try clear hfz85_1
       try clear hfz88_0
       try clear hfz88_1
       try clear p2
       obtain ⟨kq, x65_60, rfl, HA, HJ60, HO_645001, HO_650001, HO_656001, BK633, BK644, BK649, BK655, HB⟩ := hcut; have hl650001_60 := (Kd.R_reads' HO_650001.out).1; rw [hl650001_60] at HO_650001
       (try simp only [hl650001_60])
       (try simp only [hl650001_60] at BK633)
       (try simp only [hl650001_60] at BK644)
       (try simp only [hl650001_60] at BK649)
       (try simp only [hl650001_60] at BK655)
       (try simp only [hl650001_60] at HO_645001)
       (try simp only [hl650001_60] at HO_656001)
       cases kq with
       | zero => exact absurd HA.out (by simp [laws_FnExactPartOfAlphabet.j1])
       | succ kj60 =>
        have H := HA.out; clear HA
        simp only [laws_FnExactPartOfAlphabet.j1] at H
        by_cases c90 : x65_60 = true
        ·subst c90
         have H1 : (some false) = some r := by rw [if_pos rfl] at H; exact H
         clear H; have H := H1; clear H1
         obtain rfl := Option.some.inj H
         go_wp2
         go_ret
         exact ⟨rz, beQ HB⟩
        ·replace c90 := Bool.eq_false_iff.mpr c90
         subst c90
         have H1 : ((laws_markAlphabet.f kj60 t650 t651 1).bind fun bt665 => ((laws_heldAlphabet.f kj60 t650 bt665.2 1).bind fun t667 => (if t667 < 0 then (some false) else (if t667 = bt665.1 then ((laws_toAlphabet.f kj60 a0_0 l0_1).bind fun bt668 => ((impl_PartOfAlphabet.f kj60 bt668.1 bt668.2 a1).bind fun bt672 => ((laws_eqAlphabet.f kj60 bt672.1 bt672.2.1 t639 t640).bind fun t678 => (if t678 = true then (laws_FnExactPartOfAlphabet.j2 kj60 bt665.1 (bt672.2.2 != t643) t650 bt665.2) else (laws_FnExactPartOfAlphabet.j2 kj60 bt665.1 true t650 bt665.2))))) else (some false))))) = some r := by rw [if_neg (show ¬ (false = true) by decide)] at H; exact H
         clear H; have H := H1; clear H1; replace H := Option.bind_eq_some_iff.mp H
         obtain ⟨⟨t665, t666⟩, A910, H⟩ := H
         replace H : ((laws_heldAlphabet.f kj60 t650 t666 1).bind fun t667 => (if t667 < 0 then (some false) else (if t667 = t665 then ((laws_toAlphabet.f kj60 a0_0 l0_1).bind fun bt668 => ((impl_PartOfAlphabet.f kj60 bt668.1 bt668.2 a1).bind fun bt672 => ((laws_eqAlphabet.f kj60 bt672.1 bt672.2.1 t639 t640).bind fun t678 => (if t678 = true then (laws_FnExactPartOfAlphabet.j2 kj60 t665 (bt672.2.2 != t643) t650 t666) else (laws_FnExactPartOfAlphabet.j2 kj60 t665 true t650 t666))))) else (some false)))) = some r := H
         have A91 := Aside0.mk A910; clear A910; replace H := Option.bind_eq_some_iff.mp H; obtain ⟨t667, A920, H⟩ := H
         replace H : (if t667 < 0 then (some false) else (if t667 = t665 then ((laws_toAlphabet.f kj60 a0_0 l0_1).bind fun bt668 => ((impl_PartOfAlphabet.f kj60 bt668.1 bt668.2 a1).bind fun bt672 => ((laws_eqAlphabet.f kj60 bt672.1 bt672.2.1 t639 t640).bind fun t678 => (if t678 = true then (laws_FnExactPartOfAlphabet.j2 kj60 t665 (bt672.2.2 != t643) t650 t666) else (laws_FnExactPartOfAlphabet.j2 kj60 t665 true t650 t666))))) else (some false))) = some r := H
         have A92 := Aside0.mk A920; clear A920
         by_cases c93 : t667 < 0
         ·rw [if_pos c93] at H
          have c93b0 : decide (t667 < 0) = true := decide_eq_true c93
          clear c93
          obtain rfl := Option.some.inj H
          have hnb94 := NB655_633.out; have hnc94 := NB633_655.out; have hnb95 := NB655_644.out; have hnc95 := NB644_655.out; have hnb96 := NB655_649.out; have hnc96 := NB649_655.out
          have hcz97_0 : wc.cell? ⟨gb655, 0, none⟩ = some (.int .i64 t650) := bc BK655 0
          have hcz97_1 : wc.cell? ⟨gb655, 1, none⟩ = some (.slice Ao37 t651.length co37) := bc BK655 1
          have hfz97_0 := blk_frozen BK655.out 0; have hfz97_1 := blk_frozen BK655.out 1
          go_wp2_with (first | ((with_reducible refine gate_callee (f := 28) rfl ?_); refine goesL_ (some 68) rfl rfl Tryd.func28 (by kernel_rfl) rfl #[.agg #[.int .i64 t650, .slice Ao37 t651.length co37], .int .i64 1] rfl lz ?_; (with_reducible refine (laws_markAlphabet.calls kj60 t650 (fun k_ => some k_ = (.slice Ao37 t651.length co37 : Value).ownBlock) (.slice Ao37 t651.length co37) t651 1 t665 t666 w _ ?side1 ?side2 A91.out).mono ?_); (case side1 => repeat (first | (with_reducible first | exact HB.out | apply below_alloc | apply pw_below_drewN | apply below_drew1 | refine below_set ?_ GE633.out | refine below_set ?_ GE644.out | refine below_set ?_ GE649.out | refine below_set ?_ GE655.out) | exact HB.out)); (case side2 => exact Kd.R_tight rfl HO_656001.out); rintro e w98 ⟨rfl, hy0, hb, hkp⟩; refine ⟨_, rfl, ?_⟩; replace HO_645001 := Aside0.mk (Kd.R_mono (ok' := fun k_ => some k_ ≠ (.slice Ao30 t663.length co30 : Value).ownBlock ∧ some k_ ≠ (.slice Ao37 t651.length co37 : Value).ownBlock) (Kd.R_keptB (HO_645001.out) hkp (fun k_ hk_ hs_ => (hk_.2) hs_)) (fun k_ hk_ => ⟨hk_.1.1, hk_.1.2⟩)); replace HO_650001 := Aside0.mk (Kd.R_mono (ok' := fun k_ => some k_ ≠ (.slice Ao23 t640.length co23 : Value).ownBlock ∧ some k_ ≠ (.slice Ao37 t651.length co37 : Value).ownBlock) (Kd.R_keptB (HO_650001.out) hkp (fun k_ hk_ hs_ => (hk_.2) hs_)) (fun k_ hk_ => ⟨hk_.1.1, hk_.1.2⟩)); replace BK633 := Aside0.mk (blk_kept (blkQ BK633) hkp (fun hs_ => (fun e_ => (Kd.R_ne HO_656001.out BK633.out (by decide)) e_) hs_)); replace BK644 := Aside0.mk (blk_kept (blkQ BK644) hkp (fun hs_ => (fun e_ => (Kd.R_ne HO_656001.out BK644.out (by decide)) e_) hs_)); replace BK649 := Aside0.mk (blk_kept (blkQ BK649) hkp (fun hs_ => (fun e_ => (Kd.R_ne HO_656001.out BK649.out (by decide)) e_) hs_)); replace BK655 := Aside0.mk (blk_kept (blkQ BK655) hkp (fun hs_ => (fun e_ => (Kd.R_ne HO_656001.out BK655.out (by decide)) e_) hs_)); replace HO_656001 := Aside0.mk (Kd.R_reok rfl hy0 (fun k_ e_ => HO_656001.out.1 k_ e_)); replace HB := Aside0.mk (hb); (try clear hb); (try clear hkp); (try clear hy0); have hcz99_0 : w98.cell? ⟨gb655, 0, none⟩ = some (.int .i64 t650) := bc BK655 0; have hcz99_1 : w98.cell? ⟨gb655, 1, none⟩ = some (.slice Ao37 t651.length co37) := bc BK655 1; have hfz99_0 := blk_frozen BK655.out 0; have hfz99_1 := blk_frozen BK655.out 1) | ((with_reducible refine gate_callee (f := 29) rfl ?_); refine goesL_ (some 71) rfl rfl Tryd.func29 (by kernel_rfl) rfl #[.agg #[.int .i64 t650, .slice Ao37 t666.length co37], .int .i64 1] rfl (by (try simp only [List.map_toArray, List.map_cons, List.map_nil]); first | done | (rw [show t666.length = t651.length from (Kd.R_reads' HO_656001.out).1.symm] <;> rfl) | rfl | (simp only [List.length_drop, List.length_take]; rfl)) ?_; (with_reducible refine (laws_heldAlphabet.calls kj60 t650 _ _ t666 1 t667 _ ?side1 ?side2 A92.out).mono ?_); (case side1 => have q_ := Aside0.mk (Kd.R_reads' HO_656001.out).2.2; exact cQ q_); (case side2 => rw [show t666.length = t651.length from (Kd.R_reads' HO_656001.out).1.symm]; exact (Kd.R_reads' HO_656001.out).2.1); rintro e w100 ⟨rfl, hb⟩; refine ⟨_, rfl, ?_⟩; replace HO_645001 := kb HO_645001 hb; replace HO_650001 := kb HO_650001 hb; replace HO_656001 := kb HO_656001 hb; replace BK633 := bb BK633 hb; replace BK644 := bb BK644 hb; replace BK649 := bb BK649 hb; replace BK655 := bb BK655 hb; replace HB := Aside0.mk (below_step (beQ HB) hb); (try clear hb); (try clear hb2); (try clear hk); (try clear hi)))
          go_ret
          exact ⟨rz, beQ HB⟩
         ·rw [if_neg c93] at H
          have c93b0 : decide (t667 < 0) = false := decide_eq_false c93
          clear c93
          by_cases c101 : t667 = t665
          ·rw [if_pos c101] at H
           have c101b0 : (t667 == t665) = true := beq_iff_eq.mpr c101
           have c101b1 : (t667 != t665) = false := bne_eq_false_iff_eq.mpr c101
           clear c101; replace H := Option.bind_eq_some_iff.mp H
           obtain ⟨⟨t668, t669⟩, A1020, H⟩ := H
           replace H : ((impl_PartOfAlphabet.f kj60 t668 t669 a1).bind fun bt672 => ((laws_eqAlphabet.f kj60 bt672.1 bt672.2.1 t639 t640).bind fun t678 => (if t678 = true then (laws_FnExactPartOfAlphabet.j2 kj60 t665 (bt672.2.2 != t643) t650 t666) else (laws_FnExactPartOfAlphabet.j2 kj60 t665 true t650 t666)))) = some r := H
           have A102 := Aside0.mk A1020; clear A1020; replace H := Option.bind_eq_some_iff.mp H
           obtain ⟨⟨t672, t673, t676⟩, A1030, H⟩ := H
           replace H : ((laws_eqAlphabet.f kj60 t672 t673 t639 t640).bind fun t678 => (if t678 = true then (laws_FnExactPartOfAlphabet.j2 kj60 t665 (t676 != t643) t650 t666) else (laws_FnExactPartOfAlphabet.j2 kj60 t665 true t650 t666))) = some r := H
           have A103 := Aside0.mk A1030; clear A1030; have HC104 := Aside0.mk H; clear H; have hnb105 := NB655_633.out; have hnc105 := NB633_655.out; have hnb106 := NB655_644.out; have hnc106 := NB644_655.out; have hnb107 := NB655_649.out; have hnc107 := NB649_655.out
           have hcz108_0 : wc.cell? ⟨gb655, 0, none⟩ = some (.int .i64 t650) := bc BK655 0
           have hcz108_1 : wc.cell? ⟨gb655, 1, none⟩ = some (.slice Ao37 t651.length co37) := bc BK655 1
           have hfz108_0 := blk_frozen BK655.out 0; have hfz108_1 := blk_frozen BK655.out 1
           go_upto_region 25 with (first | ((with_reducible refine gate_callee (f := 28) rfl ?_); refine goesL_ (some 68) rfl rfl Tryd.func28 (by kernel_rfl) rfl #[.agg #[.int .i64 t650, .slice Ao37 t651.length co37], .int .i64 1] rfl lz ?_; (with_reducible refine (laws_markAlphabet.calls kj60 t650 (fun k_ => some k_ = (.slice Ao37 t651.length co37 : Value).ownBlock) (.slice Ao37 t651.length co37) t651 1 t665 t666 w _ ?side1 ?side2 A91.out).mono ?_); (case side1 => repeat (first | (with_reducible first | exact HB.out | apply below_alloc | apply pw_below_drewN | apply below_drew1 | refine below_set ?_ GE633.out | refine below_set ?_ GE644.out | refine below_set ?_ GE649.out | refine below_set ?_ GE655.out) | exact HB.out)); (case side2 => exact Kd.R_tight rfl HO_656001.out); rintro e w109 ⟨rfl, hy0, hb, hkp⟩; refine ⟨_, rfl, ?_⟩; replace HO_645001 := Aside0.mk (Kd.R_mono (ok' := fun k_ => some k_ ≠ (.slice Ao30 t663.length co30 : Value).ownBlock ∧ some k_ ≠ (.slice Ao37 t651.length co37 : Value).ownBlock) (Kd.R_keptB (HO_645001.out) hkp (fun k_ hk_ hs_ => (hk_.2) hs_)) (fun k_ hk_ => ⟨hk_.1.1, hk_.1.2⟩)); replace HO_650001 := Aside0.mk (Kd.R_mono (ok' := fun k_ => some k_ ≠ (.slice Ao23 t640.length co23 : Value).ownBlock ∧ some k_ ≠ (.slice Ao37 t651.length co37 : Value).ownBlock) (Kd.R_keptB (HO_650001.out) hkp (fun k_ hk_ hs_ => (hk_.2) hs_)) (fun k_ hk_ => ⟨hk_.1.1, hk_.1.2⟩)); replace BK633 := Aside0.mk (blk_kept (blkQ BK633) hkp (fun hs_ => (fun e_ => (Kd.R_ne HO_656001.out BK633.out (by decide)) e_) hs_)); replace BK644 := Aside0.mk (blk_kept (blkQ BK644) hkp (fun hs_ => (fun e_ => (Kd.R_ne HO_656001.out BK644.out (by decide)) e_) hs_)); replace BK649 := Aside0.mk (blk_kept (blkQ BK649) hkp (fun hs_ => (fun e_ => (Kd.R_ne HO_656001.out BK649.out (by decide)) e_) hs_)); replace BK655 := Aside0.mk (blk_kept (blkQ BK655) hkp (fun hs_ => (fun e_ => (Kd.R_ne HO_656001.out BK655.out (by decide)) e_) hs_)); replace HO_656001 := Aside0.mk (Kd.R_reok rfl hy0 (fun k_ e_ => HO_656001.out.1 k_ e_)); replace HB := Aside0.mk (hb); (try clear hb); (try clear hkp); (try clear hy0); have hcz110_0 : w109.cell? ⟨gb655, 0, none⟩ = some (.int .i64 t650) := bc BK655 0; have hcz110_1 : w109.cell? ⟨gb655, 1, none⟩ = some (.slice Ao37 t651.length co37) := bc BK655 1; have hfz110_0 := blk_frozen BK655.out 0; have hfz110_1 := blk_frozen BK655.out 1) | ((with_reducible refine gate_callee (f := 29) rfl ?_); refine goesL_ (some 71) rfl rfl Tryd.func29 (by kernel_rfl) rfl #[.agg #[.int .i64 t650, .slice Ao37 t666.length co37], .int .i64 1] rfl (by (try simp only [List.map_toArray, List.map_cons, List.map_nil]); first | done | (rw [show t666.length = t651.length from (Kd.R_reads' HO_656001.out).1.symm] <;> rfl) | rfl | (simp only [List.length_drop, List.length_take]; rfl)) ?_; (with_reducible refine (laws_heldAlphabet.calls kj60 t650 _ _ t666 1 t667 _ ?side1 ?side2 A92.out).mono ?_); (case side1 => have q_ := Aside0.mk (Kd.R_reads' HO_656001.out).2.2; exact cQ q_); (case side2 => rw [show t666.length = t651.length from (Kd.R_reads' HO_656001.out).1.symm]; exact (Kd.R_reads' HO_656001.out).2.1); rintro e w111 ⟨rfl, hb⟩; refine ⟨_, rfl, ?_⟩; replace HO_645001 := kb HO_645001 hb; replace HO_650001 := kb HO_650001 hb; replace HO_656001 := kb HO_656001 hb; replace BK633 := bb BK633 hb; replace BK644 := bb BK644 hb; replace BK649 := bb BK649 hb; replace BK655 := bb BK655 hb; replace HB := Aside0.mk (below_step (beQ HB) hb); (try clear hb); (try clear hb2); (try clear hk); (try clear hi); have hnb112 := NB633_644.out; have hnc112 := NB644_633.out; have hnb113 := NB633_649.out; have hnc113 := NB649_633.out; have hcz114_0 : w111.cell? ⟨gb633, 0, none⟩ = some (.int .i64 a0_0) := bc BK633 0; have hcz114_1 : w111.cell? ⟨gb633, 1, none⟩ = some (.slice A0_1 l0_1.length c0_1) := bc BK633 1; have hfz114_0 := blk_frozen BK633.out 0; have hfz114_1 := blk_frozen BK633.out 1) | ((with_reducible refine gate_callee (f := 37) rfl ?_); refine goesL_ (some 79) rfl rfl Tryd.func37 (by kernel_rfl) rfl #[.agg #[.int .i64 a0_0, .slice A0_1 l0_1.length c0_1]] rfl lz ?_; (with_reducible refine (laws_toAlphabet.calls kj60 a0_0 _ _ l0_1 t668 t669 _ ?side1 ?side2 A102.out).mono ?_); (case side1 => have q_ := Aside0.mk (Kd.C_below HR0_1.out HB.out); exact cQ q_); (case side2 => exact HC0_1.out); rintro e w115 ⟨v670, rfl, ho0, hb⟩; refine ⟨_, rfl, ?_⟩; have HO671 := Aside0.mk (Kd.R_lower (Kd.R_new' (Kd.R_new' (Kd.R_new' ho0 (Kd.R_lt (kdQ HO_645001))) (Kd.R_lt (kdQ HO_650001))) (Kd.R_lt (kdQ HO_656001))) (below_size (beQ HB))); replace HO_645001 := Aside0.mk (Kd.R_elder' (kdQ HO_645001) (Kd.R_base ho0) hb); replace HO_650001 := Aside0.mk (Kd.R_elder' (kdQ HO_650001) (Kd.R_base ho0) hb); replace HO_656001 := Aside0.mk (Kd.R_elder' (kdQ HO_656001) (Kd.R_base ho0) hb); replace BK633 := bb BK633 hb; replace BK644 := bb BK644 hb; replace BK649 := bb BK649 hb; replace BK655 := bb BK655 hb; replace HB := Aside0.mk (below_step (beQ HB) hb); (try clear hb); (try clear hb2); (try clear hk); (try clear hi); (try clear ho0); obtain ⟨Ao116, co116, eo116⟩ := Kd.R_slice HO671.out; subst eo116) | ((with_reducible refine gate_callee (f := 40) rfl ?_); refine goesL_ (some 81) rfl rfl Tryd.func40 (by kernel_rfl) rfl #[.agg #[.int .i64 t668, .slice Ao116 t669.length co116], .int .i64 a1] rfl lz ?_; (with_reducible refine (impl_PartOfAlphabet.calls kj60 t668 _ _ t669 a1 t672 t673 t676 _ ?side1 ?side2 ?side3 A103.out).mono ?_); (case side1 => have q_ := Aside0.mk (Kd.R_reads' HO671.out).2.2; exact cQ q_); (case side2 => exact (Kd.R_reads' HO671.out).2.1); (case side3 => exact TabW.below HT.out (beQ HB)); rintro e w117 ⟨v674, rfl, ho0, hb⟩; refine ⟨_, rfl, ?_⟩; have HO675 := Aside0.mk (Kd.R_lower (Kd.R_new' (Kd.R_new' (Kd.R_new' (Kd.R_new' ho0 (Kd.R_lt (kdQ HO_645001))) (Kd.R_lt (kdQ HO_650001))) (Kd.R_lt (kdQ HO_656001))) (Kd.R_lt (kdQ HO671))) (below_size (beQ HB))); replace HO_645001 := Aside0.mk (Kd.R_elder' (kdQ HO_645001) (Kd.R_base ho0) hb); replace HO_650001 := Aside0.mk (Kd.R_elder' (kdQ HO_650001) (Kd.R_base ho0) hb); replace HO_656001 := Aside0.mk (Kd.R_elder' (kdQ HO_656001) (Kd.R_base ho0) hb); replace HO671 := Aside0.mk (Kd.R_elder' (kdQ HO671) (Kd.R_base ho0) hb); replace BK633 := bb BK633 hb; replace BK644 := bb BK644 hb; replace BK649 := bb BK649 hb; replace BK655 := bb BK655 hb; replace HB := Aside0.mk (below_step (beQ HB) hb); (try clear hb); (try clear hb2); (try clear hk); (try clear hi); (try clear ho0)) | ((with_reducible refine gate_dst (N := 14) rfl ?_); refine box_event ?hg (N := 14) ?hd (cs := #[.int .i64 0, .slice none 0 0]) (t := 38) ?hr ?_; (case hd => rfl); (case hg => rfl); (case hr => first | (go_simp; done) | (go_simp; rfl)); intro gb677 hg w118 hbox hb; replace HO_645001 := kb HO_645001 hb; replace HO_650001 := kb HO_650001 hb; replace HO_656001 := kb HO_656001 hb; replace HO671 := kb HO671 hb; replace HO675 := kb HO675 hb; have BK677 := Aside0.mk (hbox); have GW677 := Aside0.mk ((by rw [hg]; exact (below_size (beQ HB)) : w.heap.size ≤ gb677)); have GE677 := Aside0.mk ((by rw [hg]; exact (below_size (beQ HB)) : w.heap.size ≤ gb677)); replace HB := Aside0.mk (below_step (beQ HB) hb); have NB633_677 := Aside0.mk ((by rw [hg]; exact Nat.ne_of_lt (blk_lt (blkQ BK633)) : gb633 ≠ gb677)); have NB677_633 := Aside0.mk ((by rw [hg]; exact Nat.ne_of_gt (blk_lt (blkQ BK633)) : gb677 ≠ gb633)); replace BK633 := bb BK633 hb; have NB644_677 := Aside0.mk ((by rw [hg]; exact Nat.ne_of_lt (blk_lt (blkQ BK644)) : gb644 ≠ gb677)); have NB677_644 := Aside0.mk ((by rw [hg]; exact Nat.ne_of_gt (blk_lt (blkQ BK644)) : gb677 ≠ gb644)); replace BK644 := bb BK644 hb; have NB649_677 := Aside0.mk ((by rw [hg]; exact Nat.ne_of_lt (blk_lt (blkQ BK649)) : gb649 ≠ gb677)); have NB677_649 := Aside0.mk ((by rw [hg]; exact Nat.ne_of_gt (blk_lt (blkQ BK649)) : gb677 ≠ gb649)); replace BK649 := bb BK649 hb; have NB655_677 := Aside0.mk ((by rw [hg]; exact Nat.ne_of_lt (blk_lt (blkQ BK655)) : gb655 ≠ gb677)); have NB677_655 := Aside0.mk ((by rw [hg]; exact Nat.ne_of_gt (blk_lt (blkQ BK655)) : gb677 ≠ gb655)); replace BK655 := bb BK655 hb; clear hb hbox hg; have hnb119 := NB677_633.out; have hnc119 := NB633_677.out; have hnb120 := NB677_644.out; have hnc120 := NB644_677.out; have hnb121 := NB677_649.out; have hnc121 := NB649_677.out; have hnb122 := NB677_655.out; have hnc122 := NB655_677.out; have hcz123_0 : w118.cell? ⟨gb677, 0, none⟩ = some (.int .i64 0) := bc BK677 0; have hcz123_1 : w118.cell? ⟨gb677, 1, none⟩ = some (.slice none 0 0) := bc BK677 1; have hfz123_0 := blk_frozen BK677.out 0; have hfz123_1 := blk_frozen BK677.out 1; obtain ⟨Ao124, co124, eo124⟩ := Kd.R_slice HO675.out; subst eo124))
           (try simp only [Act.put, List.setIfInBounds_toArray, List.set_cons_zero, List.set_cons_succ])
           go_cut [92] (fun v92 wc => ∃ (kq : Nat) (x92_103 : Bool), v92 = .bool x92_103 ∧ Aside0 (laws_FnExactPartOfAlphabet.j2 kq t665 x92_103 t650 t666 = some r) ∧ Aside0 (kq ≤ kj60) ∧ Aside0 (Kd.R (Kd.int .i64) 2 wc w.heap.size (fun k_ => some k_ ≠ ((.slice Ao30 t663.length co30) : Value).ownBlock ∧ some k_ ≠ ((.slice Ao37 t651.length co37) : Value).ownBlock ∧ some k_ ≠ ((.slice Ao124 t673.length co124) : Value).ownBlock) (.slice Ao23 t640.length co23) t640) ∧ Aside0 (Kd.R (Kd.int .i64) 2 wc w.heap.size (fun k_ => some k_ ≠ ((.slice Ao23 t640.length co23) : Value).ownBlock ∧ some k_ ≠ ((.slice Ao37 t651.length co37) : Value).ownBlock ∧ some k_ ≠ ((.slice Ao124 t673.length co124) : Value).ownBlock) (.slice Ao30 t663.length co30) t663) ∧ Aside0 (Kd.R (Kd.int .i64) 2 wc w.heap.size (fun k_ => some k_ ≠ ((.slice Ao23 t640.length co23) : Value).ownBlock ∧ some k_ ≠ ((.slice Ao30 t663.length co30) : Value).ownBlock ∧ some k_ ≠ ((.slice Ao124 t673.length co124) : Value).ownBlock) (.slice Ao37 t651.length co37) t666) ∧ Aside0 (Kd.R (Kd.int .i64) 2 wc w.heap.size (fun k_ => some k_ ≠ ((.slice Ao23 t640.length co23) : Value).ownBlock ∧ some k_ ≠ ((.slice Ao30 t663.length co30) : Value).ownBlock ∧ some k_ ≠ ((.slice Ao37 t651.length co37) : Value).ownBlock) (.slice Ao124 t673.length co124) t673) ∧ Aside0 (wc.heap[gb633]? = some (.cells #[.int .i64 a0_0, (.slice A0_1 l0_1.length c0_1)] 46 (0, 0))) ∧ Aside0 (wc.heap[gb644]? = some (.cells #[.int .i64 t639, (.slice Ao23 t640.length co23)] 38 (0, 0))) ∧ Aside0 (wc.heap[gb649]? = some (.cells #[.int .i64 t645, (.slice Ao30 t663.length co30)] 38 (0, 0))) ∧ Aside0 (wc.heap[gb655]? = some (.cells #[.int .i64 t650, (.slice Ao37 t651.length co37)] 38 (0, 0))) ∧ Aside0 (wc.heap[gb677]? = some (.cells #[.int .i64 t672, (.slice Ao124 t673.length co124)] 38 (0, 0))) ∧ Aside0 (Below w.heap.size w wc))
           case first =>
            have H := HC104.out; clear HC104; replace H := Option.bind_eq_some_iff.mp H; obtain ⟨t678, A1250, H⟩ := H
            replace H : (if t678 = true then (laws_FnExactPartOfAlphabet.j2 kj60 t665 (t676 != t643) t650 t666) else (laws_FnExactPartOfAlphabet.j2 kj60 t665 true t650 t666)) = some r := H
            have A125 := Aside0.mk A1250; clear A1250
            by_cases c126 : t678 = true
            ·subst c126
             have H1 : (laws_FnExactPartOfAlphabet.j2 kj60 t665 (t676 != t643) t650 t666) = some r := by rw [if_pos rfl] at H; exact H
             clear H; have H := H1; clear H1
             have H' := Aside0.mk H
             clear H; have hnb127 := NB677_633.out; have hnc127 := NB633_677.out; have hnb128 := NB677_644.out; have hnc128 := NB644_677.out; have hnb129 := NB677_649.out; have hnc129 := NB649_677.out; have hnb130 := NB677_655.out; have hnc130 := NB655_677.out
             have hcz131_0 : w118.cell? ⟨gb677, 0, none⟩ = some (.int .i64 0) := bc BK677 0
             have hcz131_1 : w118.cell? ⟨gb677, 1, none⟩ = some (.slice none 0 0) := bc BK677 1
             have hfz131_0 := blk_frozen BK677.out 0; have hfz131_1 := blk_frozen BK677.out 1; have hnb132 := NB644_633.out; have hnc132 := NB633_644.out; have hnb133 := NB644_649.out; have hnc133 := NB649_644.out; have hnb134 := NB644_655.out; have hnc134 := NB655_644.out
             have hcz135_0 : w118.cell? ⟨gb644, 0, none⟩ = some (.int .i64 t639) := bc BK644 0
             have hcz135_1 : w118.cell? ⟨gb644, 1, none⟩ = some (.slice Ao23 t640.length co23) := bc BK644 1
             have hfz135_0 := blk_frozen BK644.out 0; have hfz135_1 := blk_frozen BK644.out 1
             go_wp2_with (first | ((with_reducible refine gate_callee (f := 26) rfl ?_); refine goesL_ (some 86) rfl rfl Tryd.func26 (by kernel_rfl) rfl #[.agg #[.int .i64 t672, .slice Ao124 t673.length co124], .agg #[.int .i64 t639, .slice Ao23 t640.length co23]] rfl lz ?_; (with_reducible refine (laws_eqAlphabet.calls kj60 t672 _ _ t673 t639 _ _ t640 true _ ?side1 ?side2 ?side3 ?side4 A125.out).mono ?_); (case side1 => refine (Kd.R_reads' (e := 2) (base := w.heap.size) (ok := fun k_ => ((((True ∧ some k_ ≠ (.slice Ao23 t640.length co23 : Value).ownBlock) ∧ some k_ ≠ (.slice Ao30 t663.length co30 : Value).ownBlock) ∧ some k_ ≠ (.slice Ao37 t651.length co37 : Value).ownBlock) ∧ some k_ ≠ (.slice Ao116 t669.length co116 : Value).ownBlock)) (n := t673.length) (c := co124) ?_).2.2; exact (by (with_reducible repeat (first | apply Kd.R_alloc | apply Kd.R_drewN | apply Kd.R_drew)); exact (Kd.R_mono (Kd.R_far (p := ⟨gb677, 1, none⟩) (Kd.R_far (p := ⟨gb677, 0, none⟩) (Kd.R_types HO675.out BK677.out (by decide)) (fun _ hk => hk.2) (.int .i64 t672)) (fun _ hk => hk.2) (.slice Ao124 t673.length co124)) (fun _ h_ => h_.1)))); (case side2 => exact (Kd.R_reads' HO675.out).2.1); (case side3 => refine (Kd.R_reads' (e := 2) (base := w.heap.size) (ok := fun k_ => (((some k_ ≠ (.slice Ao30 t663.length co30 : Value).ownBlock ∧ some k_ ≠ (.slice Ao37 t651.length co37 : Value).ownBlock) ∧ some k_ ≠ (.slice Ao116 t669.length co116 : Value).ownBlock) ∧ some k_ ≠ (.slice Ao124 t673.length co124 : Value).ownBlock)) (n := t640.length) (c := co23) ?_).2.2; exact (by (with_reducible repeat (first | apply Kd.R_alloc | apply Kd.R_drewN | apply Kd.R_drew)); exact (Kd.R_mono (Kd.R_far (p := ⟨gb677, 1, none⟩) (Kd.R_far (p := ⟨gb677, 0, none⟩) (Kd.R_types HO_645001.out BK677.out (by decide)) (fun _ hk => hk.2) (.int .i64 t672)) (fun _ hk => hk.2) (.slice Ao124 t673.length co124)) (fun _ h_ => h_.1)))); (case side4 => exact (Kd.R_reads' HO_645001.out).2.1); rintro e w136 ⟨rfl, hb⟩; refine ⟨_, rfl, ?_⟩; replace HO_645001 := Aside0.mk (Kd.R_below (by (with_reducible repeat (first | apply Kd.R_alloc | apply Kd.R_drewN | apply Kd.R_drew)); exact (Kd.R_mono (Kd.R_far (p := ⟨gb677, 1, none⟩) (Kd.R_far (p := ⟨gb677, 0, none⟩) (Kd.R_types HO_645001.out BK677.out (by decide)) (fun _ hk => hk.2) (.int .i64 t672)) (fun _ hk => hk.2) (.slice Ao124 t673.length co124)) (fun _ h_ => h_.1))) hb); replace HO_650001 := Aside0.mk (Kd.R_below (by (with_reducible repeat (first | apply Kd.R_alloc | apply Kd.R_drewN | apply Kd.R_drew)); exact (Kd.R_mono (Kd.R_far (p := ⟨gb677, 1, none⟩) (Kd.R_far (p := ⟨gb677, 0, none⟩) (Kd.R_types HO_650001.out BK677.out (by decide)) (fun _ hk => hk.2) (.int .i64 t672)) (fun _ hk => hk.2) (.slice Ao124 t673.length co124)) (fun _ h_ => h_.1))) hb); replace HO_656001 := Aside0.mk (Kd.R_below (by (with_reducible repeat (first | apply Kd.R_alloc | apply Kd.R_drewN | apply Kd.R_drew)); exact (Kd.R_mono (Kd.R_far (p := ⟨gb677, 1, none⟩) (Kd.R_far (p := ⟨gb677, 0, none⟩) (Kd.R_types HO_656001.out BK677.out (by decide)) (fun _ hk => hk.2) (.int .i64 t672)) (fun _ hk => hk.2) (.slice Ao124 t673.length co124)) (fun _ h_ => h_.1))) hb); replace HO671 := Aside0.mk (Kd.R_below (by (with_reducible repeat (first | apply Kd.R_alloc | apply Kd.R_drewN | apply Kd.R_drew)); exact (Kd.R_mono (Kd.R_far (p := ⟨gb677, 1, none⟩) (Kd.R_far (p := ⟨gb677, 0, none⟩) (Kd.R_types HO671.out BK677.out (by decide)) (fun _ hk => hk.2) (.int .i64 t672)) (fun _ hk => hk.2) (.slice Ao124 t673.length co124)) (fun _ h_ => h_.1))) hb); replace HO675 := Aside0.mk (Kd.R_below (by (with_reducible repeat (first | apply Kd.R_alloc | apply Kd.R_drewN | apply Kd.R_drew)); exact (Kd.R_mono (Kd.R_far (p := ⟨gb677, 1, none⟩) (Kd.R_far (p := ⟨gb677, 0, none⟩) (Kd.R_types HO675.out BK677.out (by decide)) (fun _ hk => hk.2) (.int .i64 t672)) (fun _ hk => hk.2) (.slice Ao124 t673.length co124)) (fun _ h_ => h_.1))) hb); replace BK633 := Aside0.mk (blk_below (blkF BK633) hb); replace BK644 := Aside0.mk (blk_below (blkF BK644) hb); replace BK649 := Aside0.mk (blk_below (blkF BK649) hb); replace BK655 := Aside0.mk (blk_below (blkF BK655) hb); replace BK677 := Aside0.mk (blk_below (g := gb677) (o := .cells #[.int .i64 t672, .slice Ao124 t673.length co124] 38 (0, 0)) (by (with_reducible repeat (first | refine blk_drewN ?_ _ | refine blk_drew ?_ | refine blk_alloc ?_ _)); refine blk_put (cs := #[.int .i64 t672, .slice none 0 0]) ?_ 1 _ rfl; (with_reducible repeat (first | refine blk_drewN ?_ _ | refine blk_drew ?_ | refine blk_alloc ?_ _)); refine blk_put (cs := #[.int .i64 0, .slice none 0 0]) ?_ 0 _ rfl; (with_reducible repeat (first | refine blk_drewN ?_ _ | refine blk_drew ?_ | refine blk_alloc ?_ _)); exact BK677.out) hb); replace HB := Aside0.mk (below_step (beQ HB) hb); (try clear hb); (try clear hb2); (try clear hk); (try clear hi)))
             go_meet
             case rel => exact ⟨_, ((t676 != t643)), sz, H', ⟨by have := HJ11.out; have := HJ60.out; first | omega | exact Nat.le_refl _⟩, ⟨by (try simp only [hl650001_60]); (with_reducible repeat (first | apply Kd.R_alloc | apply Kd.R_drewN | apply Kd.R_drew)); exact Kd.R_mono HO_645001.out (fun _ hk => ⟨hk.1.1.1, ⟨hk.1.1.2, hk.2⟩⟩)⟩, ⟨by (try simp only [hl650001_60]); (with_reducible repeat (first | apply Kd.R_alloc | apply Kd.R_drewN | apply Kd.R_drew)); exact Kd.R_mono HO_650001.out (fun _ hk => ⟨hk.1.1.1, ⟨hk.1.1.2, hk.2⟩⟩)⟩, ⟨by (try simp only [hl650001_60]); (with_reducible repeat (first | apply Kd.R_alloc | apply Kd.R_drewN | apply Kd.R_drew)); exact Kd.R_mono HO_656001.out (fun _ hk => ⟨hk.1.1.1, ⟨hk.1.1.2, hk.2⟩⟩)⟩, ⟨by (try simp only [hl650001_60]); (with_reducible repeat (first | apply Kd.R_alloc | apply Kd.R_drewN | apply Kd.R_drew)); exact Kd.R_mono HO675.out (fun _ hk => ⟨hk.1.1.1.2, ⟨hk.1.1.2, hk.1.2⟩⟩)⟩, ⟨by (try simp only [hl650001_60]); (with_reducible repeat (first | refine blk_drewN ?_ _ | refine blk_drew ?_ | refine blk_alloc ?_ _)); exact BK633.out⟩, ⟨by (try simp only [hl650001_60]); (with_reducible repeat (first | refine blk_drewN ?_ _ | refine blk_drew ?_ | refine blk_alloc ?_ _)); exact BK644.out⟩, ⟨by (try simp only [hl650001_60]); (with_reducible repeat (first | refine blk_drewN ?_ _ | refine blk_drew ?_ | refine blk_alloc ?_ _)); exact BK649.out⟩, ⟨by (try simp only [hl650001_60]); (with_reducible repeat (first | refine blk_drewN ?_ _ | refine blk_drew ?_ | refine blk_alloc ?_ _)); exact BK655.out⟩, ⟨by (try simp only [hl650001_60]); (with_reducible repeat (first | refine blk_drewN ?_ _ | refine blk_drew ?_ | refine blk_alloc ?_ _)); exact BK677.out⟩, ⟨beQ HB⟩⟩
            ·replace c126 := Bool.eq_false_iff.mpr c126
             subst c126
             have H1 : (laws_FnExactPartOfAlphabet.j2 kj60 t665 true t650 t666) = some r := by rw [if_neg (show ¬ (false = true) by decide)] at H; exact H
             clear H; have H := H1; clear H1
             have H' := Aside0.mk H
             clear H; have hnb137 := NB677_633.out; have hnc137 := NB633_677.out; have hnb138 := NB677_644.out; have hnc138 := NB644_677.out; have hnb139 := NB677_649.out; have hnc139 := NB649_677.out; have hnb140 := NB677_655.out; have hnc140 := NB655_677.out
             have hcz141_0 : w118.cell? ⟨gb677, 0, none⟩ = some (.int .i64 0) := bc BK677 0
             have hcz141_1 : w118.cell? ⟨gb677, 1, none⟩ = some (.slice none 0 0) := bc BK677 1
             have hfz141_0 := blk_frozen BK677.out 0; have hfz141_1 := blk_frozen BK677.out 1; have hnb142 := NB644_633.out; have hnc142 := NB633_644.out; have hnb143 := NB644_649.out; have hnc143 := NB649_644.out; have hnb144 := NB644_655.out; have hnc144 := NB655_644.out
             have hcz145_0 : w118.cell? ⟨gb644, 0, none⟩ = some (.int .i64 t639) := bc BK644 0
             have hcz145_1 : w118.cell? ⟨gb644, 1, none⟩ = some (.slice Ao23 t640.length co23) := bc BK644 1
             have hfz145_0 := blk_frozen BK644.out 0; have hfz145_1 := blk_frozen BK644.out 1
             go_wp2_with (first | ((with_reducible refine gate_callee (f := 26) rfl ?_); refine goesL_ (some 86) rfl rfl Tryd.func26 (by kernel_rfl) rfl #[.agg #[.int .i64 t672, .slice Ao124 t673.length co124], .agg #[.int .i64 t639, .slice Ao23 t640.length co23]] rfl lz ?_; (with_reducible refine (laws_eqAlphabet.calls kj60 t672 _ _ t673 t639 _ _ t640 false _ ?side1 ?side2 ?side3 ?side4 A125.out).mono ?_); (case side1 => refine (Kd.R_reads' (e := 2) (base := w.heap.size) (ok := fun k_ => ((((True ∧ some k_ ≠ (.slice Ao23 t640.length co23 : Value).ownBlock) ∧ some k_ ≠ (.slice Ao30 t663.length co30 : Value).ownBlock) ∧ some k_ ≠ (.slice Ao37 t651.length co37 : Value).ownBlock) ∧ some k_ ≠ (.slice Ao116 t669.length co116 : Value).ownBlock)) (n := t673.length) (c := co124) ?_).2.2; exact (by (with_reducible repeat (first | apply Kd.R_alloc | apply Kd.R_drewN | apply Kd.R_drew)); exact (Kd.R_mono (Kd.R_far (p := ⟨gb677, 1, none⟩) (Kd.R_far (p := ⟨gb677, 0, none⟩) (Kd.R_types HO675.out BK677.out (by decide)) (fun _ hk => hk.2) (.int .i64 t672)) (fun _ hk => hk.2) (.slice Ao124 t673.length co124)) (fun _ h_ => h_.1)))); (case side2 => exact (Kd.R_reads' HO675.out).2.1); (case side3 => refine (Kd.R_reads' (e := 2) (base := w.heap.size) (ok := fun k_ => (((some k_ ≠ (.slice Ao30 t663.length co30 : Value).ownBlock ∧ some k_ ≠ (.slice Ao37 t651.length co37 : Value).ownBlock) ∧ some k_ ≠ (.slice Ao116 t669.length co116 : Value).ownBlock) ∧ some k_ ≠ (.slice Ao124 t673.length co124 : Value).ownBlock)) (n := t640.length) (c := co23) ?_).2.2; exact (by (with_reducible repeat (first | apply Kd.R_alloc | apply Kd.R_drewN | apply Kd.R_drew)); exact (Kd.R_mono (Kd.R_far (p := ⟨gb677, 1, none⟩) (Kd.R_far (p := ⟨gb677, 0, none⟩) (Kd.R_types HO_645001.out BK677.out (by decide)) (fun _ hk => hk.2) (.int .i64 t672)) (fun _ hk => hk.2) (.slice Ao124 t673.length co124)) (fun _ h_ => h_.1)))); (case side4 => exact (Kd.R_reads' HO_645001.out).2.1); rintro e w146 ⟨rfl, hb⟩; refine ⟨_, rfl, ?_⟩; replace HO_645001 := Aside0.mk (Kd.R_below (by (with_reducible repeat (first | apply Kd.R_alloc | apply Kd.R_drewN | apply Kd.R_drew)); exact (Kd.R_mono (Kd.R_far (p := ⟨gb677, 1, none⟩) (Kd.R_far (p := ⟨gb677, 0, none⟩) (Kd.R_types HO_645001.out BK677.out (by decide)) (fun _ hk => hk.2) (.int .i64 t672)) (fun _ hk => hk.2) (.slice Ao124 t673.length co124)) (fun _ h_ => h_.1))) hb); replace HO_650001 := Aside0.mk (Kd.R_below (by (with_reducible repeat (first | apply Kd.R_alloc | apply Kd.R_drewN | apply Kd.R_drew)); exact (Kd.R_mono (Kd.R_far (p := ⟨gb677, 1, none⟩) (Kd.R_far (p := ⟨gb677, 0, none⟩) (Kd.R_types HO_650001.out BK677.out (by decide)) (fun _ hk => hk.2) (.int .i64 t672)) (fun _ hk => hk.2) (.slice Ao124 t673.length co124)) (fun _ h_ => h_.1))) hb); replace HO_656001 := Aside0.mk (Kd.R_below (by (with_reducible repeat (first | apply Kd.R_alloc | apply Kd.R_drewN | apply Kd.R_drew)); exact (Kd.R_mono (Kd.R_far (p := ⟨gb677, 1, none⟩) (Kd.R_far (p := ⟨gb677, 0, none⟩) (Kd.R_types HO_656001.out BK677.out (by decide)) (fun _ hk => hk.2) (.int .i64 t672)) (fun _ hk => hk.2) (.slice Ao124 t673.length co124)) (fun _ h_ => h_.1))) hb); replace HO671 := Aside0.mk (Kd.R_below (by (with_reducible repeat (first | apply Kd.R_alloc | apply Kd.R_drewN | apply Kd.R_drew)); exact (Kd.R_mono (Kd.R_far (p := ⟨gb677, 1, none⟩) (Kd.R_far (p := ⟨gb677, 0, none⟩) (Kd.R_types HO671.out BK677.out (by decide)) (fun _ hk => hk.2) (.int .i64 t672)) (fun _ hk => hk.2) (.slice Ao124 t673.length co124)) (fun _ h_ => h_.1))) hb); replace HO675 := Aside0.mk (Kd.R_below (by (with_reducible repeat (first | apply Kd.R_alloc | apply Kd.R_drewN | apply Kd.R_drew)); exact (Kd.R_mono (Kd.R_far (p := ⟨gb677, 1, none⟩) (Kd.R_far (p := ⟨gb677, 0, none⟩) (Kd.R_types HO675.out BK677.out (by decide)) (fun _ hk => hk.2) (.int .i64 t672)) (fun _ hk => hk.2) (.slice Ao124 t673.length co124)) (fun _ h_ => h_.1))) hb); replace BK633 := Aside0.mk (blk_below (blkF BK633) hb); replace BK644 := Aside0.mk (blk_below (blkF BK644) hb); replace BK649 := Aside0.mk (blk_below (blkF BK649) hb); replace BK655 := Aside0.mk (blk_below (blkF BK655) hb); replace BK677 := Aside0.mk (blk_below (g := gb677) (o := .cells #[.int .i64 t672, .slice Ao124 t673.length co124] 38 (0, 0)) (by (with_reducible repeat (first | refine blk_drewN ?_ _ | refine blk_drew ?_ | refine blk_alloc ?_ _)); refine blk_put (cs := #[.int .i64 t672, .slice none 0 0]) ?_ 1 _ rfl; (with_reducible repeat (first | refine blk_drewN ?_ _ | refine blk_drew ?_ | refine blk_alloc ?_ _)); refine blk_put (cs := #[.int .i64 0, .slice none 0 0]) ?_ 0 _ rfl; (with_reducible repeat (first | refine blk_drewN ?_ _ | refine blk_drew ?_ | refine blk_alloc ?_ _)); exact BK677.out) hb); replace HB := Aside0.mk (below_step (beQ HB) hb); (try clear hb); (try clear hb2); (try clear hk); (try clear hi)))
             go_meet
             case rel => exact ⟨_, (true), sz, H', ⟨by have := HJ11.out; have := HJ60.out; first | omega | exact Nat.le_refl _⟩, ⟨by (try simp only [hl650001_60]); (with_reducible repeat (first | apply Kd.R_alloc | apply Kd.R_drewN | apply Kd.R_drew)); exact Kd.R_mono HO_645001.out (fun _ hk => ⟨hk.1.1.1, ⟨hk.1.1.2, hk.2⟩⟩)⟩, ⟨by (try simp only [hl650001_60]); (with_reducible repeat (first | apply Kd.R_alloc | apply Kd.R_drewN | apply Kd.R_drew)); exact Kd.R_mono HO_650001.out (fun _ hk => ⟨hk.1.1.1, ⟨hk.1.1.2, hk.2⟩⟩)⟩, ⟨by (try simp only [hl650001_60]); (with_reducible repeat (first | apply Kd.R_alloc | apply Kd.R_drewN | apply Kd.R_drew)); exact Kd.R_mono HO_656001.out (fun _ hk => ⟨hk.1.1.1, ⟨hk.1.1.2, hk.2⟩⟩)⟩, ⟨by (try simp only [hl650001_60]); (with_reducible repeat (first | apply Kd.R_alloc | apply Kd.R_drewN | apply Kd.R_drew)); exact Kd.R_mono HO675.out (fun _ hk => ⟨hk.1.1.1.2, ⟨hk.1.1.2, hk.1.2⟩⟩)⟩, ⟨by (try simp only [hl650001_60]); (with_reducible repeat (first | refine blk_drewN ?_ _ | refine blk_drew ?_ | refine blk_alloc ?_ _)); exact BK633.out⟩, ⟨by (try simp only [hl650001_60]); (with_reducible repeat (first | refine blk_drewN ?_ _ | refine blk_drew ?_ | refine blk_alloc ?_ _)); exact BK644.out⟩, ⟨by (try simp only [hl650001_60]); (with_reducible repeat (first | refine blk_drewN ?_ _ | refine blk_drew ?_ | refine blk_alloc ?_ _)); exact BK649.out⟩, ⟨by (try simp only [hl650001_60]); (with_reducible repeat (first | refine blk_drewN ?_ _ | refine blk_drew ?_ | refine blk_alloc ?_ _)); exact BK655.out⟩, ⟨by (try simp only [hl650001_60]); (with_reducible repeat (first | refine blk_drewN ?_ _ | refine blk_drew ?_ | refine blk_alloc ?_ _)); exact BK677.out⟩, ⟨beQ HB⟩⟩
           case rest =>
            clear HC104
            try clear c1
            try clear c2
            try clear p2
            try clear c3
            try clear c4
            try clear c4b0
            try clear c5
            try clear c6
            try clear c7
            try clear c8
            try clear c9
            try clear c10
            try clear c11
            try clear c12
            try clear c13
            try clear c14
            try clear c21
            try clear c26
            try clear c27
            try clear c28
            try clear c29
            try clear c33
            try clear c34
            try clear c35
            try clear c37
            try clear c39
            try clear c40
            try clear c41
            try clear c42
            try clear c44
            try clear c45
            try clear c48
            try clear c49
            try clear c50
            try clear c52
            try clear c53
            try clear c56
            try clear c59
            try clear c66
            try clear c67
            try clear c68
            try clear c71
            try clear c71b0
            try clear c73
            try clear c74
            try clear c75
            try clear c76
            try clear c78
            try clear c79
            try clear c82
            try clear c83
            try clear c84
            try clear c86
            try clear c87
            try clear c90
            try clear c93
            try clear c93b0
            try clear c94
            try clear c95
            try clear c96
            try clear c101
            try clear c101b0
            try clear c101b1
            try clear c105
            try clear c106
            try clear c107
            try clear c112
            try clear c113
            try clear c119
            try clear c120
            try clear c121
            try clear c122
            try clear c126
            try clear c127
            try clear c128
            try clear c129
            try clear c130
            try clear c132
            try clear c133
            try clear c134
            try clear c137
            try clear c138
            try clear c139
            try clear c140
            try clear c142
            try clear c143
            try clear c144
            try clear hcz108_0
            try clear hcz108_1
            try clear hcz110_0
            try clear hcz110_1
            try clear hcz114_0
            try clear hcz114_1
            try clear hcz123_0
            try clear hcz123_1
            try clear hcz131_0
            try clear hcz131_1
            try clear hcz135_0
            try clear hcz135_1
            try clear hcz141_0
            try clear hcz141_1
            try clear hcz145_0
            try clear hcz145_1
            try clear hcz14_0
            try clear hcz14_1
            try clear hcz16_0
            try clear hcz16_1
            try clear hcz22_0
            try clear hcz22_1
            try clear hcz24_0
            try clear hcz24_1
            try clear hcz29_0
            try clear hcz29_1
            try clear hcz36_0
            try clear hcz36_1
            try clear hcz43_0
            try clear hcz43_1
            try clear hcz46_0
            try clear hcz46_1
            try clear hcz51_0
            try clear hcz51_1
            try clear hcz54_0
            try clear hcz54_1
            try clear hcz69_0
            try clear hcz69_1
            try clear hcz6_0
            try clear hcz6_1
            try clear hcz77_0
            try clear hcz77_1
            try clear hcz80_0
            try clear hcz80_1
            try clear hcz85_0
            try clear hcz85_1
            try clear hcz88_0
            try clear hcz88_1
            try clear hcz97_0
            try clear hcz97_1
            try clear hcz99_0
            try clear hcz99_1
            try clear hfz108_0
            try clear hfz108_1
            try clear hfz110_0
            try clear hfz110_1
            try clear hfz114_0
            try clear hfz114_1
            try clear hfz123_0
            try clear hfz123_1
            try clear hfz131_0
            try clear hfz131_1
            try clear hfz135_0
            try clear hfz135_1
            try clear hfz141_0
            try clear hfz141_1
            try clear hfz145_0
            try clear hfz145_1
            try clear hfz14_0
            try clear hfz14_1
            try clear hfz16_0
            try clear hfz16_1
            try clear hfz22_0
            try clear hfz22_1
            try clear hfz24_0
            try clear hfz24_1
            try clear hfz29_0
            try clear hfz29_1
            try clear hfz36_0
            try clear hfz36_1
            try clear hfz43_0
            try clear hfz43_1
            try clear hfz46_0
            try clear hfz46_1
            try clear hfz51_0
            try clear hfz51_1
            try clear hfz54_0
            try clear hfz54_1
            try clear hfz69_0
            try clear hfz69_1
            try clear hfz6_0
            try clear hfz6_1
            try clear hfz77_0
            try clear hfz77_1
            try clear hfz80_0
            try clear hfz80_1
            try clear hfz85_0
            try clear hfz85_1
            try clear hfz88_0
            try clear hfz88_1
            try clear hfz97_0
            try clear hfz97_1
            try clear hfz99_0
            try clear hfz99_1
            try clear p2
            obtain ⟨kq, x92_103, rfl, HA, HJ103, HO_645001, HO_650001, HO_656001, HO_678001, BK633, BK644, BK649, BK655, BK677, HB⟩ := hcut; have hl656001_103 := (Kd.R_reads' HO_656001.out).1; rw [hl656001_103] at HO_656001
            (try simp only [hl656001_103])
            (try simp only [hl656001_103] at BK633)
            (try simp only [hl656001_103] at BK644)
            (try simp only [hl656001_103] at BK649)
            (try simp only [hl656001_103] at BK655)
            (try simp only [hl656001_103] at BK677)
            (try simp only [hl656001_103] at HO_645001)
            (try simp only [hl656001_103] at HO_650001)
            (try simp only [hl656001_103] at HO_678001)
            cases kq with
            | zero => exact absurd HA.out (by simp [laws_FnExactPartOfAlphabet.j2])
            | succ kj103 =>
             have H := HA.out; clear HA
             simp only [laws_FnExactPartOfAlphabet.j2] at H
             by_cases c147 : x92_103 = true
             ·subst c147
              have H1 : (some false) = some r := by rw [if_pos rfl] at H; exact H
              clear H; have H := H1; clear H1
              obtain rfl := Option.some.inj H
              go_wp2
              go_ret
              exact ⟨rz, beQ HB⟩
             ·replace c147 := Bool.eq_false_iff.mpr c147
              subst c147
              have H1 : ((laws_heldAlphabet.f kj103 t650 t666 1).bind fun t679 => (if t679 < 0 then (some false) else (if t679 = t665 then (some true) else (some false)))) = some r := by rw [if_neg (show ¬ (false = true) by decide)] at H; exact H
              clear H; have H := H1; clear H1; replace H := Option.bind_eq_some_iff.mp H; obtain ⟨t679, A1480, H⟩ := H
              replace H : (if t679 < 0 then (some false) else (if t679 = t665 then (some true) else (some false))) = some r := H
              have A148 := Aside0.mk A1480; clear A1480
              by_cases c149 : t679 < 0
              ·rw [if_pos c149] at H
               have c149b0 : decide (t679 < 0) = true := decide_eq_true c149
               clear c149
               obtain rfl := Option.some.inj H
               have hnb150 := NB655_633.out; have hnc150 := NB633_655.out; have hnb151 := NB655_644.out; have hnc151 := NB644_655.out; have hnb152 := NB655_649.out; have hnc152 := NB649_655.out; have hnb153 := NB655_677.out; have hnc153 := NB677_655.out
               have hcz154_0 : wc.cell? ⟨gb655, 0, none⟩ = some (.int .i64 t650) := bc BK655 0
               have hcz154_1 : wc.cell? ⟨gb655, 1, none⟩ = some (.slice Ao37 t666.length co37) := bc BK655 1
               have hfz154_0 := blk_frozen BK655.out 0; have hfz154_1 := blk_frozen BK655.out 1
               go_wp2_with (first | ((with_reducible refine gate_callee (f := 29) rfl ?_); refine goesL_ (some 95) rfl rfl Tryd.func29 (by kernel_rfl) rfl #[.agg #[.int .i64 t650, .slice Ao37 t666.length co37], .int .i64 1] rfl lz ?_; (with_reducible refine (laws_heldAlphabet.calls kj103 t650 _ _ t666 1 t679 _ ?side1 ?side2 A148.out).mono ?_); (case side1 => have q_ := Aside0.mk (Kd.R_reads' HO_656001.out).2.2; exact cQ q_); (case side2 => exact (Kd.R_reads' HO_656001.out).2.1); rintro e w155 ⟨rfl, hb⟩; refine ⟨_, rfl, ?_⟩; replace HO_645001 := kb HO_645001 hb; replace HO_650001 := kb HO_650001 hb; replace HO_656001 := kb HO_656001 hb; replace HO_678001 := kb HO_678001 hb; replace BK633 := bb BK633 hb; replace BK644 := bb BK644 hb; replace BK649 := bb BK649 hb; replace BK655 := bb BK655 hb; replace BK677 := bb BK677 hb; replace HB := Aside0.mk (below_step (beQ HB) hb); (try clear hb); (try clear hb2); (try clear hk); (try clear hi)))
               go_ret
               exact ⟨rz, beQ HB⟩
              ·rw [if_neg c149] at H
               have c149b0 : decide (t679 < 0) = false := decide_eq_false c149
               clear c149
               by_cases c156 : t679 = t665
               ·rw [if_pos c156] at H
                have c156b0 : (t679 == t665) = true := beq_iff_eq.mpr c156
                have c156b1 : (t679 != t665) = false := bne_eq_false_iff_eq.mpr c156
                clear c156
                obtain rfl := Option.some.inj H
                have hnb157 := NB655_633.out; have hnc157 := NB633_655.out; have hnb158 := NB655_644.out; have hnc158 := NB644_655.out; have hnb159 := NB655_649.out; have hnc159 := NB649_655.out; have hnb160 := NB655_677.out; have hnc160 := NB677_655.out
                have hcz161_0 : wc.cell? ⟨gb655, 0, none⟩ = some (.int .i64 t650) := bc BK655 0
                have hcz161_1 : wc.cell? ⟨gb655, 1, none⟩ = some (.slice Ao37 t666.length co37) := bc BK655 1
                have hfz161_0 := blk_frozen BK655.out 0; have hfz161_1 := blk_frozen BK655.out 1
                go_wp2_with (first | ((with_reducible refine gate_callee (f := 29) rfl ?_); refine goesL_ (some 95) rfl rfl Tryd.func29 (by kernel_rfl) rfl #[.agg #[.int .i64 t650, .slice Ao37 t666.length co37], .int .i64 1] rfl lz ?_; (with_reducible refine (laws_heldAlphabet.calls kj103 t650 _ _ t666 1 t679 _ ?side1 ?side2 A148.out).mono ?_); (case side1 => have q_ := Aside0.mk (Kd.R_reads' HO_656001.out).2.2; exact cQ q_); (case side2 => exact (Kd.R_reads' HO_656001.out).2.1); rintro e w162 ⟨rfl, hb⟩; refine ⟨_, rfl, ?_⟩; replace HO_645001 := kb HO_645001 hb; replace HO_650001 := kb HO_650001 hb; replace HO_656001 := kb HO_656001 hb; replace HO_678001 := kb HO_678001 hb; replace BK633 := bb BK633 hb; replace BK644 := bb BK644 hb; replace BK649 := bb BK649 hb; replace BK655 := bb BK655 hb; replace BK677 := bb BK677 hb; replace HB := Aside0.mk (below_step (beQ HB) hb); (try clear hb); (try clear hb2); (try clear hk); (try clear hi)))
                go_ret
                exact ⟨rz, beQ HB⟩
               ·rw [if_neg c156] at H
                have c156b0 : (t679 == t665) = false := beq_eq_false_iff_ne.mpr c156
                have c156b1 : (t679 != t665) = true := bne_iff_ne.mpr c156
                obtain rfl := Option.some.inj H
                have hnb163 := NB655_633.out; have hnc163 := NB633_655.out; have hnb164 := NB655_644.out; have hnc164 := NB644_655.out; have hnb165 := NB655_649.out; have hnc165 := NB649_655.out; have hnb166 := NB655_677.out; have hnc166 := NB677_655.out
                have hcz167_0 : wc.cell? ⟨gb655, 0, none⟩ = some (.int .i64 t650) := bc BK655 0
                have hcz167_1 : wc.cell? ⟨gb655, 1, none⟩ = some (.slice Ao37 t666.length co37) := bc BK655 1
                have hfz167_0 := blk_frozen BK655.out 0; have hfz167_1 := blk_frozen BK655.out 1
                go_wp2_with (first | ((with_reducible refine gate_callee (f := 29) rfl ?_); refine goesL_ (some 95) rfl rfl Tryd.func29 (by kernel_rfl) rfl #[.agg #[.int .i64 t650, .slice Ao37 t666.length co37], .int .i64 1] rfl lz ?_; (with_reducible refine (laws_heldAlphabet.calls kj103 t650 _ _ t666 1 t679 _ ?side1 ?side2 A148.out).mono ?_); (case side1 => have q_ := Aside0.mk (Kd.R_reads' HO_656001.out).2.2; exact cQ q_); (case side2 => exact (Kd.R_reads' HO_656001.out).2.1); rintro e w168 ⟨rfl, hb⟩; refine ⟨_, rfl, ?_⟩; replace HO_645001 := kb HO_645001 hb; replace HO_650001 := kb HO_650001 hb; replace HO_656001 := kb HO_656001 hb; replace HO_678001 := kb HO_678001 hb; replace BK633 := bb BK633 hb; replace BK644 := bb BK644 hb; replace BK649 := bb BK649 hb; replace BK655 := bb BK655 hb; replace BK677 := bb BK677 hb; replace HB := Aside0.mk (below_step (beQ HB) hb); (try clear hb); (try clear hb2); (try clear hk); (try clear hi)))
                go_ret
                exact ⟨rz, beQ HB⟩
          ·rw [if_neg c101] at H
           have c101b0 : (t667 == t665) = false := beq_eq_false_iff_ne.mpr c101
           have c101b1 : (t667 != t665) = true := bne_iff_ne.mpr c101
           obtain rfl := Option.some.inj H
           have hnb169 := NB655_633.out; have hnc169 := NB633_655.out; have hnb170 := NB655_644.out; have hnc170 := NB644_655.out; have hnb171 := NB655_649.out; have hnc171 := NB649_655.out
           have hcz172_0 : wc.cell? ⟨gb655, 0, none⟩ = some (.int .i64 t650) := bc BK655 0
           have hcz172_1 : wc.cell? ⟨gb655, 1, none⟩ = some (.slice Ao37 t651.length co37) := bc BK655 1
           have hfz172_0 := blk_frozen BK655.out 0; have hfz172_1 := blk_frozen BK655.out 1
           go_wp2_with (first | ((with_reducible refine gate_callee (f := 28) rfl ?_); refine goesL_ (some 68) rfl rfl Tryd.func28 (by kernel_rfl) rfl #[.agg #[.int .i64 t650, .slice Ao37 t651.length co37], .int .i64 1] rfl lz ?_; (with_reducible refine (laws_markAlphabet.calls kj60 t650 (fun k_ => some k_ = (.slice Ao37 t651.length co37 : Value).ownBlock) (.slice Ao37 t651.length co37) t651 1 t665 t666 w _ ?side1 ?side2 A91.out).mono ?_); (case side1 => repeat (first | (with_reducible first | exact HB.out | apply below_alloc | apply pw_below_drewN | apply below_drew1 | refine below_set ?_ GE633.out | refine below_set ?_ GE644.out | refine below_set ?_ GE649.out | refine below_set ?_ GE655.out) | exact HB.out)); (case side2 => exact Kd.R_tight rfl HO_656001.out); rintro e w173 ⟨rfl, hy0, hb, hkp⟩; refine ⟨_, rfl, ?_⟩; replace HO_645001 := Aside0.mk (Kd.R_mono (ok' := fun k_ => some k_ ≠ (.slice Ao30 t663.length co30 : Value).ownBlock ∧ some k_ ≠ (.slice Ao37 t651.length co37 : Value).ownBlock) (Kd.R_keptB (HO_645001.out) hkp (fun k_ hk_ hs_ => (hk_.2) hs_)) (fun k_ hk_ => ⟨hk_.1.1, hk_.1.2⟩)); replace HO_650001 := Aside0.mk (Kd.R_mono (ok' := fun k_ => some k_ ≠ (.slice Ao23 t640.length co23 : Value).ownBlock ∧ some k_ ≠ (.slice Ao37 t651.length co37 : Value).ownBlock) (Kd.R_keptB (HO_650001.out) hkp (fun k_ hk_ hs_ => (hk_.2) hs_)) (fun k_ hk_ => ⟨hk_.1.1, hk_.1.2⟩)); replace BK633 := Aside0.mk (blk_kept (blkQ BK633) hkp (fun hs_ => (fun e_ => (Kd.R_ne HO_656001.out BK633.out (by decide)) e_) hs_)); replace BK644 := Aside0.mk (blk_kept (blkQ BK644) hkp (fun hs_ => (fun e_ => (Kd.R_ne HO_656001.out BK644.out (by decide)) e_) hs_)); replace BK649 := Aside0.mk (blk_kept (blkQ BK649) hkp (fun hs_ => (fun e_ => (Kd.R_ne HO_656001.out BK649.out (by decide)) e_) hs_)); replace BK655 := Aside0.mk (blk_kept (blkQ BK655) hkp (fun hs_ => (fun e_ => (Kd.R_ne HO_656001.out BK655.out (by decide)) e_) hs_)); replace HO_656001 := Aside0.mk (Kd.R_reok rfl hy0 (fun k_ e_ => HO_656001.out.1 k_ e_)); replace HB := Aside0.mk (hb); (try clear hb); (try clear hkp); (try clear hy0); have hcz174_0 : w173.cell? ⟨gb655, 0, none⟩ = some (.int .i64 t650) := bc BK655 0; have hcz174_1 : w173.cell? ⟨gb655, 1, none⟩ = some (.slice Ao37 t651.length co37) := bc BK655 1; have hfz174_0 := blk_frozen BK655.out 0; have hfz174_1 := blk_frozen BK655.out 1) | ((with_reducible refine gate_callee (f := 29) rfl ?_); refine goesL_ (some 71) rfl rfl Tryd.func29 (by kernel_rfl) rfl #[.agg #[.int .i64 t650, .slice Ao37 t666.length co37], .int .i64 1] rfl (by (try simp only [List.map_toArray, List.map_cons, List.map_nil]); first | done | (rw [show t666.length = t651.length from (Kd.R_reads' HO_656001.out).1.symm] <;> rfl) | rfl | (simp only [List.length_drop, List.length_take]; rfl)) ?_; (with_reducible refine (laws_heldAlphabet.calls kj60 t650 _ _ t666 1 t667 _ ?side1 ?side2 A92.out).mono ?_); (case side1 => have q_ := Aside0.mk (Kd.R_reads' HO_656001.out).2.2; exact cQ q_); (case side2 => rw [show t666.length = t651.length from (Kd.R_reads' HO_656001.out).1.symm]; exact (Kd.R_reads' HO_656001.out).2.1); rintro e w175 ⟨rfl, hb⟩; refine ⟨_, rfl, ?_⟩; replace HO_645001 := kb HO_645001 hb; replace HO_650001 := kb HO_650001 hb; replace HO_656001 := kb HO_656001 hb; replace BK633 := bb BK633 hb; replace BK644 := bb BK644 hb; replace BK649 := bb BK649 hb; replace BK655 := bb BK655 hb; replace HB := Aside0.mk (below_step (beQ HB) hb); (try clear hb); (try clear hb2); (try clear hk); (try clear hi)))
           go_ret
           exact ⟨rz, beQ HB⟩
     ·replace c59 := Bool.eq_false_iff.mpr c59
      subst c59
      have H1 : (some false) = some r := by rw [if_neg (show ¬ (false = true) by decide)] at H; exact H
      clear H; have H := H1; clear H1
      obtain rfl := Option.some.inj H
      try go_wp2
      replace HO_645001 := Aside0.mk (Kd.R_drew HO_645001.out); replace HO_650001 := Aside0.mk (Kd.R_drew HO_650001.out); replace HO_656001 := Aside0.mk (Kd.R_drew HO_656001.out); replace BK633 := Aside0.mk (blk_drew BK633.out); replace BK644 := Aside0.mk (blk_drew BK644.out); replace BK649 := Aside0.mk (blk_drew BK649.out); replace BK655 := Aside0.mk (blk_drew BK655.out); replace HB := Aside0.mk (below_drew1 HB.out)
      refine start_ (n := 5) (S := fun w' => w'.cell? ⟨gb649, 0, none⟩ = some (.int .i64 t645) ∧ w'.cell? ⟨gb649, 1, none⟩ = some (.slice Ao30 t646.length co30) ∧ w'.cell? ⟨gb633, 0, none⟩ = some (.int .i64 a0_0) ∧ w'.cell? ⟨gb633, 1, none⟩ = some (.slice A0_1 l0_1.length c0_1)) (ds := []) #[false, false, false, false, false] (by kernel_rfl) rfl rfl ⟨bc BK649 0, bc BK649 1, bc BK633 0, bc BK633 1⟩ (fun hHeld => ?_)
      generalize wc.drew = w176 at HO_645001 HO_650001 HO_656001 BK633 BK644 BK649 BK655 HB hHeld ⊢
      refine take_ (i := 0) (N := some 45) (v := ?_) (a' := ?_) #[true, false, false, false, false] rfl rfl (by kernel_rfl) (fun _ _ _ h => h) (Or.inl ⟨by rfl, ?_⟩) hHeld ?_ ?_
      rotate_left
      ·rintro w' ⟨s0, s1, s2, s3⟩
       go_simp
       with_reducible rfl
      rotate_left
      ·simp only [Act.put, s1, s2, s3, i64_w, i32_w]
       rfl
      refine take_ (i := 1) (N := some 46) (v := ?_) (a' := ?_) #[true, true, false, false, false] rfl rfl (by kernel_rfl) (fun _ _ _ h => h) (Or.inl ⟨by rfl, ?_⟩) hHeld ?_ ?_
      rotate_left
      ·rintro w' ⟨s0, s1, s2, s3⟩
       go_simp
       with_reducible rfl
      rotate_left
      ·simp only [Act.put, s1, s2, s3, i64_w, i32_w]
       rfl
      refine one_ (i := 2) (N := some 47) #[true, true, true, false, false] rfl rfl (by kernel_rfl) (by decide) (fun K hK => ?_)
      refine goes_ Tryd.func37 (by kernel_rfl) rfl #[.agg #[.int .i64 a0_0, .slice A0_1 l0_1.length c0_1]] (by rfl) rfl rfl lz ?_
      with_reducible refine (laws_toAlphabet.calls kj11 a0_0 _ _ l0_1 t657 t658 _ ?side1 ?side2 A57.out).mono ?_
      (case side1 => have q_ := Aside0.mk (Kd.C_below HR0_1.out HB.out); exact cQ q_)
      (case side2 => exact HC0_1.out)
      rintro e w177 ⟨v659, rfl, ho0, hb⟩
      refine ⟨_, rfl, ?_⟩
      have HO660 := Aside0.mk (Kd.R_lower (Kd.R_new' (Kd.R_new' (Kd.R_new' ho0 (Kd.R_lt (kdQ HO_645001))) (Kd.R_lt (kdQ HO_650001))) (Kd.R_lt (kdQ HO_656001))) (below_size (beQ HB))); replace HO_645001 := Aside0.mk (Kd.R_elder' (kdQ HO_645001) (Kd.R_base ho0) hb); replace HO_650001 := Aside0.mk (Kd.R_elder' (kdQ HO_650001) (Kd.R_base ho0) hb); replace HO_656001 := Aside0.mk (Kd.R_elder' (kdQ HO_656001) (Kd.R_base ho0) hb); replace BK633 := bb BK633 hb; replace BK644 := bb BK644 hb; replace BK649 := bb BK649 hb; replace BK655 := bb BK655 hb; replace HB := Aside0.mk (below_step (beQ HB) hb)
      (try clear hb)
      (try clear hb2)
      (try clear hk)
      (try clear hi)
      (try clear ho0)
      obtain ⟨Ao178, co178, eo178⟩ := Kd.R_slice HO660.out
      (first | subst eo178 | (injection eo178 with f1_ f2_ f3_; have f4_ := f1_.symm; have f5_ := f3_.symm; clear f1_ f2_ f3_; subst f4_; subst f5_))
      refine hK.out _ _ ⟨bc BK649 0, bc BK649 1, bc BK633 0, bc BK633 1⟩ (fun hHeld => ?_)
      clear hK K
      refine norm_ (a' := ?_) ?_ ?_
      rotate_left
      ·show Act.put _ (some 47) _ = _
       simp only [Act.put, s1, s2, s3, i64_w, i32_w]
       rfl
      refine one_ (i := 3) (N := some 48) #[true, true, true, true, false] rfl rfl (by kernel_rfl) (by decide) (fun K hK => ?_)
      refine goes_ Tryd.func26 (by kernel_rfl) rfl #[.agg #[.int .i64 t645, .slice Ao30 t646.length co30], .agg #[.int .i64 t657, .slice Ao178 t658.length co178]] (by rfl) rfl rfl lz ?_
      with_reducible refine (laws_eqAlphabet.calls kj11 t645 _ _ t646 t657 _ _ t658 false _ ?side1 ?side2 ?side3 ?side4 A58.out).mono ?_
      (case side1 => have q_ := Aside0.mk (Kd.R_reads' HO_650001.out).2.2; exact cQ q_)
      (case side2 => exact (Kd.R_reads' HO_650001.out).2.1)
      (case side3 => have q_ := Aside0.mk (Kd.R_reads' HO660.out).2.2; exact cQ q_)
      (case side4 => exact (Kd.R_reads' HO660.out).2.1)
      rintro e w179 ⟨rfl, hb⟩
      refine ⟨_, rfl, ?_⟩
      replace HO_645001 := kb HO_645001 hb; replace HO_650001 := kb HO_650001 hb; replace HO_656001 := kb HO_656001 hb; replace HO660 := kb HO660 hb; replace BK633 := bb BK633 hb; replace BK644 := bb BK644 hb; replace BK649 := bb BK649 hb; replace BK655 := bb BK655 hb; replace HB := Aside0.mk (below_step (beQ HB) hb)
      (try clear hb)
      (try clear hb2)
      (try clear hk)
      (try clear hi)
      refine hK.out _ _ ⟨bc BK649 0, bc BK649 1, bc BK633 0, bc BK633 1⟩ (fun hHeld => ?_)
      clear hK K
      refine norm_ (a' := ?_) ?_ ?_
      rotate_left
      ·show Act.put _ (some 48) _ = _
       simp only [Act.put, s1, s2, s3, i64_w, i32_w]
       rfl
      refine pure_ (i := 4) (N := some 49) (v := ?_) (a' := ?_) #[true, true, true, true, true] rfl rfl (by kernel_rfl) (fun _ _ _ h => h) (Or.inl ⟨by rfl, ?_⟩) ?_ ?_
      rotate_left
      ·intro w'
       go_simp
       with_reducible rfl
      rotate_left
      ·simp only [Act.put, s1, s2, s3, i64_w, i32_w]
       rfl
      refine done_ (by kernel_rfl) ?_
      try go_wp2
      go_ret
      exact ⟨rz, beQ HB⟩

end Go.Proofs.YtdbdlhjhacbjoaaDoor.G
