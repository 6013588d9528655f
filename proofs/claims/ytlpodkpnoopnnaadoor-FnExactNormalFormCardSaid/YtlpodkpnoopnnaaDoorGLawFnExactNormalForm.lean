/- How the program's functions compute, function by function: each is told by a plain Lean function of the same answers, under the condition that this one answers. Written by a program of this project over the seat's translation; Lean checks it. -/
import Derived.Test.YtlpodkpnoopnnaaDoorG0
import Derived.Test.YtlpodkpnoopnnaaDoorGQ00
import Derived.Test.YtlpodkpnoopnnaaDoorGQ08
import Derived.Test.YtlpodkpnoopnnaaDoorGQ23
import Derived.Test.YtlpodkpnoopnnaaDoorGQ25
namespace Go.Proofs.YtlpodkpnoopnnaaDoor.G
open Go.RowKit Go.Proofs.YtlpodkpnoopnnaaDoorW.PrintWords Go.Proofs.YtlpodkpnoopnnaaDoorW.PrintLast Go.Proofs.YtlpodkpnoopnnaaDoorW.PrintMore
attribute [local go_sem] max2_int min2_int max_two min_two max_three min_three max_four min_four   -- for this text's walks alone
set_option linter.unusedVariables false
set_option linter.unusedSimpArgs false

/-! ### laws_FnExactNormalForm: function 8 -/
mutual
def laws_FnExactNormalForm.j0 : Nat → List Int → List Int → Int → List Int → List Int → Int → Bool → Int → List Int → Int → List Int → Option (Bool)
 | 0, _, _, _, _, _, _, _, _, _, _, _ => none
 | k + 1, x1, x6, x7, x9, x10, x11, x51, x700000, x700001, x717000, x717001 => if x51 = true then (some false) else ((laws_toAlphabet.f k x700000 x700001).bind fun bt725 => ((laws_eqAlphabet.f k x717000 x717001 bt725.1 bt725.2).bind fun t729 => (if t729 = true then ((laws_toInt64S.f k x1).bind fun t730 => ((laws_eqInt64S.f k x9 t730).bind fun t733 => (if t733 = true then ((laws_markAlphabet.f k x717000 x717001 1).bind fun bt734 => ((laws_markInt64S.f k x9 bt734.1).bind fun bt736 => (if bt736.1 < 0 then (laws_FnExactNormalForm.j1 k x1 x6 x7 x10 true x700000 x700001) else ((laws_eqInt64S.f k x10 x6).bind fun t738 => (if t738 = true then (laws_FnExactNormalForm.j1 k x1 x6 x7 x10 (x11 != x7) x700000 x700001) else (laws_FnExactNormalForm.j1 k x1 x6 x7 x10 true x700000 x700001)))))) else (some false)))) else (some false))))
def laws_FnExactNormalForm.j1 : Nat → List Int → List Int → Int → List Int → Bool → Int → List Int → Option (Bool)
 | 0, _, _, _, _, _, _, _ => none
 | k + 1, x1, x6, x7, x10, x80, x700000, x700001 => if x80 = true then (some false) else ((laws_markInt64S.f k x10 1).bind fun bt739 => ((laws_heldInt64S.f k bt739.2 1).bind fun t741 => (if t741 < 0 then (some false) else (if t741 = bt739.1 then ((laws_toAlphabet.f k x700000 x700001).bind fun bt742 => ((laws_toInt64S.f k x1).bind fun t746 => ((impl_NormalForm.f k bt742.1 bt742.2 t746).bind fun bt749 => ((laws_eqInt64S.f k bt749.1 x6).bind fun t753 => (if t753 = true then (laws_FnExactNormalForm.j2 k bt739.2 bt739.1 (bt749.2 != x7)) else (laws_FnExactNormalForm.j2 k bt739.2 bt739.1 true)))))) else (some false)))))
def laws_FnExactNormalForm.j2 : Nat → List Int → Int → Bool → Option (Bool)
 | 0, _, _, _ => none
 | k + 1, x10, x13, x108 => if x108 = true then (some false) else ((laws_heldInt64S.f k x10 1).bind fun t754 => (if t754 < 0 then (some false) else (if t754 = x13 then (some true) else (some false))))
end
def laws_FnExactNormalForm.f (k : Nat) (a0_0 : Int) (l0_1 : List Int) (l1 : List Int) : Option (Bool) := if (l1.length : Int) > 1048576 then (some true) else ((laws_szAlphabet.f a0_0 l0_1 1048576).bind fun t700 => (if t700 < 0 then (some true) else ((laws_toAlphabet.f k a0_0 l0_1).bind fun bt701 => ((laws_toInt64S.f k l1).bind fun t705 => ((spec_NormalForm.f k bt701.1 bt701.2 t705).bind fun bt708 => ((laws_toAlphabet.f k a0_0 l0_1).bind fun bt712 => ((laws_toInt64S.f k l1).bind fun t717 => ((impl_NormalForm.f k bt712.1 bt712.2 t717).bind fun bt720 => ((laws_eqInt64S.f k bt720.1 bt708.1).bind fun t724 => (if t724 = true then (laws_FnExactNormalForm.j0 k l1 bt708.1 bt708.2 t717 bt720.1 bt720.2 (bt720.2 != bt708.2) a0_0 l0_1 bt712.1 bt712.2) else (laws_FnExactNormalForm.j0 k l1 bt708.1 bt708.2 t717 bt720.1 bt720.2 true a0_0 l0_1 bt712.1 bt712.2)))))))))))
theorem laws_FnExactNormalForm.mono_l : ∀ k, (∀ y0 y1 y2 y3 y4 y5 y6 y7 y8 y9 y10, LeO (laws_FnExactNormalForm.j0 k y0 y1 y2 y3 y4 y5 y6 y7 y8 y9 y10) (laws_FnExactNormalForm.j0 (k + 1) y0 y1 y2 y3 y4 y5 y6 y7 y8 y9 y10)) ∧ (∀ y0 y1 y2 y3 y4 y5 y6, LeO (laws_FnExactNormalForm.j1 k y0 y1 y2 y3 y4 y5 y6) (laws_FnExactNormalForm.j1 (k + 1) y0 y1 y2 y3 y4 y5 y6)) ∧ (∀ y0 y1 y2, LeO (laws_FnExactNormalForm.j2 k y0 y1 y2) (laws_FnExactNormalForm.j2 (k + 1) y0 y1 y2))
 | 0 => ⟨fun _ _ _ _ _ _ _ _ _ _ _ r h => by simp [laws_FnExactNormalForm.j0] at h, fun _ _ _ _ _ _ _ r h => by simp [laws_FnExactNormalForm.j1] at h, fun _ _ _ r h => by simp [laws_FnExactNormalForm.j2] at h⟩
 | k + 1 => by
  obtain ⟨ih0, ih1, ih2⟩ := laws_FnExactNormalForm.mono_l k
  refine ⟨?_, ?_, ?_⟩
  ·intro y0 y1 y2 y3 y4 y5 y6 y7 y8 y9 y10
   unfold laws_FnExactNormalForm.j0
   repeat' first
   | (with_reducible exact ih0 _ _ _ _ _ _ _ _ _ _ _)
   | (with_reducible exact ih1 _ _ _ _ _ _ _)
   | (with_reducible exact ih2 _ _ _)
   | (with_reducible exact impl_NormalForm.mono _ _ _ _)
   | (with_reducible exact laws_eqAlphabet.mono _ _ _ _ _)
   | (with_reducible exact laws_eqInt64S.mono _ _ _)
   | (with_reducible exact laws_heldInt64S.mono _ _ _)
   | (with_reducible exact laws_markAlphabet.mono _ _ _ _)
   | (with_reducible exact laws_markInt64S.mono _ _ _)
   | (with_reducible exact laws_toAlphabet.mono _ _ _)
   | (with_reducible exact laws_toInt64S.mono _ _)
   | (with_reducible exact spec_NormalForm.mono _ _ _ _)
   | (with_reducible exact LeO.refl _)
   | (with_reducible exact LeO.none _)
   | (with_reducible refine LeO.ite ?_ ?_)
   | (with_reducible refine LeO.bind ?_ (fun _ => ?_))
   | exact ih0 _ _ _ _ _ _ _ _ _ _ _
   | exact ih1 _ _ _ _ _ _ _
   | exact ih2 _ _ _
   | exact impl_NormalForm.mono _ _ _ _
   | exact laws_eqAlphabet.mono _ _ _ _ _
   | exact laws_eqInt64S.mono _ _ _
   | exact laws_heldInt64S.mono _ _ _
   | exact laws_markAlphabet.mono _ _ _ _
   | exact laws_markInt64S.mono _ _ _
   | exact laws_toAlphabet.mono _ _ _
   | exact laws_toInt64S.mono _ _
   | exact spec_NormalForm.mono _ _ _ _
   | exact LeO.none _
   | refine LeO.ite ?_ ?_
   | refine LeO.bind ?_ (fun _ => ?_)
  ·intro y0 y1 y2 y3 y4 y5 y6
   unfold laws_FnExactNormalForm.j1
   repeat' first
   | (with_reducible exact ih0 _ _ _ _ _ _ _ _ _ _ _)
   | (with_reducible exact ih1 _ _ _ _ _ _ _)
   | (with_reducible exact ih2 _ _ _)
   | (with_reducible exact impl_NormalForm.mono _ _ _ _)
   | (with_reducible exact laws_eqAlphabet.mono _ _ _ _ _)
   | (with_reducible exact laws_eqInt64S.mono _ _ _)
   | (with_reducible exact laws_heldInt64S.mono _ _ _)
   | (with_reducible exact laws_markAlphabet.mono _ _ _ _)
   | (with_reducible exact laws_markInt64S.mono _ _ _)
   | (with_reducible exact laws_toAlphabet.mono _ _ _)
   | (with_reducible exact laws_toInt64S.mono _ _)
   | (with_reducible exact spec_NormalForm.mono _ _ _ _)
   | (with_reducible exact LeO.refl _)
   | (with_reducible exact LeO.none _)
   | (with_reducible refine LeO.ite ?_ ?_)
   | (with_reducible refine LeO.bind ?_ (fun _ => ?_))
   | exact ih0 _ _ _ _ _ _ _ _ _ _ _
   | exact ih1 _ _ _ _ _ _ _
   | exact ih2 _ _ _
   | exact impl_NormalForm.mono _ _ _ _
   | exact laws_eqAlphabet.mono _ _ _ _ _
   | exact laws_eqInt64S.mono _ _ _
   | exact laws_heldInt64S.mono _ _ _
   | exact laws_markAlphabet.mono _ _ _ _
   | exact laws_markInt64S.mono _ _ _
   | exact laws_toAlphabet.mono _ _ _
   | exact laws_toInt64S.mono _ _
   | exact spec_NormalForm.mono _ _ _ _
   | exact LeO.none _
   | refine LeO.ite ?_ ?_
   | refine LeO.bind ?_ (fun _ => ?_)
  ·intro y0 y1 y2
   unfold laws_FnExactNormalForm.j2
   repeat' first
   | (with_reducible exact ih0 _ _ _ _ _ _ _ _ _ _ _)
   | (with_reducible exact ih1 _ _ _ _ _ _ _)
   | (with_reducible exact ih2 _ _ _)
   | (with_reducible exact impl_NormalForm.mono _ _ _ _)
   | (with_reducible exact laws_eqAlphabet.mono _ _ _ _ _)
   | (with_reducible exact laws_eqInt64S.mono _ _ _)
   | (with_reducible exact laws_heldInt64S.mono _ _ _)
   | (with_reducible exact laws_markAlphabet.mono _ _ _ _)
   | (with_reducible exact laws_markInt64S.mono _ _ _)
   | (with_reducible exact laws_toAlphabet.mono _ _ _)
   | (with_reducible exact laws_toInt64S.mono _ _)
   | (with_reducible exact spec_NormalForm.mono _ _ _ _)
   | (with_reducible exact LeO.refl _)
   | (with_reducible exact LeO.none _)
   | (with_reducible refine LeO.ite ?_ ?_)
   | (with_reducible refine LeO.bind ?_ (fun _ => ?_))
   | exact ih0 _ _ _ _ _ _ _ _ _ _ _
   | exact ih1 _ _ _ _ _ _ _
   | exact ih2 _ _ _
   | exact impl_NormalForm.mono _ _ _ _
   | exact laws_eqAlphabet.mono _ _ _ _ _
   | exact laws_eqInt64S.mono _ _ _
   | exact laws_heldInt64S.mono _ _ _
   | exact laws_markAlphabet.mono _ _ _ _
   | exact laws_markInt64S.mono _ _ _
   | exact laws_toAlphabet.mono _ _ _
   | exact laws_toInt64S.mono _ _
   | exact spec_NormalForm.mono _ _ _ _
   | exact LeO.none _
   | refine LeO.ite ?_ ?_
   | refine LeO.bind ?_ (fun _ => ?_)
theorem laws_FnExactNormalForm.mono : ∀ a0 a1 a2 k, LeO (laws_FnExactNormalForm.f k a0 a1 a2) (laws_FnExactNormalForm.f (k + 1) a0 a1 a2) := by
 intro a0 a1 a2 k
 obtain ⟨ih0, ih1, ih2⟩ := laws_FnExactNormalForm.mono_l k
 unfold laws_FnExactNormalForm.f
 repeat' first
   | (with_reducible exact ih0 _ _ _ _ _ _ _ _ _ _ _)
   | (with_reducible exact ih1 _ _ _ _ _ _ _)
   | (with_reducible exact ih2 _ _ _)
   | (with_reducible exact impl_NormalForm.mono _ _ _ _)
   | (with_reducible exact laws_eqAlphabet.mono _ _ _ _ _)
   | (with_reducible exact laws_eqInt64S.mono _ _ _)
   | (with_reducible exact laws_heldInt64S.mono _ _ _)
   | (with_reducible exact laws_markAlphabet.mono _ _ _ _)
   | (with_reducible exact laws_markInt64S.mono _ _ _)
   | (with_reducible exact laws_toAlphabet.mono _ _ _)
   | (with_reducible exact laws_toInt64S.mono _ _)
   | (with_reducible exact spec_NormalForm.mono _ _ _ _)
   | (with_reducible exact LeO.refl _)
   | (with_reducible exact LeO.none _)
   | (with_reducible refine LeO.ite ?_ ?_)
   | (with_reducible refine LeO.bind ?_ (fun _ => ?_))
   | exact ih0 _ _ _ _ _ _ _ _ _ _ _
   | exact ih1 _ _ _ _ _ _ _
   | exact ih2 _ _ _
   | exact impl_NormalForm.mono _ _ _ _
   | exact laws_eqAlphabet.mono _ _ _ _ _
   | exact laws_eqInt64S.mono _ _ _
   | exact laws_heldInt64S.mono _ _ _
   | exact laws_markAlphabet.mono _ _ _ _
   | exact laws_markInt64S.mono _ _ _
   | exact laws_toAlphabet.mono _ _ _
   | exact laws_toInt64S.mono _ _
   | exact spec_NormalForm.mono _ _ _ _
   | exact LeO.none _
   | refine LeO.ite ?_ ?_
   | refine LeO.bind ?_ (fun _ => ?_)
set_option maxHeartbeats 8000000 in
set_option maxRecDepth 100000 in
theorem laws_FnExactNormalForm.calls (k : Nat) (a0_0 : Int) (A0_1 : Option Addr) (c0_1 : Nat) (l0_1 : List Int) (A1 : Option Addr) (c1 : Nat) (l1 : List Int) (r : Bool) (w : World) (hr0_1 : Kd.C (Kd.int .i64) w A0_1 l0_1.length l0_1) (hc0_1 : l0_1.length ≤ c0_1) (hr1 : Kd.C (Kd.int .i64) w A1 l1.length l1) (hc1 : l1.length ≤ c1) (hT : TabW w) (h : laws_FnExactNormalForm.f k a0_0 l0_1 l1 = some r) :
  Calls Tryd.prog 8 #[.agg #[.int .i64 a0_0, .slice A0_1 l0_1.length c0_1], .slice A1 l1.length c1] w fun e w' => e = .returned (.bool r) ∧ Below w.heap.size w w' := by
 have hu24 := Tryd.underlying24; have hu28 := Tryd.underlying28; have HT := Aside0.mk hT; clear hT; have HR0_1 := Aside0.mk hr0_1; have HC0_1 := Aside0.mk hc0_1; clear hr0_1 hc0_1; have HR1 := Aside0.mk hr1; have HC1 := Aside0.mk hc1; clear hr1 hc1; have HB := Aside0.mk (Below.refl w.heap.size w)
 have H : (if (l1.length : Int) > 1048576 then (some true) else ((laws_szAlphabet.f a0_0 l0_1 1048576).bind fun t700 => (if t700 < 0 then (some true) else ((laws_toAlphabet.f k a0_0 l0_1).bind fun bt701 => ((laws_toInt64S.f k l1).bind fun t705 => ((spec_NormalForm.f k bt701.1 bt701.2 t705).bind fun bt708 => ((laws_toAlphabet.f k a0_0 l0_1).bind fun bt712 => ((laws_toInt64S.f k l1).bind fun t717 => ((impl_NormalForm.f k bt712.1 bt712.2 t717).bind fun bt720 => ((laws_eqInt64S.f k bt720.1 bt708.1).bind fun t724 => (if t724 = true then (laws_FnExactNormalForm.j0 k l1 bt708.1 bt708.2 t717 bt720.1 bt720.2 (bt720.2 != bt708.2) a0_0 l0_1 bt712.1 bt712.2) else (laws_FnExactNormalForm.j0 k l1 bt708.1 bt708.2 t717 bt720.1 bt720.2 true a0_0 l0_1 bt712.1 bt712.2)))))))))))) = some r := h
 clear h
 by_cases c3 : (l1.length : Int) > 1048576
 ·rw [if_pos c3] at H
  have c3b0 : decide (1048576 < (l1.length : Int)) = true := decide_eq_true c3
  have c3b1 : decide (1048576 < l1.length) = true := decide_eq_true (by omega)
  clear c3
  obtain rfl := Option.some.inj H
  go_enter Tryd.func8, Tryd.ntmps8
  go_wp2_with (first | ((with_reducible refine gate_dst (N := 2) rfl ?_); refine box_event ?hg (N := 2) ?hd (cs := #[.int .i64 a0_0, .slice A0_1 l0_1.length c0_1]) (t := 24) ?hr ?_; (case hd => rfl); (case hg => rfl); (case hr => first | (go_simp; done) | (go_simp; rfl)); intro gb699 hg w4 hbox hb; have BK699 := Aside0.mk (hbox); have GW699 := Aside0.mk ((by rw [hg]; exact (below_size (beQ HB)) : w.heap.size ≤ gb699)); have GE699 := Aside0.mk ((by rw [hg]; exact (below_size (beQ HB)) : w.heap.size ≤ gb699)); replace HB := Aside0.mk (below_step (beQ HB) hb); clear hb hbox hg))
  go_ret
  exact ⟨rz, beQ HB⟩
 ·rw [if_neg c3] at H
  have c3b0 : decide (1048576 < (l1.length : Int)) = false := decide_eq_false c3
  have c3b1 : decide (1048576 < l1.length) = false := decide_eq_false (by omega)
  clear c3; replace H := Option.bind_eq_some_iff.mp H; obtain ⟨t700, A50, H⟩ := H
  replace H : (if t700 < 0 then (some true) else ((laws_toAlphabet.f k a0_0 l0_1).bind fun bt701 => ((laws_toInt64S.f k l1).bind fun t705 => ((spec_NormalForm.f k bt701.1 bt701.2 t705).bind fun bt708 => ((laws_toAlphabet.f k a0_0 l0_1).bind fun bt712 => ((laws_toInt64S.f k l1).bind fun t717 => ((impl_NormalForm.f k bt712.1 bt712.2 t717).bind fun bt720 => ((laws_eqInt64S.f k bt720.1 bt708.1).bind fun t724 => (if t724 = true then (laws_FnExactNormalForm.j0 k l1 bt708.1 bt708.2 t717 bt720.1 bt720.2 (bt720.2 != bt708.2) a0_0 l0_1 bt712.1 bt712.2) else (laws_FnExactNormalForm.j0 k l1 bt708.1 bt708.2 t717 bt720.1 bt720.2 true a0_0 l0_1 bt712.1 bt712.2)))))))))) = some r := H
  have A5 := Aside0.mk A50; clear A50
  by_cases c6 : t700 < 0
  ·rw [if_pos c6] at H
   have c6b0 : decide (t700 < 0) = true := decide_eq_true c6
   clear c6
   obtain rfl := Option.some.inj H
   go_enter Tryd.func8, Tryd.ntmps8
   go_wp2_with (first | ((with_reducible refine gate_dst (N := 2) rfl ?_); refine box_event ?hg (N := 2) ?hd (cs := #[.int .i64 a0_0, .slice A0_1 l0_1.length c0_1]) (t := 24) ?hr ?_; (case hd => rfl); (case hg => rfl); (case hr => first | (go_simp; done) | (go_simp; rfl)); intro gb699 hg w7 hbox hb; have BK699 := Aside0.mk (hbox); have GW699 := Aside0.mk ((by rw [hg]; exact (below_size (beQ HB)) : w.heap.size ≤ gb699)); have GE699 := Aside0.mk ((by rw [hg]; exact (below_size (beQ HB)) : w.heap.size ≤ gb699)); replace HB := Aside0.mk (below_step (beQ HB) hb); clear hb hbox hg; have hcz8_0 : w7.cell? ⟨gb699, 0, none⟩ = some (.int .i64 a0_0) := bc BK699 0; have hcz8_1 : w7.cell? ⟨gb699, 1, none⟩ = some (.slice A0_1 l0_1.length c0_1) := bc BK699 1; have hfz8_0 := blk_frozen BK699.out 0; have hfz8_1 := blk_frozen BK699.out 1) | ((with_reducible refine gate_callee (f := 15) rfl ?_); refine goesL_ (some 22) rfl rfl Tryd.func15 (by kernel_rfl) rfl #[.agg #[.int .i64 a0_0, .slice A0_1 l0_1.length c0_1], .int .i64 1048576] rfl lz ?_; (with_reducible refine (laws_szAlphabet.calls a0_0 _ _ l0_1 1048576 t700 _ ?side1 ?side2 A5.out).mono ?_); (case side1 => have q_ := Aside0.mk (Kd.C_below HR0_1.out HB.out); exact cQ q_); (case side2 => exact HC0_1.out); rintro e w9 ⟨rfl, hb⟩; refine ⟨_, rfl, ?_⟩; replace BK699 := bb BK699 hb; replace HB := Aside0.mk (below_step (beQ HB) hb); (try clear hb); (try clear hb2); (try clear hk); (try clear hi)))
   go_ret
   exact ⟨rz, beQ HB⟩
  ·rw [if_neg c6] at H
   have c6b0 : decide (t700 < 0) = false := decide_eq_false c6
   clear c6; replace H := Option.bind_eq_some_iff.mp H
   obtain ⟨⟨t701, t702⟩, A100, H⟩ := H
   replace H : ((laws_toInt64S.f k l1).bind fun t705 => ((spec_NormalForm.f k t701 t702 t705).bind fun bt708 => ((laws_toAlphabet.f k a0_0 l0_1).bind fun bt712 => ((laws_toInt64S.f k l1).bind fun t717 => ((impl_NormalForm.f k bt712.1 bt712.2 t717).bind fun bt720 => ((laws_eqInt64S.f k bt720.1 bt708.1).bind fun t724 => (if t724 = true then (laws_FnExactNormalForm.j0 k l1 bt708.1 bt708.2 t717 bt720.1 bt720.2 (bt720.2 != bt708.2) a0_0 l0_1 bt712.1 bt712.2) else (laws_FnExactNormalForm.j0 k l1 bt708.1 bt708.2 t717 bt720.1 bt720.2 true a0_0 l0_1 bt712.1 bt712.2)))))))) = some r := H
   have A10 := Aside0.mk A100; clear A100; replace H := Option.bind_eq_some_iff.mp H; obtain ⟨t705, A110, H⟩ := H
   replace H : ((spec_NormalForm.f k t701 t702 t705).bind fun bt708 => ((laws_toAlphabet.f k a0_0 l0_1).bind fun bt712 => ((laws_toInt64S.f k l1).bind fun t717 => ((impl_NormalForm.f k bt712.1 bt712.2 t717).bind fun bt720 => ((laws_eqInt64S.f k bt720.1 bt708.1).bind fun t724 => (if t724 = true then (laws_FnExactNormalForm.j0 k l1 bt708.1 bt708.2 t717 bt720.1 bt720.2 (bt720.2 != bt708.2) a0_0 l0_1 bt712.1 bt712.2) else (laws_FnExactNormalForm.j0 k l1 bt708.1 bt708.2 t717 bt720.1 bt720.2 true a0_0 l0_1 bt712.1 bt712.2))))))) = some r := H
   have A11 := Aside0.mk A110; clear A110; replace H := Option.bind_eq_some_iff.mp H
   obtain ⟨⟨t708, t711⟩, A120, H⟩ := H
   replace H : ((laws_toAlphabet.f k a0_0 l0_1).bind fun bt712 => ((laws_toInt64S.f k l1).bind fun t717 => ((impl_NormalForm.f k bt712.1 bt712.2 t717).bind fun bt720 => ((laws_eqInt64S.f k bt720.1 t708).bind fun t724 => (if t724 = true then (laws_FnExactNormalForm.j0 k l1 t708 t711 t717 bt720.1 bt720.2 (bt720.2 != t711) a0_0 l0_1 bt712.1 bt712.2) else (laws_FnExactNormalForm.j0 k l1 t708 t711 t717 bt720.1 bt720.2 true a0_0 l0_1 bt712.1 bt712.2)))))) = some r := H
   have A12 := Aside0.mk A120; clear A120; replace H := Option.bind_eq_some_iff.mp H
   obtain ⟨⟨t712, t713⟩, A130, H⟩ := H
   replace H : ((laws_toInt64S.f k l1).bind fun t717 => ((impl_NormalForm.f k t712 t713 t717).bind fun bt720 => ((laws_eqInt64S.f k bt720.1 t708).bind fun t724 => (if t724 = true then (laws_FnExactNormalForm.j0 k l1 t708 t711 t717 bt720.1 bt720.2 (bt720.2 != t711) a0_0 l0_1 t712 t713) else (laws_FnExactNormalForm.j0 k l1 t708 t711 t717 bt720.1 bt720.2 true a0_0 l0_1 t712 t713))))) = some r := H
   have A13 := Aside0.mk A130; clear A130; replace H := Option.bind_eq_some_iff.mp H; obtain ⟨t717, A140, H⟩ := H
   replace H : ((impl_NormalForm.f k t712 t713 t717).bind fun bt720 => ((laws_eqInt64S.f k bt720.1 t708).bind fun t724 => (if t724 = true then (laws_FnExactNormalForm.j0 k l1 t708 t711 t717 bt720.1 bt720.2 (bt720.2 != t711) a0_0 l0_1 t712 t713) else (laws_FnExactNormalForm.j0 k l1 t708 t711 t717 bt720.1 bt720.2 true a0_0 l0_1 t712 t713)))) = some r := H
   have A14 := Aside0.mk A140; clear A140; replace H := Option.bind_eq_some_iff.mp H
   obtain ⟨⟨t720, t723⟩, A150, H⟩ := H
   replace H : ((laws_eqInt64S.f k t720 t708).bind fun t724 => (if t724 = true then (laws_FnExactNormalForm.j0 k l1 t708 t711 t717 t720 t723 (t723 != t711) a0_0 l0_1 t712 t713) else (laws_FnExactNormalForm.j0 k l1 t708 t711 t717 t720 t723 true a0_0 l0_1 t712 t713))) = some r := H
   have A15 := Aside0.mk A150; clear A150; have HC16 := Aside0.mk H; clear H
   go_enter Tryd.func8, Tryd.ntmps8
   go_upto_region 11 with (first | ((with_reducible refine gate_dst (N := 2) rfl ?_); refine box_event ?hg (N := 2) ?hd (cs := #[.int .i64 a0_0, .slice A0_1 l0_1.length c0_1]) (t := 24) ?hr ?_; (case hd => rfl); (case hg => rfl); (case hr => first | (go_simp; done) | (go_simp; rfl)); intro gb699 hg w17 hbox hb; have BK699 := Aside0.mk (hbox); have GW699 := Aside0.mk ((by rw [hg]; exact (below_size (beQ HB)) : w.heap.size ≤ gb699)); have GE699 := Aside0.mk ((by rw [hg]; exact (below_size (beQ HB)) : w.heap.size ≤ gb699)); replace HB := Aside0.mk (below_step (beQ HB) hb); clear hb hbox hg; have hcz18_0 : w17.cell? ⟨gb699, 0, none⟩ = some (.int .i64 a0_0) := bc BK699 0; have hcz18_1 : w17.cell? ⟨gb699, 1, none⟩ = some (.slice A0_1 l0_1.length c0_1) := bc BK699 1; have hfz18_0 := blk_frozen BK699.out 0; have hfz18_1 := blk_frozen BK699.out 1) | ((with_reducible refine gate_callee (f := 15) rfl ?_); refine goesL_ (some 22) rfl rfl Tryd.func15 (by kernel_rfl) rfl #[.agg #[.int .i64 a0_0, .slice A0_1 l0_1.length c0_1], .int .i64 1048576] rfl lz ?_; (with_reducible refine (laws_szAlphabet.calls a0_0 _ _ l0_1 1048576 t700 _ ?side1 ?side2 A5.out).mono ?_); (case side1 => have q_ := Aside0.mk (Kd.C_below HR0_1.out HB.out); exact cQ q_); (case side2 => exact HC0_1.out); rintro e w19 ⟨rfl, hb⟩; refine ⟨_, rfl, ?_⟩; replace BK699 := bb BK699 hb; replace HB := Aside0.mk (below_step (beQ HB) hb); (try clear hb); (try clear hb2); (try clear hk); (try clear hi); have hcz20_0 : w19.cell? ⟨gb699, 0, none⟩ = some (.int .i64 a0_0) := bc BK699 0; have hcz20_1 : w19.cell? ⟨gb699, 1, none⟩ = some (.slice A0_1 l0_1.length c0_1) := bc BK699 1; have hfz20_0 := blk_frozen BK699.out 0; have hfz20_1 := blk_frozen BK699.out 1) | ((with_reducible refine gate_callee (f := 17) rfl ?_); refine goesL_ (some 27) rfl rfl Tryd.func17 (by kernel_rfl) rfl #[.agg #[.int .i64 a0_0, .slice A0_1 l0_1.length c0_1]] rfl lz ?_; (with_reducible refine (laws_toAlphabet.calls k a0_0 _ _ l0_1 t701 t702 _ ?side1 ?side2 A10.out).mono ?_); (case side1 => have q_ := Aside0.mk (Kd.C_below HR0_1.out HB.out); exact cQ q_); (case side2 => exact HC0_1.out); rintro e w21 ⟨v703, rfl, ho0, hb⟩; refine ⟨_, rfl, ?_⟩; have HO704 := Aside0.mk (Kd.R_lower ho0 (below_size (beQ HB))); replace BK699 := bb BK699 hb; replace HB := Aside0.mk (below_step (beQ HB) hb); (try clear hb); (try clear hb2); (try clear hk); (try clear hi); (try clear ho0)) | ((with_reducible refine gate_callee (f := 18) rfl ?_); refine goesL_ (some 29) rfl rfl Tryd.func18 (by kernel_rfl) rfl #[.slice A1 l1.length c1] rfl lz ?_; (with_reducible refine (laws_toInt64S.calls k _ _ l1 t705 _ ?side1 ?side2 A11.out).mono ?_); (case side1 => have q_ := Aside0.mk (Kd.C_below HR1.out HB.out); exact cQ q_); (case side2 => exact HC1.out); rintro e w22 ⟨v706, rfl, ho0, hb⟩; refine ⟨_, rfl, ?_⟩; have HO707 := Aside0.mk (Kd.R_lower (Kd.R_new' ho0 (Kd.R_lt (kdQ HO704))) (below_size (beQ HB))); replace HO704 := Aside0.mk (Kd.R_elder' (kdQ HO704) (Kd.R_base ho0) hb); replace BK699 := bb BK699 hb; replace HB := Aside0.mk (below_step (beQ HB) hb); (try clear hb); (try clear hb2); (try clear hk); (try clear hi); (try clear ho0); obtain ⟨Ao23, co23, eo23⟩ := Kd.R_slice HO704.out; subst eo23; obtain ⟨Ao24, co24, eo24⟩ := Kd.R_slice HO707.out; subst eo24) | ((with_reducible refine gate_callee (f := 36) rfl ?_); refine goesL_ (some 30) rfl rfl Tryd.func36 (by kernel_rfl) rfl #[.agg #[.int .i64 t701, .slice Ao23 t702.length co23], .slice Ao24 t705.length co24] rfl lz ?_; (with_reducible refine (spec_NormalForm.calls k t701 _ _ t702 _ _ t705 t708 t711 _ ?side1 ?side2 ?side3 ?side4 A12.out).mono ?_); (case side1 => have q_ := Aside0.mk (Kd.R_reads' HO704.out).2.2; exact cQ q_); (case side2 => exact (Kd.R_reads' HO704.out).2.1); (case side3 => have q_ := Aside0.mk (Kd.R_reads' HO707.out).2.2; exact cQ q_); (case side4 => exact (Kd.R_reads' HO707.out).2.1); rintro e w25 ⟨v709, rfl, ho0, hb⟩; refine ⟨_, rfl, ?_⟩; have HO710 := Aside0.mk (Kd.R_lower (Kd.R_new' (Kd.R_new' ho0 (Kd.R_lt (kdQ HO704))) (Kd.R_lt (kdQ HO707))) (below_size (beQ HB))); replace HO704 := Aside0.mk (Kd.R_elder' (kdQ HO704) (Kd.R_base ho0) hb); replace HO707 := Aside0.mk (Kd.R_elder' (kdQ HO707) (Kd.R_base ho0) hb); replace BK699 := bb BK699 hb; replace HB := Aside0.mk (below_step (beQ HB) hb); (try clear hb); (try clear hb2); (try clear hk); (try clear hi); (try clear ho0); have hcz26_0 : w25.cell? ⟨gb699, 0, none⟩ = some (.int .i64 a0_0) := bc BK699 0; have hcz26_1 : w25.cell? ⟨gb699, 1, none⟩ = some (.slice A0_1 l0_1.length c0_1) := bc BK699 1; have hfz26_0 := blk_frozen BK699.out 0; have hfz26_1 := blk_frozen BK699.out 1) | ((with_reducible refine gate_callee (f := 17) rfl ?_); refine goesL_ (some 34) rfl rfl Tryd.func17 (by kernel_rfl) rfl #[.agg #[.int .i64 a0_0, .slice A0_1 l0_1.length c0_1]] rfl lz ?_; (with_reducible refine (laws_toAlphabet.calls k a0_0 _ _ l0_1 t712 t713 _ ?side1 ?side2 A13.out).mono ?_); (case side1 => have q_ := Aside0.mk (Kd.C_below HR0_1.out HB.out); exact cQ q_); (case side2 => exact HC0_1.out); rintro e w27 ⟨v714, rfl, ho0, hb⟩; refine ⟨_, rfl, ?_⟩; have HO715 := Aside0.mk (Kd.R_lower (Kd.R_new' (Kd.R_new' (Kd.R_new' ho0 (Kd.R_lt (kdQ HO704))) (Kd.R_lt (kdQ HO707))) (Kd.R_lt (kdQ HO710))) (below_size (beQ HB))); replace HO704 := Aside0.mk (Kd.R_elder' (kdQ HO704) (Kd.R_base ho0) hb); replace HO707 := Aside0.mk (Kd.R_elder' (kdQ HO707) (Kd.R_base ho0) hb); replace HO710 := Aside0.mk (Kd.R_elder' (kdQ HO710) (Kd.R_base ho0) hb); replace BK699 := bb BK699 hb; replace HB := Aside0.mk (below_step (beQ HB) hb); (try clear hb); (try clear hb2); (try clear hk); (try clear hi); (try clear ho0)) | ((with_reducible refine gate_dst (N := 8) rfl ?_); refine box_event ?hg (N := 8) ?hd (cs := #[.int .i64 0, .slice none 0 0]) (t := 28) ?hr ?_; (case hd => rfl); (case hg => rfl); (case hr => first | (go_simp; done) | (go_simp; rfl)); intro gb716 hg w28 hbox hb; replace HO704 := kb HO704 hb; replace HO707 := kb HO707 hb; replace HO710 := kb HO710 hb; replace HO715 := kb HO715 hb; have BK716 := Aside0.mk (hbox); have GW716 := Aside0.mk ((by rw [hg]; exact (below_size (beQ HB)) : w.heap.size ≤ gb716)); have GE716 := Aside0.mk ((by rw [hg]; exact (below_size (beQ HB)) : w.heap.size ≤ gb716)); replace HB := Aside0.mk (below_step (beQ HB) hb); have NB699_716 := Aside0.mk ((by rw [hg]; exact Nat.ne_of_lt (blk_lt (blkQ BK699)) : gb699 ≠ gb716)); have NB716_699 := Aside0.mk ((by rw [hg]; exact Nat.ne_of_gt (blk_lt (blkQ BK699)) : gb716 ≠ gb699)); replace BK699 := bb BK699 hb; clear hb hbox hg; have hnb29 := NB716_699.out; have hnc29 := NB699_716.out; have hcz30_0 : w28.cell? ⟨gb716, 0, none⟩ = some (.int .i64 0) := bc BK716 0; have hcz30_1 : w28.cell? ⟨gb716, 1, none⟩ = some (.slice none 0 0) := bc BK716 1; have hfz30_0 := blk_frozen BK716.out 0; have hfz30_1 := blk_frozen BK716.out 1; obtain ⟨Ao31, co31, eo31⟩ := Kd.R_slice HO715.out; subst eo31) | ((with_reducible refine gate_callee (f := 18) rfl ?_); refine goesL_ (some 36) rfl rfl Tryd.func18 (by kernel_rfl) rfl #[.slice A1 l1.length c1] rfl lz ?_; (with_reducible refine (laws_toInt64S.calls k _ _ l1 t717 _ ?side1 ?side2 A14.out).mono ?_); (case side1 => exact Kd.C_below HR1.out (beQ HB)); (case side2 => exact HC1.out); rintro e w32 ⟨v718, rfl, ho0, hb⟩; refine ⟨_, rfl, ?_⟩; have HO719 := Aside0.mk (Kd.R_lower (Kd.R_new' (Kd.R_new' (Kd.R_new' (Kd.R_new' ho0 (Kd.R_lt (by (with_reducible repeat (first | apply Kd.R_alloc | apply Kd.R_drewN | apply Kd.R_drew)); exact (Kd.R_mono (Kd.R_far (p := ⟨gb716, 1, none⟩) (Kd.R_far (p := ⟨gb716, 0, none⟩) (Kd.R_types HO704.out BK716.out (by decide)) (fun _ hk => hk.2) (.int .i64 t712)) (fun _ hk => hk.2) (.slice Ao31 t713.length co31)) (fun _ h_ => h_.1))))) (Kd.R_lt (by (with_reducible repeat (first | apply Kd.R_alloc | apply Kd.R_drewN | apply Kd.R_drew)); exact (Kd.R_mono (Kd.R_far (p := ⟨gb716, 1, none⟩) (Kd.R_far (p := ⟨gb716, 0, none⟩) (Kd.R_types HO707.out BK716.out (by decide)) (fun _ hk => hk.2) (.int .i64 t712)) (fun _ hk => hk.2) (.slice Ao31 t713.length co31)) (fun _ h_ => h_.1))))) (Kd.R_lt (by (with_reducible repeat (first | apply Kd.R_alloc | apply Kd.R_drewN | apply Kd.R_drew)); exact (Kd.R_mono (Kd.R_far (p := ⟨gb716, 1, none⟩) (Kd.R_far (p := ⟨gb716, 0, none⟩) (Kd.R_types HO710.out BK716.out (by decide)) (fun _ hk => hk.2) (.int .i64 t712)) (fun _ hk => hk.2) (.slice Ao31 t713.length co31)) (fun _ h_ => h_.1))))) (Kd.R_lt (by (with_reducible repeat (first | apply Kd.R_alloc | apply Kd.R_drewN | apply Kd.R_drew)); exact (Kd.R_mono (Kd.R_far (p := ⟨gb716, 1, none⟩) (Kd.R_far (p := ⟨gb716, 0, none⟩) (Kd.R_types HO715.out BK716.out (by decide)) (fun _ hk => hk.2) (.int .i64 t712)) (fun _ hk => hk.2) (.slice Ao31 t713.length co31)) (fun _ h_ => h_.1))))) (below_size (beQ HB))); replace HO704 := Aside0.mk (Kd.R_elder' (by (with_reducible repeat (first | apply Kd.R_alloc | apply Kd.R_drewN | apply Kd.R_drew)); exact (Kd.R_mono (Kd.R_far (p := ⟨gb716, 1, none⟩) (Kd.R_far (p := ⟨gb716, 0, none⟩) (Kd.R_types HO704.out BK716.out (by decide)) (fun _ hk => hk.2) (.int .i64 t712)) (fun _ hk => hk.2) (.slice Ao31 t713.length co31)) (fun _ h_ => h_.1))) (Kd.R_base ho0) hb); replace HO707 := Aside0.mk (Kd.R_elder' (by (with_reducible repeat (first | apply Kd.R_alloc | apply Kd.R_drewN | apply Kd.R_drew)); exact (Kd.R_mono (Kd.R_far (p := ⟨gb716, 1, none⟩) (Kd.R_far (p := ⟨gb716, 0, none⟩) (Kd.R_types HO707.out BK716.out (by decide)) (fun _ hk => hk.2) (.int .i64 t712)) (fun _ hk => hk.2) (.slice Ao31 t713.length co31)) (fun _ h_ => h_.1))) (Kd.R_base ho0) hb); replace HO710 := Aside0.mk (Kd.R_elder' (by (with_reducible repeat (first | apply Kd.R_alloc | apply Kd.R_drewN | apply Kd.R_drew)); exact (Kd.R_mono (Kd.R_far (p := ⟨gb716, 1, none⟩) (Kd.R_far (p := ⟨gb716, 0, none⟩) (Kd.R_types HO710.out BK716.out (by decide)) (fun _ hk => hk.2) (.int .i64 t712)) (fun _ hk => hk.2) (.slice Ao31 t713.length co31)) (fun _ h_ => h_.1))) (Kd.R_base ho0) hb); replace HO715 := Aside0.mk (Kd.R_elder' (by (with_reducible repeat (first | apply Kd.R_alloc | apply Kd.R_drewN | apply Kd.R_drew)); exact (Kd.R_mono (Kd.R_far (p := ⟨gb716, 1, none⟩) (Kd.R_far (p := ⟨gb716, 0, none⟩) (Kd.R_types HO715.out BK716.out (by decide)) (fun _ hk => hk.2) (.int .i64 t712)) (fun _ hk => hk.2) (.slice Ao31 t713.length co31)) (fun _ h_ => h_.1))) (Kd.R_base ho0) hb); replace BK699 := Aside0.mk (blk_below (blkF BK699) hb); replace BK716 := Aside0.mk (blk_below (g := gb716) (o := .cells #[.int .i64 t712, .slice Ao31 t713.length co31] 28 (0, 0)) (by (with_reducible repeat (first | refine blk_drewN ?_ _ | refine blk_drew ?_ | refine blk_alloc ?_ _)); refine blk_put (cs := #[.int .i64 t712, .slice none 0 0]) ?_ 1 _ rfl; (with_reducible repeat (first | refine blk_drewN ?_ _ | refine blk_drew ?_ | refine blk_alloc ?_ _)); refine blk_put (cs := #[.int .i64 0, .slice none 0 0]) ?_ 0 _ rfl; (with_reducible repeat (first | refine blk_drewN ?_ _ | refine blk_drew ?_ | refine blk_alloc ?_ _)); exact BK716.out) hb); replace HB := Aside0.mk (below_step (beQ HB) hb); (try clear hb); (try clear hb2); (try clear hk); (try clear hi); (try clear ho0); have hcz33_0 : w32.cell? ⟨gb716, 0, none⟩ = some (.int .i64 t712) := bc BK716 0; have hcz33_1 : w32.cell? ⟨gb716, 1, none⟩ = some (.slice Ao31 t713.length co31) := bc BK716 1; have hfz33_0 := blk_frozen BK716.out 0; have hfz33_1 := blk_frozen BK716.out 1; obtain ⟨Ao34, co34, eo34⟩ := Kd.R_slice HO719.out; subst eo34) | ((with_reducible refine gate_callee (f := 37) rfl ?_); refine goesL_ (some 40) rfl rfl Tryd.func37 (by kernel_rfl) rfl #[.agg #[.int .i64 t712, .slice Ao31 t713.length co31], .slice Ao34 t717.length co34] rfl lz ?_; (with_reducible refine (impl_NormalForm.calls k t712 _ _ t713 (fun k_ => some k_ = (.slice Ao34 t717.length co34 : Value).ownBlock) _ _ t717 t720 t723 _ ?side1 ?side2 ?side3 ?side4 A15.out).mono ?_); (case side1 => have q_ := Aside0.mk (Kd.R_reads' HO715.out).2.2; exact cQ q_); (case side2 => exact (Kd.R_reads' HO715.out).2.1); (case side3 => exact Kd.R_V (Kd.R_tight rfl (Kd.R_types (Kd.R_types (HO719.out) BK699.out (by decide)) BK716.out (by decide)))); (case side4 => exact TabW.below HT.out (beQ HB)); rintro e w35 ⟨v721, rfl, ho0, hb⟩; refine ⟨_, rfl, ?_⟩; have HO722 := Aside0.mk (Kd.R_lower (Kd.R_new' (Kd.R_new' (Kd.R_new' (Kd.R_new' (Kd.R_new' (Kd.R_mono (ok' := fun k_ => True) ho0 (fun _ hk_ => trivial)) (Kd.R_lt (kdQ HO704))) (Kd.R_lt (kdQ HO707))) (Kd.R_lt (kdQ HO710))) (Kd.R_lt (kdQ HO715))) (Kd.R_lt (kdQ HO719))) (below_size (beQ HB))); replace HO704 := Aside0.mk (Kd.R_elder' (kdQ HO704) (Kd.R_base ho0) hb); replace HO707 := Aside0.mk (Kd.R_elder' (kdQ HO707) (Kd.R_base ho0) hb); replace HO710 := Aside0.mk (Kd.R_elder' (kdQ HO710) (Kd.R_base ho0) hb); replace HO715 := Aside0.mk (Kd.R_elder' (kdQ HO715) (Kd.R_base ho0) hb); replace HO719 := Aside0.mk (Kd.R_elder' (kdQ HO719) (Kd.R_base ho0) hb); replace BK699 := bb BK699 hb; replace BK716 := bb BK716 hb; replace HB := Aside0.mk (below_step (beQ HB) hb); (try clear hb); (try clear hb2); (try clear hk); (try clear hi); (try clear ho0)))
   (try simp only [Act.put, List.setIfInBounds_toArray, List.set_cons_zero, List.set_cons_succ])
   go_cut [51] (fun v51 wc => ∃ (kq : Nat) (x51_15 : Bool), v51 = .bool x51_15 ∧ Aside0 (laws_FnExactNormalForm.j0 kq l1 t708 t711 t717 t720 t723 x51_15 a0_0 l0_1 t712 t713 = some r) ∧ Aside0 (kq ≤ k) ∧ Aside0 (Kd.R (Kd.int .i64) 2 wc w.heap.size (fun k_ => some k_ ≠ ((.slice Ao34 t717.length co34) : Value).ownBlock ∧ some k_ ≠ (v721 : Value).ownBlock ∧ some k_ ≠ ((.slice Ao31 t713.length co31) : Value).ownBlock) v709 t708) ∧ Aside0 (Kd.R (Kd.int .i64) 2 wc w.heap.size (fun k_ => some k_ ≠ (v709 : Value).ownBlock ∧ some k_ ≠ (v721 : Value).ownBlock ∧ some k_ ≠ ((.slice Ao31 t713.length co31) : Value).ownBlock) (.slice Ao34 t717.length co34) t717) ∧ Aside0 (Kd.R (Kd.int .i64) 2 wc w.heap.size (fun k_ => some k_ ≠ (v709 : Value).ownBlock ∧ some k_ ≠ ((.slice Ao34 t717.length co34) : Value).ownBlock ∧ some k_ ≠ ((.slice Ao31 t713.length co31) : Value).ownBlock) v721 t720) ∧ Aside0 (Kd.R (Kd.int .i64) 2 wc w.heap.size (fun k_ => some k_ ≠ (v709 : Value).ownBlock ∧ some k_ ≠ ((.slice Ao34 t717.length co34) : Value).ownBlock ∧ some k_ ≠ (v721 : Value).ownBlock) (.slice Ao31 t713.length co31) t713) ∧ Aside0 (wc.heap[gb699]? = some (.cells #[.int .i64 a0_0, (.slice A0_1 l0_1.length c0_1)] 24 (0, 0))) ∧ Aside0 (wc.heap[gb716]? = some (.cells #[.int .i64 t712, (.slice Ao31 t713.length co31)] 28 (0, 0))) ∧ Aside0 (Below w.heap.size w wc))
   case first =>
    have H := HC16.out; clear HC16; replace H := Option.bind_eq_some_iff.mp H; obtain ⟨t724, A360, H⟩ := H
    replace H : (if t724 = true then (laws_FnExactNormalForm.j0 k l1 t708 t711 t717 t720 t723 (t723 != t711) a0_0 l0_1 t712 t713) else (laws_FnExactNormalForm.j0 k l1 t708 t711 t717 t720 t723 true a0_0 l0_1 t712 t713)) = some r := H
    have A36 := Aside0.mk A360; clear A360
    by_cases c37 : t724 = true
    ·subst c37
     have H1 : (laws_FnExactNormalForm.j0 k l1 t708 t711 t717 t720 t723 (t723 != t711) a0_0 l0_1 t712 t713) = some r := by rw [if_pos rfl] at H; exact H
     clear H; have H := H1; clear H1
     have H' := Aside0.mk H
     clear H; obtain ⟨Ao38, co38, eo38⟩ := Kd.R_slice HO722.out; subst eo38; obtain ⟨Ao39, co39, eo39⟩ := Kd.R_slice HO710.out; subst eo39
     go_wp2_with (first | ((with_reducible refine gate_callee (f := 21) rfl ?_); refine goesL_ (some 45) rfl rfl Tryd.func21 (by kernel_rfl) rfl #[.slice Ao38 t720.length co38, .slice Ao39 t708.length co39] rfl lz ?_; (with_reducible refine (laws_eqInt64S.calls k _ _ t720 _ _ t708 true _ ?side1 ?side2 ?side3 ?side4 A36.out).mono ?_); (case side1 => have q_ := Aside0.mk (Kd.R_reads' HO722.out).2.2; exact cQ q_); (case side2 => exact (Kd.R_reads' HO722.out).2.1); (case side3 => have q_ := Aside0.mk (Kd.R_reads' HO710.out).2.2; exact cQ q_); (case side4 => exact (Kd.R_reads' HO710.out).2.1); rintro e w' ⟨rfl, ⟨nd, rfl⟩⟩; refine ⟨_, rfl, ?_⟩))
     go_meet
     case rel => exact ⟨_, ((t723 != t711)), sz, H', ⟨by first | omega | exact Nat.le_refl _⟩, ⟨by (with_reducible repeat (first | apply Kd.R_alloc | apply Kd.R_drewN | apply Kd.R_drew)); exact Kd.R_mono HO710.out (fun _ hk => ⟨hk.1.2, ⟨hk.2, hk.1.1.2⟩⟩)⟩, ⟨by (with_reducible repeat (first | apply Kd.R_alloc | apply Kd.R_drewN | apply Kd.R_drew)); exact Kd.R_mono HO719.out (fun _ hk => ⟨hk.1.1.2, ⟨hk.2, hk.1.2⟩⟩)⟩, ⟨by (with_reducible repeat (first | apply Kd.R_alloc | apply Kd.R_drewN | apply Kd.R_drew)); exact Kd.R_mono HO722.out (fun _ hk => ⟨hk.1.1.2, ⟨hk.2, hk.1.2⟩⟩)⟩, ⟨by (with_reducible repeat (first | apply Kd.R_alloc | apply Kd.R_drewN | apply Kd.R_drew)); exact Kd.R_mono HO715.out (fun _ hk => ⟨hk.1.1.2, ⟨hk.1.2, hk.2⟩⟩)⟩, ⟨blkQ BK699⟩, ⟨blkQ BK716⟩, ⟨beQ HB⟩⟩
    ·replace c37 := Bool.eq_false_iff.mpr c37
     subst c37
     have H1 : (laws_FnExactNormalForm.j0 k l1 t708 t711 t717 t720 t723 true a0_0 l0_1 t712 t713) = some r := by rw [if_neg (show ¬ (false = true) by decide)] at H; exact H
     clear H; have H := H1; clear H1
     have H' := Aside0.mk H
     clear H; obtain ⟨Ao40, co40, eo40⟩ := Kd.R_slice HO722.out; subst eo40; obtain ⟨Ao41, co41, eo41⟩ := Kd.R_slice HO710.out; subst eo41
     go_wp2_with (first | ((with_reducible refine gate_callee (f := 21) rfl ?_); refine goesL_ (some 45) rfl rfl Tryd.func21 (by kernel_rfl) rfl #[.slice Ao40 t720.length co40, .slice Ao41 t708.length co41] rfl lz ?_; (with_reducible refine (laws_eqInt64S.calls k _ _ t720 _ _ t708 false _ ?side1 ?side2 ?side3 ?side4 A36.out).mono ?_); (case side1 => have q_ := Aside0.mk (Kd.R_reads' HO722.out).2.2; exact cQ q_); (case side2 => exact (Kd.R_reads' HO722.out).2.1); (case side3 => have q_ := Aside0.mk (Kd.R_reads' HO710.out).2.2; exact cQ q_); (case side4 => exact (Kd.R_reads' HO710.out).2.1); rintro e w' ⟨rfl, ⟨nd, rfl⟩⟩; refine ⟨_, rfl, ?_⟩))
     go_meet
     case rel => exact ⟨_, (true), sz, H', ⟨by first | omega | exact Nat.le_refl _⟩, ⟨by (with_reducible repeat (first | apply Kd.R_alloc | apply Kd.R_drewN | apply Kd.R_drew)); exact Kd.R_mono HO710.out (fun _ hk => ⟨hk.1.2, ⟨hk.2, hk.1.1.2⟩⟩)⟩, ⟨by (with_reducible repeat (first | apply Kd.R_alloc | apply Kd.R_drewN | apply Kd.R_drew)); exact Kd.R_mono HO719.out (fun _ hk => ⟨hk.1.1.2, ⟨hk.2, hk.1.2⟩⟩)⟩, ⟨by (with_reducible repeat (first | apply Kd.R_alloc | apply Kd.R_drewN | apply Kd.R_drew)); exact Kd.R_mono HO722.out (fun _ hk => ⟨hk.1.1.2, ⟨hk.2, hk.1.2⟩⟩)⟩, ⟨by (with_reducible repeat (first | apply Kd.R_alloc | apply Kd.R_drewN | apply Kd.R_drew)); exact Kd.R_mono HO715.out (fun _ hk => ⟨hk.1.1.2, ⟨hk.1.2, hk.2⟩⟩)⟩, ⟨blkQ BK699⟩, ⟨blkQ BK716⟩, ⟨beQ HB⟩⟩
   case rest =>
    clear HC16
    try clear c1
    try clear c2
    try clear p2
    try clear c3
    try clear c3b0
    try clear c3b1
    try clear c6
    try clear c6b0
    try clear c8
    try clear c15
    try clear c17
    try clear c18
    try clear c21
    try clear c29
    try clear c36
    try clear c37
    try clear hcz18_0
    try clear hcz18_1
    try clear hcz20_0
    try clear hcz20_1
    try clear hcz26_0
    try clear hcz26_1
    try clear hcz30_0
    try clear hcz30_1
    try clear hcz33_0
    try clear hcz33_1
    try clear hcz8_0
    try clear hcz8_1
    try clear hfz18_0
    try clear hfz18_1
    try clear hfz20_0
    try clear hfz20_1
    try clear hfz26_0
    try clear hfz26_1
    try clear hfz30_0
    try clear hfz30_1
    try clear hfz33_0
    try clear hfz33_1
    try clear hfz8_0
    try clear hfz8_1
    obtain ⟨kq, x51_15, rfl, HA, HJ15, HO_6, HO_9, HO_10, HO_717001, BK699, BK716, HB⟩ := hcut
    cases kq with
    | zero => exact absurd HA.out (by simp [laws_FnExactNormalForm.j0])
    | succ kj15 =>
     have H := HA.out; clear HA
     simp only [laws_FnExactNormalForm.j0] at H
     by_cases c42 : x51_15 = true
     ·subst c42
      have H1 : (some false) = some r := by rw [if_pos rfl] at H; exact H
      clear H; have H := H1; clear H1
      obtain rfl := Option.some.inj H
      go_wp2
      go_ret
      exact ⟨rz, beQ HB⟩
     ·replace c42 := Bool.eq_false_iff.mpr c42
      subst c42
      have H1 : ((laws_toAlphabet.f kj15 a0_0 l0_1).bind fun bt725 => ((laws_eqAlphabet.f kj15 t712 t713 bt725.1 bt725.2).bind fun t729 => (if t729 = true then ((laws_toInt64S.f kj15 l1).bind fun t730 => ((laws_eqInt64S.f kj15 t717 t730).bind fun t733 => (if t733 = true then ((laws_markAlphabet.f kj15 t712 t713 1).bind fun bt734 => ((laws_markInt64S.f kj15 t717 bt734.1).bind fun bt736 => (if bt736.1 < 0 then (laws_FnExactNormalForm.j1 kj15 l1 t708 t711 t720 true a0_0 l0_1) else ((laws_eqInt64S.f kj15 t720 t708).bind fun t738 => (if t738 = true then (laws_FnExactNormalForm.j1 kj15 l1 t708 t711 t720 (t723 != t711) a0_0 l0_1) else (laws_FnExactNormalForm.j1 kj15 l1 t708 t711 t720 true a0_0 l0_1)))))) else (some false)))) else (some false)))) = some r := by rw [if_neg (show ¬ (false = true) by decide)] at H; exact H
      clear H; have H := H1; clear H1; replace H := Option.bind_eq_some_iff.mp H
      obtain ⟨⟨t725, t726⟩, A430, H⟩ := H
      replace H : ((laws_eqAlphabet.f kj15 t712 t713 t725 t726).bind fun t729 => (if t729 = true then ((laws_toInt64S.f kj15 l1).bind fun t730 => ((laws_eqInt64S.f kj15 t717 t730).bind fun t733 => (if t733 = true then ((laws_markAlphabet.f kj15 t712 t713 1).bind fun bt734 => ((laws_markInt64S.f kj15 t717 bt734.1).bind fun bt736 => (if bt736.1 < 0 then (laws_FnExactNormalForm.j1 kj15 l1 t708 t711 t720 true a0_0 l0_1) else ((laws_eqInt64S.f kj15 t720 t708).bind fun t738 => (if t738 = true then (laws_FnExactNormalForm.j1 kj15 l1 t708 t711 t720 (t723 != t711) a0_0 l0_1) else (laws_FnExactNormalForm.j1 kj15 l1 t708 t711 t720 true a0_0 l0_1)))))) else (some false)))) else (some false))) = some r := H
      have A43 := Aside0.mk A430; clear A430; replace H := Option.bind_eq_some_iff.mp H; obtain ⟨t729, A440, H⟩ := H
      replace H : (if t729 = true then ((laws_toInt64S.f kj15 l1).bind fun t730 => ((laws_eqInt64S.f kj15 t717 t730).bind fun t733 => (if t733 = true then ((laws_markAlphabet.f kj15 t712 t713 1).bind fun bt734 => ((laws_markInt64S.f kj15 t717 bt734.1).bind fun bt736 => (if bt736.1 < 0 then (laws_FnExactNormalForm.j1 kj15 l1 t708 t711 t720 true a0_0 l0_1) else ((laws_eqInt64S.f kj15 t720 t708).bind fun t738 => (if t738 = true then (laws_FnExactNormalForm.j1 kj15 l1 t708 t711 t720 (t723 != t711) a0_0 l0_1) else (laws_FnExactNormalForm.j1 kj15 l1 t708 t711 t720 true a0_0 l0_1)))))) else (some false)))) else (some false)) = some r := H
      have A44 := Aside0.mk A440; clear A440
      by_cases c45 : t729 = true
      ·subst c45
       have H1 : ((laws_toInt64S.f kj15 l1).bind fun t730 => ((laws_eqInt64S.f kj15 t717 t730).bind fun t733 => (if t733 = true then ((laws_markAlphabet.f kj15 t712 t713 1).bind fun bt734 => ((laws_markInt64S.f kj15 t717 bt734.1).bind fun bt736 => (if bt736.1 < 0 then (laws_FnExactNormalForm.j1 kj15 l1 t708 t711 t720 true a0_0 l0_1) else ((laws_eqInt64S.f kj15 t720 t708).bind fun t738 => (if t738 = true then (laws_FnExactNormalForm.j1 kj15 l1 t708 t711 t720 (t723 != t711) a0_0 l0_1) else (laws_FnExactNormalForm.j1 kj15 l1 t708 t711 t720 true a0_0 l0_1)))))) else (some false)))) = some r := by rw [if_pos rfl] at H; exact H
       clear H; have H := H1; clear H1; replace H := Option.bind_eq_some_iff.mp H; obtain ⟨t730, A460, H⟩ := H
       replace H : ((laws_eqInt64S.f kj15 t717 t730).bind fun t733 => (if t733 = true then ((laws_markAlphabet.f kj15 t712 t713 1).bind fun bt734 => ((laws_markInt64S.f kj15 t717 bt734.1).bind fun bt736 => (if bt736.1 < 0 then (laws_FnExactNormalForm.j1 kj15 l1 t708 t711 t720 true a0_0 l0_1) else ((laws_eqInt64S.f kj15 t720 t708).bind fun t738 => (if t738 = true then (laws_FnExactNormalForm.j1 kj15 l1 t708 t711 t720 (t723 != t711) a0_0 l0_1) else (laws_FnExactNormalForm.j1 kj15 l1 t708 t711 t720 true a0_0 l0_1)))))) else (some false))) = some r := H
       have A46 := Aside0.mk A460; clear A460; replace H := Option.bind_eq_some_iff.mp H; obtain ⟨t733, A470, H⟩ := H
       replace H : (if t733 = true then ((laws_markAlphabet.f kj15 t712 t713 1).bind fun bt734 => ((laws_markInt64S.f kj15 t717 bt734.1).bind fun bt736 => (if bt736.1 < 0 then (laws_FnExactNormalForm.j1 kj15 l1 t708 t711 t720 true a0_0 l0_1) else ((laws_eqInt64S.f kj15 t720 t708).bind fun t738 => (if t738 = true then (laws_FnExactNormalForm.j1 kj15 l1 t708 t711 t720 (t723 != t711) a0_0 l0_1) else (laws_FnExactNormalForm.j1 kj15 l1 t708 t711 t720 true a0_0 l0_1)))))) else (some false)) = some r := H
       have A47 := Aside0.mk A470; clear A470
       by_cases c48 : t733 = true
       ·subst c48
        have H1 : ((laws_markAlphabet.f kj15 t712 t713 1).bind fun bt734 => ((laws_markInt64S.f kj15 t717 bt734.1).bind fun bt736 => (if bt736.1 < 0 then (laws_FnExactNormalForm.j1 kj15 l1 t708 t711 t720 true a0_0 l0_1) else ((laws_eqInt64S.f kj15 t720 t708).bind fun t738 => (if t738 = true then (laws_FnExactNormalForm.j1 kj15 l1 t708 t711 t720 (t723 != t711) a0_0 l0_1) else (laws_FnExactNormalForm.j1 kj15 l1 t708 t711 t720 true a0_0 l0_1)))))) = some r := by rw [if_pos rfl] at H; exact H
        clear H; have H := H1; clear H1; replace H := Option.bind_eq_some_iff.mp H
        obtain ⟨⟨t734, t735⟩, A490, H⟩ := H
        replace H : ((laws_markInt64S.f kj15 t717 t734).bind fun bt736 => (if bt736.1 < 0 then (laws_FnExactNormalForm.j1 kj15 l1 t708 t711 t720 true a0_0 l0_1) else ((laws_eqInt64S.f kj15 t720 t708).bind fun t738 => (if t738 = true then (laws_FnExactNormalForm.j1 kj15 l1 t708 t711 t720 (t723 != t711) a0_0 l0_1) else (laws_FnExactNormalForm.j1 kj15 l1 t708 t711 t720 true a0_0 l0_1))))) = some r := H
        have A49 := Aside0.mk A490; clear A490; replace H := Option.bind_eq_some_iff.mp H
        obtain ⟨⟨t736, t737⟩, A500, H⟩ := H
        replace H : (if t736 < 0 then (laws_FnExactNormalForm.j1 kj15 l1 t708 t711 t720 true a0_0 l0_1) else ((laws_eqInt64S.f kj15 t720 t708).bind fun t738 => (if t738 = true then (laws_FnExactNormalForm.j1 kj15 l1 t708 t711 t720 (t723 != t711) a0_0 l0_1) else (laws_FnExactNormalForm.j1 kj15 l1 t708 t711 t720 true a0_0 l0_1)))) = some r := H
        have A50 := Aside0.mk A500; clear A500; have HC51 := Aside0.mk H; clear H
        try go_wp2
        replace HO_6 := Aside0.mk (Kd.R_drew HO_6.out); replace HO_9 := Aside0.mk (Kd.R_drew HO_9.out); replace HO_10 := Aside0.mk (Kd.R_drew HO_10.out); replace HO_717001 := Aside0.mk (Kd.R_drew HO_717001.out); replace BK699 := Aside0.mk (blk_drew BK699.out); replace BK716 := Aside0.mk (blk_drew BK716.out); replace HB := Aside0.mk (below_drew1 HB.out)
        refine start_ (n := 5) (S := fun w' => w'.cell? ⟨gb716, 0, none⟩ = some (.int .i64 t712) ∧ w'.cell? ⟨gb716, 1, none⟩ = some (.slice Ao31 t713.length co31) ∧ w'.cell? ⟨gb699, 0, none⟩ = some (.int .i64 a0_0) ∧ w'.cell? ⟨gb699, 1, none⟩ = some (.slice A0_1 l0_1.length c0_1)) (ds := []) #[false, false, false, false, false] (by kernel_rfl) rfl rfl ⟨bc BK716 0, bc BK716 1, bc BK699 0, bc BK699 1⟩ (fun hHeld => ?_)
        generalize wc.drew = w52 at HO_6 HO_9 HO_10 HO_717001 BK699 BK716 HB hHeld ⊢
        refine take_ (i := 0) (N := some 52) (v := ?_) (a' := ?_) #[true, false, false, false, false] rfl rfl (by kernel_rfl) (fun _ _ _ h => h) (Or.inl ⟨by rfl, ?_⟩) hHeld ?_ ?_
        rotate_left
        ·rintro w' ⟨s0, s1, s2, s3⟩
         go_simp
         with_reducible rfl
        rotate_left
        ·simp only [Act.put, s1, s2, s3, i64_w, i32_w]
         rfl
        refine take_ (i := 1) (N := some 53) (v := ?_) (a' := ?_) #[true, true, false, false, false] rfl rfl (by kernel_rfl) (fun _ _ _ h => h) (Or.inl ⟨by rfl, ?_⟩) hHeld ?_ ?_
        rotate_left
        ·rintro w' ⟨s0, s1, s2, s3⟩
         go_simp
         with_reducible rfl
        rotate_left
        ·simp only [Act.put, s1, s2, s3, i64_w, i32_w]
         rfl
        refine one_ (i := 2) (N := some 54) #[true, true, true, false, false] rfl rfl (by kernel_rfl) (by decide) (fun K hK => ?_)
        refine goes_ Tryd.func17 (by kernel_rfl) rfl #[.agg #[.int .i64 a0_0, .slice A0_1 l0_1.length c0_1]] (by rfl) rfl rfl lz ?_
        with_reducible refine (laws_toAlphabet.calls kj15 a0_0 _ _ l0_1 t725 t726 _ ?side1 ?side2 A43.out).mono ?_
        (case side1 => have q_ := Aside0.mk (Kd.C_below HR0_1.out HB.out); exact cQ q_)
        (case side2 => exact HC0_1.out)
        rintro e w53 ⟨v727, rfl, ho0, hb⟩
        refine ⟨_, rfl, ?_⟩
        have HO728 := Aside0.mk (Kd.R_lower (Kd.R_new' (Kd.R_new' (Kd.R_new' (Kd.R_new' ho0 (Kd.R_lt (kdQ HO_6))) (Kd.R_lt (kdQ HO_9))) (Kd.R_lt (kdQ HO_10))) (Kd.R_lt (kdQ HO_717001))) (below_size (beQ HB))); replace HO_6 := Aside0.mk (Kd.R_elder' (kdQ HO_6) (Kd.R_base ho0) hb); replace HO_9 := Aside0.mk (Kd.R_elder' (kdQ HO_9) (Kd.R_base ho0) hb); replace HO_10 := Aside0.mk (Kd.R_elder' (kdQ HO_10) (Kd.R_base ho0) hb); replace HO_717001 := Aside0.mk (Kd.R_elder' (kdQ HO_717001) (Kd.R_base ho0) hb); replace BK699 := bb BK699 hb; replace BK716 := bb BK716 hb; replace HB := Aside0.mk (below_step (beQ HB) hb)
        (try clear hb)
        (try clear hb2)
        (try clear hk)
        (try clear hi)
        (try clear ho0)
        obtain ⟨Ao54, co54, eo54⟩ := Kd.R_slice HO728.out
        (first | subst eo54 | (injection eo54 with f1_ f2_ f3_; have f4_ := f1_.symm; have f5_ := f3_.symm; clear f1_ f2_ f3_; subst f4_; subst f5_))
        refine hK.out _ _ ⟨bc BK716 0, bc BK716 1, bc BK699 0, bc BK699 1⟩ (fun hHeld => ?_)
        clear hK K
        refine norm_ (a' := ?_) ?_ ?_
        rotate_left
        ·show Act.put _ (some 54) _ = _
         simp only [Act.put, s1, s2, s3, i64_w, i32_w]
         rfl
        refine one_ (i := 3) (N := some 55) #[true, true, true, true, false] rfl rfl (by kernel_rfl) (by decide) (fun K hK => ?_)
        refine goes_ Tryd.func20 (by kernel_rfl) rfl #[.agg #[.int .i64 t712, .slice Ao31 t713.length co31], .agg #[.int .i64 t725, .slice Ao54 t726.length co54]] (by rfl) rfl rfl lz ?_
        with_reducible refine (laws_eqAlphabet.calls kj15 t712 _ _ t713 t725 _ _ t726 true _ ?side1 ?side2 ?side3 ?side4 A44.out).mono ?_
        (case side1 => have q_ := Aside0.mk (Kd.R_reads' HO_717001.out).2.2; exact cQ q_)
        (case side2 => exact (Kd.R_reads' HO_717001.out).2.1)
        (case side3 => have q_ := Aside0.mk (Kd.R_reads' HO728.out).2.2; exact cQ q_)
        (case side4 => exact (Kd.R_reads' HO728.out).2.1)
        rintro e w55 ⟨rfl, hb⟩
        refine ⟨_, rfl, ?_⟩
        replace HO_6 := kb HO_6 hb; replace HO_9 := kb HO_9 hb; replace HO_10 := kb HO_10 hb; replace HO_717001 := kb HO_717001 hb; replace HO728 := kb HO728 hb; replace BK699 := bb BK699 hb; replace BK716 := bb BK716 hb; replace HB := Aside0.mk (below_step (beQ HB) hb)
        (try clear hb)
        (try clear hb2)
        (try clear hk)
        (try clear hi)
        refine hK.out _ _ ⟨bc BK716 0, bc BK716 1, bc BK699 0, bc BK699 1⟩ (fun hHeld => ?_)
        clear hK K
        refine norm_ (a' := ?_) ?_ ?_
        rotate_left
        ·show Act.put _ (some 55) _ = _
         simp only [Act.put, s1, s2, s3, i64_w, i32_w]
         rfl
        refine pure_ (i := 4) (N := some 56) (v := ?_) (a' := ?_) #[true, true, true, true, true] rfl rfl (by kernel_rfl) (fun _ _ _ h => h) (Or.inl ⟨by rfl, ?_⟩) ?_ ?_
        rotate_left
        ·intro w'
         go_simp
         with_reducible rfl
        rotate_left
        ·simp only [Act.put, s1, s2, s3, i64_w, i32_w]
         rfl
        refine done_ (by kernel_rfl) ?_
        go_upto_region 20 with (first | ((with_reducible refine gate_callee (f := 18) rfl ?_); refine goesL_ (some 59) rfl rfl Tryd.func18 (by kernel_rfl) rfl #[.slice A1 l1.length c1] rfl lz ?_; (with_reducible refine (laws_toInt64S.calls kj15 _ _ l1 t730 _ ?side1 ?side2 A46.out).mono ?_); (case side1 => have q_ := Aside0.mk (Kd.C_below HR1.out HB.out); exact cQ q_); (case side2 => exact HC1.out); rintro e w56 ⟨v731, rfl, ho0, hb⟩; refine ⟨_, rfl, ?_⟩; have HO732 := Aside0.mk (Kd.R_lower (Kd.R_new' (Kd.R_new' (Kd.R_new' (Kd.R_new' (Kd.R_new' ho0 (Kd.R_lt (kdQ HO_6))) (Kd.R_lt (kdQ HO_9))) (Kd.R_lt (kdQ HO_10))) (Kd.R_lt (kdQ HO_717001))) (Kd.R_lt (kdQ HO728))) (below_size (beQ HB))); replace HO_6 := Aside0.mk (Kd.R_elder' (kdQ HO_6) (Kd.R_base ho0) hb); replace HO_9 := Aside0.mk (Kd.R_elder' (kdQ HO_9) (Kd.R_base ho0) hb); replace HO_10 := Aside0.mk (Kd.R_elder' (kdQ HO_10) (Kd.R_base ho0) hb); replace HO_717001 := Aside0.mk (Kd.R_elder' (kdQ HO_717001) (Kd.R_base ho0) hb); replace HO728 := Aside0.mk (Kd.R_elder' (kdQ HO728) (Kd.R_base ho0) hb); replace BK699 := bb BK699 hb; replace BK716 := bb BK716 hb; replace HB := Aside0.mk (below_step (beQ HB) hb); (try clear hb); (try clear hb2); (try clear hk); (try clear hi); (try clear ho0); obtain ⟨Ao57, co57, eo57⟩ := Kd.R_slice HO732.out; subst eo57) | ((with_reducible refine gate_callee (f := 21) rfl ?_); refine goesL_ (some 60) rfl rfl Tryd.func21 (by kernel_rfl) rfl #[.slice Ao34 t717.length co34, .slice Ao57 t730.length co57] rfl lz ?_; (with_reducible refine (laws_eqInt64S.calls kj15 _ _ t717 _ _ t730 true _ ?side1 ?side2 ?side3 ?side4 A47.out).mono ?_); (case side1 => have q_ := Aside0.mk (Kd.R_reads' HO_9.out).2.2; exact cQ q_); (case side2 => exact (Kd.R_reads' HO_9.out).2.1); (case side3 => have q_ := Aside0.mk (Kd.R_reads' HO732.out).2.2; exact cQ q_); (case side4 => exact (Kd.R_reads' HO732.out).2.1); rintro e w' ⟨rfl, ⟨nd, rfl⟩⟩; refine ⟨_, rfl, ?_⟩; have hnb58 := NB716_699.out; have hnc58 := NB699_716.out; have hcz59_0 : w56.cell? ⟨gb716, 0, none⟩ = some (.int .i64 t712) := bc BK716 0; have hcz59_1 : w56.cell? ⟨gb716, 1, none⟩ = some (.slice Ao31 t713.length co31) := bc BK716 1; have hfz59_0 := blk_frozen BK716.out 0; have hfz59_1 := blk_frozen BK716.out 1) | ((with_reducible refine gate_callee (f := 24) rfl ?_); refine goesL_ (some 64) rfl rfl Tryd.func24 (by kernel_rfl) rfl #[.agg #[.int .i64 t712, .slice Ao31 t713.length co31], .int .i64 1] rfl lz ?_; (with_reducible refine (laws_markAlphabet.calls kj15 t712 (fun k_ => some k_ = (.slice Ao31 t713.length co31 : Value).ownBlock) (.slice Ao31 t713.length co31) t713 1 t734 t735 w _ ?side1 ?side2 A49.out).mono ?_); (case side1 => repeat (first | (with_reducible first | exact HB.out | apply below_alloc | apply pw_below_drewN | apply below_drew1 | refine below_set ?_ GE699.out | refine below_set ?_ GE716.out) | exact HB.out)); (case side2 => exact Kd.R_tight rfl HO_717001.out); rintro e w60 ⟨rfl, hy0, hb, hkp⟩; refine ⟨_, rfl, ?_⟩; replace HO_6 := Aside0.mk (Kd.R_mono (ok' := fun k_ => some k_ ≠ (.slice Ao34 t717.length co34 : Value).ownBlock ∧ some k_ ≠ (v721 : Value).ownBlock ∧ some k_ ≠ (.slice Ao31 t713.length co31 : Value).ownBlock ∧ some k_ ≠ (.slice Ao54 t726.length co54 : Value).ownBlock ∧ some k_ ≠ (.slice Ao57 t730.length co57 : Value).ownBlock) (Kd.R_keptB (HO_6.out) hkp (fun k_ hk_ hs_ => (hk_.1.1.2.2) hs_)) (fun k_ hk_ => ⟨hk_.1.1.1.1, hk_.1.1.1.2.1, hk_.1.1.1.2.2, hk_.1.1.2, hk_.1.2⟩)); replace HO_9 := Aside0.mk (Kd.R_mono (ok' := fun k_ => some k_ ≠ (v709 : Value).ownBlock ∧ some k_ ≠ (v721 : Value).ownBlock ∧ some k_ ≠ (.slice Ao31 t713.length co31 : Value).ownBlock ∧ some k_ ≠ (.slice Ao54 t726.length co54 : Value).ownBlock ∧ some k_ ≠ (.slice Ao57 t730.length co57 : Value).ownBlock) (Kd.R_keptB (HO_9.out) hkp (fun k_ hk_ hs_ => (hk_.1.1.2.2) hs_)) (fun k_ hk_ => ⟨hk_.1.1.1.1, hk_.1.1.1.2.1, hk_.1.1.1.2.2, hk_.1.1.2, hk_.1.2⟩)); replace HO_10 := Aside0.mk (Kd.R_mono (ok' := fun k_ => some k_ ≠ (v709 : Value).ownBlock ∧ some k_ ≠ (.slice Ao34 t717.length co34 : Value).ownBlock ∧ some k_ ≠ (.slice Ao31 t713.length co31 : Value).ownBlock ∧ some k_ ≠ (.slice Ao54 t726.length co54 : Value).ownBlock ∧ some k_ ≠ (.slice Ao57 t730.length co57 : Value).ownBlock) (Kd.R_keptB (HO_10.out) hkp (fun k_ hk_ hs_ => (hk_.1.1.2.2) hs_)) (fun k_ hk_ => ⟨hk_.1.1.1.1, hk_.1.1.1.2.1, hk_.1.1.1.2.2, hk_.1.1.2, hk_.1.2⟩)); replace BK699 := Aside0.mk (blk_kept (blkQ BK699) hkp (fun hs_ => (fun e_ => (Kd.R_ne HO_717001.out BK699.out (by decide)) e_) hs_)); replace BK716 := Aside0.mk (blk_kept (blkQ BK716) hkp (fun hs_ => (fun e_ => (Kd.R_ne HO_717001.out BK716.out (by decide)) e_) hs_)); replace HO_717001 := Aside0.mk (Kd.R_reok rfl hy0 (fun k_ e_ => HO_717001.out.1 k_ e_)); replace HO728 := Aside0.mk (Kd.R_mono (ok' := fun k_ => some k_ ≠ (v709 : Value).ownBlock ∧ some k_ ≠ (.slice Ao34 t717.length co34 : Value).ownBlock ∧ some k_ ≠ (v721 : Value).ownBlock ∧ some k_ ≠ (.slice Ao31 t713.length co31 : Value).ownBlock ∧ some k_ ≠ (.slice Ao57 t730.length co57 : Value).ownBlock) (Kd.R_keptB (HO728.out) hkp (fun k_ hk_ hs_ => (hk_.1.2) hs_)) (fun k_ hk_ => ⟨hk_.1.1.1.1.1.2, hk_.1.1.1.1.2, hk_.1.1.1.2, hk_.1.1.2, hk_.1.2⟩)); replace HO732 := Aside0.mk (Kd.R_mono (ok' := fun k_ => some k_ ≠ (v709 : Value).ownBlock ∧ some k_ ≠ (.slice Ao34 t717.length co34 : Value).ownBlock ∧ some k_ ≠ (v721 : Value).ownBlock ∧ some k_ ≠ (.slice Ao31 t713.length co31 : Value).ownBlock ∧ some k_ ≠ (.slice Ao54 t726.length co54 : Value).ownBlock) (Kd.R_keptB (HO732.out) hkp (fun k_ hk_ hs_ => (hk_.1.2) hs_)) (fun k_ hk_ => ⟨hk_.1.1.1.1.1.2, hk_.1.1.1.1.2, hk_.1.1.1.2, hk_.1.1.2, hk_.1.2⟩)); replace HB := Aside0.mk (hb); (try clear hb); (try clear hkp); (try clear hy0)) | ((with_reducible refine gate_callee (f := 25) rfl ?_); refine goesL_ (some 67) rfl rfl Tryd.func25 (by kernel_rfl) rfl #[.slice Ao34 t717.length co34, .int .i64 t734] rfl lz ?_; (with_reducible refine (laws_markInt64S.calls kj15 (fun k_ => some k_ = (.slice Ao34 t717.length co34 : Value).ownBlock) (.slice Ao34 t717.length co34) t717 t734 t736 t737 w _ ?side1 ?side2 A50.out).mono ?_); (case side1 => repeat (first | (with_reducible first | exact HB.out | apply below_alloc | apply pw_below_drewN | apply below_drew1 | refine below_set ?_ GE699.out | refine below_set ?_ GE716.out) | exact HB.out)); (case side2 => exact Kd.R_tight rfl HO_9.out); rintro e w61 ⟨rfl, hy0, hb, hkp⟩; refine ⟨_, rfl, ?_⟩; replace HO_6 := Aside0.mk (Kd.R_mono (ok' := fun k_ => some k_ ≠ (.slice Ao34 t717.length co34 : Value).ownBlock ∧ some k_ ≠ (v721 : Value).ownBlock ∧ some k_ ≠ (.slice Ao31 t713.length co31 : Value).ownBlock ∧ some k_ ≠ (.slice Ao54 t726.length co54 : Value).ownBlock ∧ some k_ ≠ (.slice Ao57 t730.length co57 : Value).ownBlock) (Kd.R_keptB (HO_6.out) hkp (fun k_ hk_ hs_ => (hk_.1) hs_)) (fun k_ hk_ => ⟨hk_.1.1, hk_.1.2.1, hk_.1.2.2.1, hk_.1.2.2.2.1, hk_.1.2.2.2.2⟩)); replace HO_10 := Aside0.mk (Kd.R_mono (ok' := fun k_ => some k_ ≠ (v709 : Value).ownBlock ∧ some k_ ≠ (.slice Ao34 t717.length co34 : Value).ownBlock ∧ some k_ ≠ (.slice Ao31 t713.length co31 : Value).ownBlock ∧ some k_ ≠ (.slice Ao54 t726.length co54 : Value).ownBlock ∧ some k_ ≠ (.slice Ao57 t730.length co57 : Value).ownBlock) (Kd.R_keptB (HO_10.out) hkp (fun k_ hk_ hs_ => (hk_.2.1) hs_)) (fun k_ hk_ => ⟨hk_.1.1, hk_.1.2.1, hk_.1.2.2.1, hk_.1.2.2.2.1, hk_.1.2.2.2.2⟩)); replace HO_717001 := Aside0.mk (Kd.R_mono (ok' := fun k_ => some k_ ≠ (v709 : Value).ownBlock ∧ some k_ ≠ (.slice Ao34 t717.length co34 : Value).ownBlock ∧ some k_ ≠ (v721 : Value).ownBlock ∧ some k_ ≠ (.slice Ao54 t726.length co54 : Value).ownBlock ∧ some k_ ≠ (.slice Ao57 t730.length co57 : Value).ownBlock) (Kd.R_keptB (HO_717001.out) hkp (fun k_ hk_ hs_ => (hk_.1.1.2.1) hs_)) (fun k_ hk_ => ⟨hk_.1.1.1.1, hk_.1.1.1.2.1, hk_.1.1.1.2.2, hk_.1.1.2, hk_.1.2⟩)); replace BK699 := Aside0.mk (blk_kept (blkQ BK699) hkp (fun hs_ => (fun e_ => (Kd.R_ne HO_9.out BK699.out (by decide)) e_) hs_)); replace BK716 := Aside0.mk (blk_kept (blkQ BK716) hkp (fun hs_ => (fun e_ => (Kd.R_ne HO_9.out BK716.out (by decide)) e_) hs_)); replace HO_9 := Aside0.mk (Kd.R_reok rfl hy0 (fun k_ e_ => HO_9.out.1 k_ e_)); replace HO728 := Aside0.mk (Kd.R_mono (ok' := fun k_ => some k_ ≠ (v709 : Value).ownBlock ∧ some k_ ≠ (.slice Ao34 t717.length co34 : Value).ownBlock ∧ some k_ ≠ (v721 : Value).ownBlock ∧ some k_ ≠ (.slice Ao31 t713.length co31 : Value).ownBlock ∧ some k_ ≠ (.slice Ao57 t730.length co57 : Value).ownBlock) (Kd.R_keptB (HO728.out) hkp (fun k_ hk_ hs_ => (hk_.2.1) hs_)) (fun k_ hk_ => ⟨hk_.1.1, hk_.1.2.1, hk_.1.2.2.1, hk_.1.2.2.2.1, hk_.1.2.2.2.2⟩)); replace HO732 := Aside0.mk (Kd.R_mono (ok' := fun k_ => some k_ ≠ (v709 : Value).ownBlock ∧ some k_ ≠ (.slice Ao34 t717.length co34 : Value).ownBlock ∧ some k_ ≠ (v721 : Value).ownBlock ∧ some k_ ≠ (.slice Ao31 t713.length co31 : Value).ownBlock ∧ some k_ ≠ (.slice Ao54 t726.length co54 : Value).ownBlock) (Kd.R_keptB (HO732.out) hkp (fun k_ hk_ hs_ => (hk_.2.1) hs_)) (fun k_ hk_ => ⟨hk_.1.1, hk_.1.2.1, hk_.1.2.2.1, hk_.1.2.2.2.1, hk_.1.2.2.2.2⟩)); replace HB := Aside0.mk (hb); (try clear hb); (try clear hkp); (try clear hy0)))
        (try simp only [Act.put, List.setIfInBounds_toArray, List.set_cons_zero, List.set_cons_succ])
        go_cut [80] (fun v80 wc => ∃ (kq : Nat) (x80_50 : Bool), v80 = .bool x80_50 ∧ Aside0 (laws_FnExactNormalForm.j1 kq l1 t708 t711 t720 x80_50 a0_0 l0_1 = some r) ∧ Aside0 (kq ≤ kj15) ∧ Aside0 (Kd.R (Kd.int .i64) 2 wc w.heap.size (fun k_ => some k_ ≠ (v721 : Value).ownBlock ∧ some k_ ≠ ((.slice Ao31 t713.length co31) : Value).ownBlock) v709 t708) ∧ Aside0 (Kd.R (Kd.int .i64) 2 wc w.heap.size (fun k_ => some k_ ≠ (v709 : Value).ownBlock ∧ some k_ ≠ ((.slice Ao31 t713.length co31) : Value).ownBlock) v721 t720) ∧ Aside0 (Kd.R (Kd.int .i64) 2 wc w.heap.size (fun k_ => some k_ ≠ (v709 : Value).ownBlock ∧ some k_ ≠ (v721 : Value).ownBlock) (.slice Ao31 t713.length co31) t735) ∧ Aside0 (wc.heap[gb699]? = some (.cells #[.int .i64 a0_0, (.slice A0_1 l0_1.length c0_1)] 24 (0, 0))) ∧ Aside0 (wc.heap[gb716]? = some (.cells #[.int .i64 t712, (.slice Ao31 t713.length co31)] 28 (0, 0))) ∧ Aside0 (Below w.heap.size w wc))
        case first =>
         have H := HC51.out; clear HC51
         by_cases c62 : t736 < 0
         ·rw [if_pos c62] at H
          have c62b0 : decide (t736 < 0) = true := decide_eq_true c62
          clear c62
          (first | rw [c62b0] | (simp only [i64_w, i32_w]; rw [c62b0]) | skip)
          have H' := Aside0.mk H
          clear H
          go_wp2
          go_meet
          case rel => exact ⟨_, (true), sz, H', ⟨by have := HJ15.out; first | omega | exact Nat.le_refl _⟩, ⟨by (with_reducible repeat (first | apply Kd.R_alloc | apply Kd.R_drewN | apply Kd.R_drew)); exact Kd.R_mono HO_6.out (fun _ hk => ⟨hk.2.1, hk.2.2.1⟩)⟩, ⟨by (with_reducible repeat (first | apply Kd.R_alloc | apply Kd.R_drewN | apply Kd.R_drew)); exact Kd.R_mono HO_10.out (fun _ hk => ⟨hk.1, hk.2.2.1⟩)⟩, ⟨by (with_reducible repeat (first | apply Kd.R_alloc | apply Kd.R_drewN | apply Kd.R_drew)); exact Kd.R_mono HO_717001.out (fun _ hk => ⟨hk.1, hk.2.2.1⟩)⟩, ⟨blkQ BK699⟩, ⟨blkQ BK716⟩, ⟨beQ HB⟩⟩
         ·rw [if_neg c62] at H
          have c62b0 : decide (t736 < 0) = false := decide_eq_false c62
          clear c62
          (first | rw [c62b0] | (simp only [i64_w, i32_w]; rw [c62b0]) | skip)
          replace H := Option.bind_eq_some_iff.mp H; obtain ⟨t738, A630, H⟩ := H
          replace H : (if t738 = true then (laws_FnExactNormalForm.j1 kj15 l1 t708 t711 t720 (t723 != t711) a0_0 l0_1) else (laws_FnExactNormalForm.j1 kj15 l1 t708 t711 t720 true a0_0 l0_1)) = some r := H
          have A63 := Aside0.mk A630; clear A630
          by_cases c64 : t738 = true
          ·subst c64
           have H1 : (laws_FnExactNormalForm.j1 kj15 l1 t708 t711 t720 (t723 != t711) a0_0 l0_1) = some r := by rw [if_pos rfl] at H; exact H
           clear H; have H := H1; clear H1
           have H' := Aside0.mk H
           clear H; obtain ⟨Ao65, co65, eo65⟩ := Kd.R_slice HO_10.out; subst eo65; obtain ⟨Ao66, co66, eo66⟩ := Kd.R_slice HO_6.out; subst eo66
           go_wp2_with (first | (go_at_call 21; (with_reducible refine (laws_eqInt64S.calls kj15 _ _ t720 _ _ t708 true _ ?side1 ?side2 ?side3 ?side4 A63.out).mono ?_); (case side1 => have q_ := Aside0.mk (Kd.R_reads' HO_10.out).2.2; exact cQ q_); (case side2 => exact (Kd.R_reads' HO_10.out).2.1); (case side3 => have q_ := Aside0.mk (Kd.R_reads' HO_6.out).2.2; exact cQ q_); (case side4 => exact (Kd.R_reads' HO_6.out).2.1); rintro e w' ⟨rfl, ⟨nd, rfl⟩⟩))
           go_meet
           case rel => exact ⟨_, ((t723 != t711)), sz, H', ⟨by have := HJ15.out; first | omega | exact Nat.le_refl _⟩, ⟨by (with_reducible repeat (first | apply Kd.R_alloc | apply Kd.R_drewN | apply Kd.R_drew)); exact Kd.R_mono HO_6.out (fun _ hk => ⟨hk.2.1, hk.2.2.1⟩)⟩, ⟨by (with_reducible repeat (first | apply Kd.R_alloc | apply Kd.R_drewN | apply Kd.R_drew)); exact Kd.R_mono HO_10.out (fun _ hk => ⟨hk.1, hk.2.2.1⟩)⟩, ⟨by (with_reducible repeat (first | apply Kd.R_alloc | apply Kd.R_drewN | apply Kd.R_drew)); exact Kd.R_mono HO_717001.out (fun _ hk => ⟨hk.1, hk.2.2.1⟩)⟩, ⟨blkQ BK699⟩, ⟨blkQ BK716⟩, ⟨beQ HB⟩⟩
          ·replace c64 := Bool.eq_false_iff.mpr c64
           subst c64
           have H1 : (laws_FnExactNormalForm.j1 kj15 l1 t708 t711 t720 true a0_0 l0_1) = some r := by rw [if_neg (show ¬ (false = true) by decide)] at H; exact H
           clear H; have H := H1; clear H1
           have H' := Aside0.mk H
           clear H; obtain ⟨Ao67, co67, eo67⟩ := Kd.R_slice HO_10.out; subst eo67; obtain ⟨Ao68, co68, eo68⟩ := Kd.R_slice HO_6.out; subst eo68
           go_wp2_with (first | (go_at_call 21; (with_reducible refine (laws_eqInt64S.calls kj15 _ _ t720 _ _ t708 false _ ?side1 ?side2 ?side3 ?side4 A63.out).mono ?_); (case side1 => have q_ := Aside0.mk (Kd.R_reads' HO_10.out).2.2; exact cQ q_); (case side2 => exact (Kd.R_reads' HO_10.out).2.1); (case side3 => have q_ := Aside0.mk (Kd.R_reads' HO_6.out).2.2; exact cQ q_); (case side4 => exact (Kd.R_reads' HO_6.out).2.1); rintro e w' ⟨rfl, ⟨nd, rfl⟩⟩))
           go_meet
           case rel => exact ⟨_, (true), sz, H', ⟨by have := HJ15.out; first | omega | exact Nat.le_refl _⟩, ⟨by (with_reducible repeat (first | apply Kd.R_alloc | apply Kd.R_drewN | apply Kd.R_drew)); exact Kd.R_mono HO_6.out (fun _ hk => ⟨hk.2.1, hk.2.2.1⟩)⟩, ⟨by (with_reducible repeat (first | apply Kd.R_alloc | apply Kd.R_drewN | apply Kd.R_drew)); exact Kd.R_mono HO_10.out (fun _ hk => ⟨hk.1, hk.2.2.1⟩)⟩, ⟨by (with_reducible repeat (first | apply Kd.R_alloc | apply Kd.R_drewN | apply Kd.R_drew)); exact Kd.R_mono HO_717001.out (fun _ hk => ⟨hk.1, hk.2.2.1⟩)⟩, ⟨blkQ BK699⟩, ⟨blkQ BK716⟩, ⟨beQ HB⟩⟩
        case rest =>
         clear HC51
         try clear c1
         try clear c2
         try clear p2
         try clear c3
         try clear c3b0
         try clear c3b1
         try clear c4
         try clear c5
         try clear c6
         try clear c6b0
         try clear c8
         try clear c15
         try clear c17
         try clear c18
         try clear c20
         try clear c21
         try clear c24
         try clear c25
         try clear c29
         try clear c36
         try clear c37
         try clear c42
         try clear c45
         try clear c48
         try clear c58
         try clear c62
         try clear c62b0
         try clear c64
         try clear hcz18_0
         try clear hcz18_1
         try clear hcz20_0
         try clear hcz20_1
         try clear hcz26_0
         try clear hcz26_1
         try clear hcz30_0
         try clear hcz30_1
         try clear hcz33_0
         try clear hcz33_1
         try clear hcz59_0
         try clear hcz59_1
         try clear hcz8_0
         try clear hcz8_1
         try clear hfz18_0
         try clear hfz18_1
         try clear hfz20_0
         try clear hfz20_1
         try clear hfz26_0
         try clear hfz26_1
         try clear hfz30_0
         try clear hfz30_1
         try clear hfz33_0
         try clear hfz33_1
         try clear hfz59_0
         try clear hfz59_1
         try clear hfz8_0
         try clear hfz8_1
         try clear p2
         obtain ⟨kq, x80_50, rfl, HA, HJ50, HO_6, HO_10, HO_717001, BK699, BK716, HB⟩ := hcut; have hl717001_50 := (Kd.R_reads' HO_717001.out).1; rw [hl717001_50] at HO_717001
         (try simp only [hl717001_50])
         (try simp only [hl717001_50] at BK699)
         (try simp only [hl717001_50] at BK716)
         (try simp only [hl717001_50] at HO_6)
         (try simp only [hl717001_50] at HO_10)
         cases kq with
         | zero => exact absurd HA.out (by simp [laws_FnExactNormalForm.j1])
         | succ kj50 =>
          have H := HA.out; clear HA
          simp only [laws_FnExactNormalForm.j1] at H
          by_cases c69 : x80_50 = true
          ·subst c69
           have H1 : (some false) = some r := by rw [if_pos rfl] at H; exact H
           clear H; have H := H1; clear H1
           obtain rfl := Option.some.inj H
           go_wp2
           go_ret
           exact ⟨rz, beQ HB⟩
          ·replace c69 := Bool.eq_false_iff.mpr c69
           subst c69
           have H1 : ((laws_markInt64S.f kj50 t720 1).bind fun bt739 => ((laws_heldInt64S.f kj50 bt739.2 1).bind fun t741 => (if t741 < 0 then (some false) else (if t741 = bt739.1 then ((laws_toAlphabet.f kj50 a0_0 l0_1).bind fun bt742 => ((laws_toInt64S.f kj50 l1).bind fun t746 => ((impl_NormalForm.f kj50 bt742.1 bt742.2 t746).bind fun bt749 => ((laws_eqInt64S.f kj50 bt749.1 t708).bind fun t753 => (if t753 = true then (laws_FnExactNormalForm.j2 kj50 bt739.2 bt739.1 (bt749.2 != t711)) else (laws_FnExactNormalForm.j2 kj50 bt739.2 bt739.1 true)))))) else (some false))))) = some r := by rw [if_neg (show ¬ (false = true) by decide)] at H; exact H
           clear H; have H := H1; clear H1; replace H := Option.bind_eq_some_iff.mp H
           obtain ⟨⟨t739, t740⟩, A700, H⟩ := H
           replace H : ((laws_heldInt64S.f kj50 t740 1).bind fun t741 => (if t741 < 0 then (some false) else (if t741 = t739 then ((laws_toAlphabet.f kj50 a0_0 l0_1).bind fun bt742 => ((laws_toInt64S.f kj50 l1).bind fun t746 => ((impl_NormalForm.f kj50 bt742.1 bt742.2 t746).bind fun bt749 => ((laws_eqInt64S.f kj50 bt749.1 t708).bind fun t753 => (if t753 = true then (laws_FnExactNormalForm.j2 kj50 t740 t739 (bt749.2 != t711)) else (laws_FnExactNormalForm.j2 kj50 t740 t739 true)))))) else (some false)))) = some r := H
           have A70 := Aside0.mk A700; clear A700; replace H := Option.bind_eq_some_iff.mp H; obtain ⟨t741, A710, H⟩ := H
           replace H : (if t741 < 0 then (some false) else (if t741 = t739 then ((laws_toAlphabet.f kj50 a0_0 l0_1).bind fun bt742 => ((laws_toInt64S.f kj50 l1).bind fun t746 => ((impl_NormalForm.f kj50 bt742.1 bt742.2 t746).bind fun bt749 => ((laws_eqInt64S.f kj50 bt749.1 t708).bind fun t753 => (if t753 = true then (laws_FnExactNormalForm.j2 kj50 t740 t739 (bt749.2 != t711)) else (laws_FnExactNormalForm.j2 kj50 t740 t739 true)))))) else (some false))) = some r := H
           have A71 := Aside0.mk A710; clear A710
           by_cases c72 : t741 < 0
           ·rw [if_pos c72] at H
            have c72b0 : decide (t741 < 0) = true := decide_eq_true c72
            clear c72
            obtain rfl := Option.some.inj H
            obtain ⟨Ao73, co73, eo73⟩ := Kd.R_slice HO_10.out; subst eo73
            go_wp2_with (first | ((with_reducible refine gate_callee (f := 25) rfl ?_); refine goesL_ (some 83) rfl rfl Tryd.func25 (by kernel_rfl) rfl #[.slice Ao73 t720.length co73, .int .i64 1] rfl lz ?_; (with_reducible refine (laws_markInt64S.calls kj50 (fun k_ => some k_ = (.slice Ao73 t720.length co73 : Value).ownBlock) (.slice Ao73 t720.length co73) t720 1 t739 t740 w _ ?side1 ?side2 A70.out).mono ?_); (case side1 => repeat (first | (with_reducible first | exact HB.out | apply below_alloc | apply pw_below_drewN | apply below_drew1 | refine below_set ?_ GE699.out | refine below_set ?_ GE716.out) | exact HB.out)); (case side2 => exact Kd.R_tight rfl HO_10.out); rintro e w74 ⟨rfl, hy0, hb, hkp⟩; refine ⟨_, rfl, ?_⟩; replace HO_6 := Aside0.mk (Kd.R_mono (ok' := fun k_ => some k_ ≠ (.slice Ao73 t720.length co73 : Value).ownBlock ∧ some k_ ≠ (.slice Ao31 t735.length co31 : Value).ownBlock) (Kd.R_keptB (HO_6.out) hkp (fun k_ hk_ hs_ => (hk_.1) hs_)) (fun k_ hk_ => ⟨hk_.1.1, hk_.1.2⟩)); replace HO_717001 := Aside0.mk (Kd.R_mono (ok' := fun k_ => some k_ ≠ (v709 : Value).ownBlock ∧ some k_ ≠ (.slice Ao73 t720.length co73 : Value).ownBlock) (Kd.R_keptB (HO_717001.out) hkp (fun k_ hk_ hs_ => (hk_.2) hs_)) (fun k_ hk_ => ⟨hk_.1.1, hk_.1.2⟩)); replace BK699 := Aside0.mk (blk_kept (blkQ BK699) hkp (fun hs_ => (fun e_ => (Kd.R_ne HO_10.out BK699.out (by decide)) e_) hs_)); replace BK716 := Aside0.mk (blk_kept (blkQ BK716) hkp (fun hs_ => (fun e_ => (Kd.R_ne HO_10.out BK716.out (by decide)) e_) hs_)); replace HO_10 := Aside0.mk (Kd.R_reok rfl hy0 (fun k_ e_ => HO_10.out.1 k_ e_)); replace HB := Aside0.mk (hb); (try clear hb); (try clear hkp); (try clear hy0)) | ((with_reducible refine gate_callee (f := 26) rfl ?_); refine goesL_ (some 86) rfl rfl Tryd.func26 (by kernel_rfl) rfl #[.slice Ao73 t740.length co73, .int .i64 1] rfl (by (try simp only [List.map_toArray, List.map_cons, List.map_nil]); first | done | (rw [show t740.length = t720.length from (Kd.R_reads' HO_10.out).1.symm] <;> rfl) | rfl | (simp only [List.length_drop, List.length_take]; rfl)) ?_; (with_reducible refine (laws_heldInt64S.calls kj50 _ _ t740 1 t741 _ ?side1 ?side2 A71.out).mono ?_); (case side1 => have q_ := Aside0.mk (Kd.R_reads' HO_10.out).2.2; exact cQ q_); (case side2 => rw [show t740.length = t720.length from (Kd.R_reads' HO_10.out).1.symm]; exact (Kd.R_reads' HO_10.out).2.1); rintro e w' ⟨rfl, ⟨nd, rfl⟩⟩; refine ⟨_, rfl, ?_⟩))
            go_ret
            exact ⟨rz, beQ HB⟩
           ·rw [if_neg c72] at H
            have c72b0 : decide (t741 < 0) = false := decide_eq_false c72
            clear c72
            by_cases c75 : t741 = t739
            ·rw [if_pos c75] at H
             have c75b0 : (t741 == t739) = true := beq_iff_eq.mpr c75
             have c75b1 : (t741 != t739) = false := bne_eq_false_iff_eq.mpr c75
             clear c75; replace H := Option.bind_eq_some_iff.mp H
             obtain ⟨⟨t742, t743⟩, A760, H⟩ := H
             replace H : ((laws_toInt64S.f kj50 l1).bind fun t746 => ((impl_NormalForm.f kj50 t742 t743 t746).bind fun bt749 => ((laws_eqInt64S.f kj50 bt749.1 t708).bind fun t753 => (if t753 = true then (laws_FnExactNormalForm.j2 kj50 t740 t739 (bt749.2 != t711)) else (laws_FnExactNormalForm.j2 kj50 t740 t739 true))))) = some r := H
             have A76 := Aside0.mk A760; clear A760; replace H := Option.bind_eq_some_iff.mp H; obtain ⟨t746, A770, H⟩ := H
             replace H : ((impl_NormalForm.f kj50 t742 t743 t746).bind fun bt749 => ((laws_eqInt64S.f kj50 bt749.1 t708).bind fun t753 => (if t753 = true then (laws_FnExactNormalForm.j2 kj50 t740 t739 (bt749.2 != t711)) else (laws_FnExactNormalForm.j2 kj50 t740 t739 true)))) = some r := H
             have A77 := Aside0.mk A770; clear A770; replace H := Option.bind_eq_some_iff.mp H
             obtain ⟨⟨t749, t752⟩, A780, H⟩ := H
             replace H : ((laws_eqInt64S.f kj50 t749 t708).bind fun t753 => (if t753 = true then (laws_FnExactNormalForm.j2 kj50 t740 t739 (t752 != t711)) else (laws_FnExactNormalForm.j2 kj50 t740 t739 true))) = some r := H
             have A78 := Aside0.mk A780; clear A780; have HC79 := Aside0.mk H; clear H; obtain ⟨Ao80, co80, eo80⟩ := Kd.R_slice HO_10.out; subst eo80
             go_upto_region 31 with (first | ((with_reducible refine gate_callee (f := 25) rfl ?_); refine goesL_ (some 83) rfl rfl Tryd.func25 (by kernel_rfl) rfl #[.slice Ao80 t720.length co80, .int .i64 1] rfl lz ?_; (with_reducible refine (laws_markInt64S.calls kj50 (fun k_ => some k_ = (.slice Ao80 t720.length co80 : Value).ownBlock) (.slice Ao80 t720.length co80) t720 1 t739 t740 w _ ?side1 ?side2 A70.out).mono ?_); (case side1 => repeat (first | (with_reducible first | exact HB.out | apply below_alloc | apply pw_below_drewN | apply below_drew1 | refine below_set ?_ GE699.out | refine below_set ?_ GE716.out) | exact HB.out)); (case side2 => exact Kd.R_tight rfl HO_10.out); rintro e w81 ⟨rfl, hy0, hb, hkp⟩; refine ⟨_, rfl, ?_⟩; replace HO_6 := Aside0.mk (Kd.R_mono (ok' := fun k_ => some k_ ≠ (.slice Ao80 t720.length co80 : Value).ownBlock ∧ some k_ ≠ (.slice Ao31 t735.length co31 : Value).ownBlock) (Kd.R_keptB (HO_6.out) hkp (fun k_ hk_ hs_ => (hk_.1) hs_)) (fun k_ hk_ => ⟨hk_.1.1, hk_.1.2⟩)); replace HO_717001 := Aside0.mk (Kd.R_mono (ok' := fun k_ => some k_ ≠ (v709 : Value).ownBlock ∧ some k_ ≠ (.slice Ao80 t720.length co80 : Value).ownBlock) (Kd.R_keptB (HO_717001.out) hkp (fun k_ hk_ hs_ => (hk_.2) hs_)) (fun k_ hk_ => ⟨hk_.1.1, hk_.1.2⟩)); replace BK699 := Aside0.mk (blk_kept (blkQ BK699) hkp (fun hs_ => (fun e_ => (Kd.R_ne HO_10.out BK699.out (by decide)) e_) hs_)); replace BK716 := Aside0.mk (blk_kept (blkQ BK716) hkp (fun hs_ => (fun e_ => (Kd.R_ne HO_10.out BK716.out (by decide)) e_) hs_)); replace HO_10 := Aside0.mk (Kd.R_reok rfl hy0 (fun k_ e_ => HO_10.out.1 k_ e_)); replace HB := Aside0.mk (hb); (try clear hb); (try clear hkp); (try clear hy0)) | ((with_reducible refine gate_callee (f := 26) rfl ?_); refine goesL_ (some 86) rfl rfl Tryd.func26 (by kernel_rfl) rfl #[.slice Ao80 t740.length co80, .int .i64 1] rfl (by (try simp only [List.map_toArray, List.map_cons, List.map_nil]); first | done | (rw [show t740.length = t720.length from (Kd.R_reads' HO_10.out).1.symm] <;> rfl) | rfl | (simp only [List.length_drop, List.length_take]; rfl)) ?_; (with_reducible refine (laws_heldInt64S.calls kj50 _ _ t740 1 t741 _ ?side1 ?side2 A71.out).mono ?_); (case side1 => have q_ := Aside0.mk (Kd.R_reads' HO_10.out).2.2; exact cQ q_); (case side2 => rw [show t740.length = t720.length from (Kd.R_reads' HO_10.out).1.symm]; exact (Kd.R_reads' HO_10.out).2.1); rintro e w' ⟨rfl, ⟨nd, rfl⟩⟩; refine ⟨_, rfl, ?_⟩; have hnb82 := NB699_716.out; have hnc82 := NB716_699.out; have hcz83_0 : w81.cell? ⟨gb699, 0, none⟩ = some (.int .i64 a0_0) := bc BK699 0; have hcz83_1 : w81.cell? ⟨gb699, 1, none⟩ = some (.slice A0_1 l0_1.length c0_1) := bc BK699 1; have hfz83_0 := blk_frozen BK699.out 0; have hfz83_1 := blk_frozen BK699.out 1) | ((with_reducible refine gate_callee (f := 17) rfl ?_); refine goesL_ (some 94) rfl rfl Tryd.func17 (by kernel_rfl) rfl #[.agg #[.int .i64 a0_0, .slice A0_1 l0_1.length c0_1]] rfl lz ?_; (with_reducible refine (laws_toAlphabet.calls kj50 a0_0 _ _ l0_1 t742 t743 _ ?side1 ?side2 A76.out).mono ?_); (case side1 => have q_ := Aside0.mk (Kd.C_below HR0_1.out (beQ HB)); exact cQ q_); (case side2 => exact HC0_1.out); rintro e w84 ⟨v744, rfl, ho0, hb⟩; refine ⟨_, rfl, ?_⟩; have HO745 := Aside0.mk (Kd.R_lower (Kd.R_new' (Kd.R_new' (Kd.R_new' ho0 (Kd.R_lt (kdQ HO_6))) (Kd.R_lt (kdQ HO_10))) (Kd.R_lt (kdQ HO_717001))) (below_size (beQ HB))); replace HO_6 := Aside0.mk (Kd.R_elder' (kdQ HO_6) (Kd.R_base ho0) hb); replace HO_10 := Aside0.mk (Kd.R_elder' (kdQ HO_10) (Kd.R_base ho0) hb); replace HO_717001 := Aside0.mk (Kd.R_elder' (kdQ HO_717001) (Kd.R_base ho0) hb); replace BK699 := bb BK699 hb; replace BK716 := bb BK716 hb; replace HB := Aside0.mk (below_step (beQ HB) hb); (try clear hb); (try clear hb2); (try clear hk); (try clear hi); (try clear ho0)) | ((with_reducible refine gate_callee (f := 18) rfl ?_); refine goesL_ (some 96) rfl rfl Tryd.func18 (by kernel_rfl) rfl #[.slice A1 l1.length c1] rfl lz ?_; (with_reducible refine (laws_toInt64S.calls kj50 _ _ l1 t746 _ ?side1 ?side2 A77.out).mono ?_); (case side1 => have q_ := Aside0.mk (Kd.C_below HR1.out HB.out); exact cQ q_); (case side2 => exact HC1.out); rintro e w85 ⟨v747, rfl, ho0, hb⟩; refine ⟨_, rfl, ?_⟩; have HO748 := Aside0.mk (Kd.R_lower (Kd.R_new' (Kd.R_new' (Kd.R_new' (Kd.R_new' ho0 (Kd.R_lt (kdQ HO_6))) (Kd.R_lt (kdQ HO_10))) (Kd.R_lt (kdQ HO_717001))) (Kd.R_lt (kdQ HO745))) (below_size (beQ HB))); replace HO_6 := Aside0.mk (Kd.R_elder' (kdQ HO_6) (Kd.R_base ho0) hb); replace HO_10 := Aside0.mk (Kd.R_elder' (kdQ HO_10) (Kd.R_base ho0) hb); replace HO_717001 := Aside0.mk (Kd.R_elder' (kdQ HO_717001) (Kd.R_base ho0) hb); replace HO745 := Aside0.mk (Kd.R_elder' (kdQ HO745) (Kd.R_base ho0) hb); replace BK699 := bb BK699 hb; replace BK716 := bb BK716 hb; replace HB := Aside0.mk (below_step (beQ HB) hb); (try clear hb); (try clear hb2); (try clear hk); (try clear hi); (try clear ho0); obtain ⟨Ao86, co86, eo86⟩ := Kd.R_slice HO745.out; subst eo86; obtain ⟨Ao87, co87, eo87⟩ := Kd.R_slice HO748.out; subst eo87) | ((with_reducible refine gate_callee (f := 37) rfl ?_); refine goesL_ (some 97) rfl rfl Tryd.func37 (by kernel_rfl) rfl #[.agg #[.int .i64 t742, .slice Ao86 t743.length co86], .slice Ao87 t746.length co87] rfl lz ?_; (with_reducible refine (impl_NormalForm.calls kj50 t742 _ _ t743 (fun k_ => some k_ = (.slice Ao87 t746.length co87 : Value).ownBlock) _ _ t746 t749 t752 _ ?side1 ?side2 ?side3 ?side4 A78.out).mono ?_); (case side1 => have q_ := Aside0.mk (Kd.R_reads' HO745.out).2.2; exact cQ q_); (case side2 => exact (Kd.R_reads' HO745.out).2.1); (case side3 => exact Kd.R_V (Kd.R_tight rfl (Kd.R_types (Kd.R_types (HO748.out) BK699.out (by decide)) BK716.out (by decide)))); (case side4 => exact TabW.below HT.out (beQ HB)); rintro e w88 ⟨v750, rfl, ho0, hb⟩; refine ⟨_, rfl, ?_⟩; have HO751 := Aside0.mk (Kd.R_lower (Kd.R_new' (Kd.R_new' (Kd.R_new' (Kd.R_new' (Kd.R_new' (Kd.R_mono (ok' := fun k_ => True) ho0 (fun _ hk_ => trivial)) (Kd.R_lt (kdQ HO_6))) (Kd.R_lt (kdQ HO_10))) (Kd.R_lt (kdQ HO_717001))) (Kd.R_lt (kdQ HO745))) (Kd.R_lt (kdQ HO748))) (below_size (beQ HB))); replace HO_6 := Aside0.mk (Kd.R_elder' (kdQ HO_6) (Kd.R_base ho0) hb); replace HO_10 := Aside0.mk (Kd.R_elder' (kdQ HO_10) (Kd.R_base ho0) hb); replace HO_717001 := Aside0.mk (Kd.R_elder' (kdQ HO_717001) (Kd.R_base ho0) hb); replace HO745 := Aside0.mk (Kd.R_elder' (kdQ HO745) (Kd.R_base ho0) hb); replace HO748 := Aside0.mk (Kd.R_elder' (kdQ HO748) (Kd.R_base ho0) hb); replace BK699 := bb BK699 hb; replace BK716 := bb BK716 hb; replace HB := Aside0.mk (below_step (beQ HB) hb); (try clear hb); (try clear hb2); (try clear hk); (try clear hi); (try clear ho0)))
             (try simp only [Act.put, List.setIfInBounds_toArray, List.set_cons_zero, List.set_cons_succ])
             go_cut [108] (fun v108 wc => ∃ (kq : Nat) (x108_78 : Bool), v108 = .bool x108_78 ∧ Aside0 (laws_FnExactNormalForm.j2 kq t740 t739 x108_78 = some r) ∧ Aside0 (kq ≤ kj50) ∧ Aside0 (Kd.R (Kd.int .i64) 2 wc w.heap.size (fun k_ => some k_ ≠ ((.slice Ao31 t735.length co31) : Value).ownBlock) (.slice Ao80 t720.length co80) t740) ∧ Aside0 (Kd.R (Kd.int .i64) 2 wc w.heap.size (fun k_ => some k_ ≠ ((.slice Ao80 t720.length co80) : Value).ownBlock) (.slice Ao31 t735.length co31) t735) ∧ Aside0 (wc.heap[gb699]? = some (.cells #[.int .i64 a0_0, (.slice A0_1 l0_1.length c0_1)] 24 (0, 0))) ∧ Aside0 (wc.heap[gb716]? = some (.cells #[.int .i64 t712, (.slice Ao31 t735.length co31)] 28 (0, 0))) ∧ Aside0 (Below w.heap.size w wc))
             case first =>
              have H := HC79.out; clear HC79; replace H := Option.bind_eq_some_iff.mp H; obtain ⟨t753, A890, H⟩ := H
              replace H : (if t753 = true then (laws_FnExactNormalForm.j2 kj50 t740 t739 (t752 != t711)) else (laws_FnExactNormalForm.j2 kj50 t740 t739 true)) = some r := H
              have A89 := Aside0.mk A890; clear A890
              by_cases c90 : t753 = true
              ·subst c90
               have H1 : (laws_FnExactNormalForm.j2 kj50 t740 t739 (t752 != t711)) = some r := by rw [if_pos rfl] at H; exact H
               clear H; have H := H1; clear H1
               have H' := Aside0.mk H
               clear H; obtain ⟨Ao91, co91, eo91⟩ := Kd.R_slice HO751.out; subst eo91; obtain ⟨Ao92, co92, eo92⟩ := Kd.R_slice HO_6.out; subst eo92
               go_wp2_with (first | ((with_reducible refine gate_callee (f := 21) rfl ?_); refine goesL_ (some 102) rfl rfl Tryd.func21 (by kernel_rfl) rfl #[.slice Ao91 t749.length co91, .slice Ao92 t708.length co92] rfl lz ?_; (with_reducible refine (laws_eqInt64S.calls kj50 _ _ t749 _ _ t708 true _ ?side1 ?side2 ?side3 ?side4 A89.out).mono ?_); (case side1 => have q_ := Aside0.mk (Kd.R_reads' HO751.out).2.2; exact cQ q_); (case side2 => exact (Kd.R_reads' HO751.out).2.1); (case side3 => have q_ := Aside0.mk (Kd.R_reads' HO_6.out).2.2; exact cQ q_); (case side4 => exact (Kd.R_reads' HO_6.out).2.1); rintro e w' ⟨rfl, ⟨nd, rfl⟩⟩; refine ⟨_, rfl, ?_⟩))
               go_meet
               case rel => exact ⟨_, ((t752 != t711)), sz, H', ⟨by have := HJ15.out; have := HJ50.out; first | omega | exact Nat.le_refl _⟩, ⟨by (try simp only [hl717001_50]); (with_reducible repeat (first | apply Kd.R_alloc | apply Kd.R_drewN | apply Kd.R_drew)); exact Kd.R_mono HO_10.out (fun _ hk => hk.1.1.1.2)⟩, ⟨by (try simp only [hl717001_50]); (with_reducible repeat (first | apply Kd.R_alloc | apply Kd.R_drewN | apply Kd.R_drew)); exact Kd.R_mono HO_717001.out (fun _ hk => hk.1.1.1.2)⟩, ⟨by (try simp only [hl717001_50]); (with_reducible repeat (first | refine blk_drewN ?_ _ | refine blk_drew ?_ | refine blk_alloc ?_ _)); exact BK699.out⟩, ⟨by (try simp only [hl717001_50]); (with_reducible repeat (first | refine blk_drewN ?_ _ | refine blk_drew ?_ | refine blk_alloc ?_ _)); exact BK716.out⟩, ⟨beQ HB⟩⟩
              ·replace c90 := Bool.eq_false_iff.mpr c90
               subst c90
               have H1 : (laws_FnExactNormalForm.j2 kj50 t740 t739 true) = some r := by rw [if_neg (show ¬ (false = true) by decide)] at H; exact H
               clear H; have H := H1; clear H1
               have H' := Aside0.mk H
               clear H; obtain ⟨Ao93, co93, eo93⟩ := Kd.R_slice HO751.out; subst eo93; obtain ⟨Ao94, co94, eo94⟩ := Kd.R_slice HO_6.out; subst eo94
               go_wp2_with (first | ((with_reducible refine gate_callee (f := 21) rfl ?_); refine goesL_ (some 102) rfl rfl Tryd.func21 (by kernel_rfl) rfl #[.slice Ao93 t749.length co93, .slice Ao94 t708.length co94] rfl lz ?_; (with_reducible refine (laws_eqInt64S.calls kj50 _ _ t749 _ _ t708 false _ ?side1 ?side2 ?side3 ?side4 A89.out).mono ?_); (case side1 => have q_ := Aside0.mk (Kd.R_reads' HO751.out).2.2; exact cQ q_); (case side2 => exact (Kd.R_reads' HO751.out).2.1); (case side3 => have q_ := Aside0.mk (Kd.R_reads' HO_6.out).2.2; exact cQ q_); (case side4 => exact (Kd.R_reads' HO_6.out).2.1); rintro e w' ⟨rfl, ⟨nd, rfl⟩⟩; refine ⟨_, rfl, ?_⟩))
               go_meet
               case rel => exact ⟨_, (true), sz, H', ⟨by have := HJ15.out; have := HJ50.out; first | omega | exact Nat.le_refl _⟩, ⟨by (try simp only [hl717001_50]); (with_reducible repeat (first | apply Kd.R_alloc | apply Kd.R_drewN | apply Kd.R_drew)); exact Kd.R_mono HO_10.out (fun _ hk => hk.1.1.1.2)⟩, ⟨by (try simp only [hl717001_50]); (with_reducible repeat (first | apply Kd.R_alloc | apply Kd.R_drewN | apply Kd.R_drew)); exact Kd.R_mono HO_717001.out (fun _ hk => hk.1.1.1.2)⟩, ⟨by (try simp only [hl717001_50]); (with_reducible repeat (first | refine blk_drewN ?_ _ | refine blk_drew ?_ | refine blk_alloc ?_ _)); exact BK699.out⟩, ⟨by (try simp only [hl717001_50]); (with_reducible repeat (first | refine blk_drewN ?_ _ | refine blk_drew ?_ | refine blk_alloc ?_ _)); exact BK716.out⟩, ⟨beQ HB⟩⟩
             case rest =>
              clear HC79
              try clear c1
              try clear c2
              try clear p2
              try clear c3
              try clear c3b0
              try clear c3b1
              try clear c4
              try clear c5
              try clear c6
              try clear c6b0
              try clear c7
              try clear c8
              try clear c9
              try clear c15
              try clear c17
              try clear c18
              try clear c20
              try clear c21
              try clear c24
              try clear c25
              try clear c26
              try clear c29
              try clear c36
              try clear c37
              try clear c42
              try clear c45
              try clear c48
              try clear c58
              try clear c62
              try clear c62b0
              try clear c64
              try clear c69
              try clear c72
              try clear c72b0
              try clear c75
              try clear c75b0
              try clear c75b1
              try clear c82
              try clear c90
              try clear hcz18_0
              try clear hcz18_1
              try clear hcz20_0
              try clear hcz20_1
              try clear hcz26_0
              try clear hcz26_1
              try clear hcz30_0
              try clear hcz30_1
              try clear hcz33_0
              try clear hcz33_1
              try clear hcz59_0
              try clear hcz59_1
              try clear hcz83_0
              try clear hcz83_1
              try clear hcz8_0
              try clear hcz8_1
              try clear hfz18_0
              try clear hfz18_1
              try clear hfz20_0
              try clear hfz20_1
              try clear hfz26_0
              try clear hfz26_1
              try clear hfz30_0
              try clear hfz30_1
              try clear hfz33_0
              try clear hfz33_1
              try clear hfz59_0
              try clear hfz59_1
              try clear hfz83_0
              try clear hfz83_1
              try clear hfz8_0
              try clear hfz8_1
              try clear p2
              obtain ⟨kq, x108_78, rfl, HA, HJ78, HO_10, HO_717001, BK699, BK716, HB⟩ := hcut; have hl10_78 := (Kd.R_reads' HO_10.out).1; rw [hl10_78] at HO_10
              (try simp only [hl10_78])
              (try simp only [hl10_78] at BK699)
              (try simp only [hl10_78] at BK716)
              (try simp only [hl10_78] at HO_717001)
              cases kq with
              | zero => exact absurd HA.out (by simp [laws_FnExactNormalForm.j2])
              | succ kj78 =>
               have H := HA.out; clear HA
               simp only [laws_FnExactNormalForm.j2] at H
               by_cases c95 : x108_78 = true
               ·subst c95
                have H1 : (some false) = some r := by rw [if_pos rfl] at H; exact H
                clear H; have H := H1; clear H1
                obtain rfl := Option.some.inj H
                go_wp2
                go_ret
                exact ⟨rz, beQ HB⟩
               ·replace c95 := Bool.eq_false_iff.mpr c95
                subst c95
                have H1 : ((laws_heldInt64S.f kj78 t740 1).bind fun t754 => (if t754 < 0 then (some false) else (if t754 = t739 then (some true) else (some false)))) = some r := by rw [if_neg (show ¬ (false = true) by decide)] at H; exact H
                clear H; have H := H1; clear H1; replace H := Option.bind_eq_some_iff.mp H; obtain ⟨t754, A960, H⟩ := H
                replace H : (if t754 < 0 then (some false) else (if t754 = t739 then (some true) else (some false))) = some r := H
                have A96 := Aside0.mk A960; clear A960
                by_cases c97 : t754 < 0
                ·rw [if_pos c97] at H
                 have c97b0 : decide (t754 < 0) = true := decide_eq_true c97
                 clear c97
                 obtain rfl := Option.some.inj H
                 go_wp2_with (first | ((with_reducible refine gate_callee (f := 26) rfl ?_); refine goesL_ (some 111) rfl rfl Tryd.func26 (by kernel_rfl) rfl #[.slice Ao80 t740.length co80, .int .i64 1] rfl lz ?_; (with_reducible refine (laws_heldInt64S.calls kj78 _ _ t740 1 t754 _ ?side1 ?side2 A96.out).mono ?_); (case side1 => have q_ := Aside0.mk (Kd.R_reads' HO_10.out).2.2; exact cQ q_); (case side2 => exact (Kd.R_reads' HO_10.out).2.1); rintro e w' ⟨rfl, ⟨nd, rfl⟩⟩; refine ⟨_, rfl, ?_⟩))
                 go_ret
                 exact ⟨rz, beQ HB⟩
                ·rw [if_neg c97] at H
                 have c97b0 : decide (t754 < 0) = false := decide_eq_false c97
                 clear c97
                 by_cases c98 : t754 = t739
                 ·rw [if_pos c98] at H
                  have c98b0 : (t754 == t739) = true := beq_iff_eq.mpr c98
                  have c98b1 : (t754 != t739) = false := bne_eq_false_iff_eq.mpr c98
                  clear c98
                  obtain rfl := Option.some.inj H
                  go_wp2_with (first | ((with_reducible refine gate_callee (f := 26) rfl ?_); refine goesL_ (some 111) rfl rfl Tryd.func26 (by kernel_rfl) rfl #[.slice Ao80 t740.length co80, .int .i64 1] rfl lz ?_; (with_reducible refine (laws_heldInt64S.calls kj78 _ _ t740 1 t754 _ ?side1 ?side2 A96.out).mono ?_); (case side1 => have q_ := Aside0.mk (Kd.R_reads' HO_10.out).2.2; exact cQ q_); (case side2 => exact (Kd.R_reads' HO_10.out).2.1); rintro e w' ⟨rfl, ⟨nd, rfl⟩⟩; refine ⟨_, rfl, ?_⟩))
                  go_ret
                  exact ⟨rz, beQ HB⟩
                 ·rw [if_neg c98] at H
                  have c98b0 : (t754 == t739) = false := beq_eq_false_iff_ne.mpr c98
                  have c98b1 : (t754 != t739) = true := bne_iff_ne.mpr c98
                  obtain rfl := Option.some.inj H
                  go_wp2_with (first | ((with_reducible refine gate_callee (f := 26) rfl ?_); refine goesL_ (some 111) rfl rfl Tryd.func26 (by kernel_rfl) rfl #[.slice Ao80 t740.length co80, .int .i64 1] rfl lz ?_; (with_reducible refine (laws_heldInt64S.calls kj78 _ _ t740 1 t754 _ ?side1 ?side2 A96.out).mono ?_); (case side1 => have q_ := Aside0.mk (Kd.R_reads' HO_10.out).2.2; exact cQ q_); (case side2 => exact (Kd.R_reads' HO_10.out).2.1); rintro e w' ⟨rfl, ⟨nd, rfl⟩⟩; refine ⟨_, rfl, ?_⟩))
                  go_ret
                  exact ⟨rz, beQ HB⟩
            ·rw [if_neg c75] at H
             have c75b0 : (t741 == t739) = false := beq_eq_false_iff_ne.mpr c75
             have c75b1 : (t741 != t739) = true := bne_iff_ne.mpr c75
             obtain rfl := Option.some.inj H
             obtain ⟨Ao99, co99, eo99⟩ := Kd.R_slice HO_10.out; subst eo99
             go_wp2_with (first | ((with_reducible refine gate_callee (f := 25) rfl ?_); refine goesL_ (some 83) rfl rfl Tryd.func25 (by kernel_rfl) rfl #[.slice Ao99 t720.length co99, .int .i64 1] rfl lz ?_; (with_reducible refine (laws_markInt64S.calls kj50 (fun k_ => some k_ = (.slice Ao99 t720.length co99 : Value).ownBlock) (.slice Ao99 t720.length co99) t720 1 t739 t740 w _ ?side1 ?side2 A70.out).mono ?_); (case side1 => repeat (first | (with_reducible first | exact HB.out | apply below_alloc | apply pw_below_drewN | apply below_drew1 | refine below_set ?_ GE699.out | refine below_set ?_ GE716.out) | exact HB.out)); (case side2 => exact Kd.R_tight rfl HO_10.out); rintro e w100 ⟨rfl, hy0, hb, hkp⟩; refine ⟨_, rfl, ?_⟩; replace HO_6 := Aside0.mk (Kd.R_mono (ok' := fun k_ => some k_ ≠ (.slice Ao99 t720.length co99 : Value).ownBlock ∧ some k_ ≠ (.slice Ao31 t735.length co31 : Value).ownBlock) (Kd.R_keptB (HO_6.out) hkp (fun k_ hk_ hs_ => (hk_.1) hs_)) (fun k_ hk_ => ⟨hk_.1.1, hk_.1.2⟩)); replace HO_717001 := Aside0.mk (Kd.R_mono (ok' := fun k_ => some k_ ≠ (v709 : Value).ownBlock ∧ some k_ ≠ (.slice Ao99 t720.length co99 : Value).ownBlock) (Kd.R_keptB (HO_717001.out) hkp (fun k_ hk_ hs_ => (hk_.2) hs_)) (fun k_ hk_ => ⟨hk_.1.1, hk_.1.2⟩)); replace BK699 := Aside0.mk (blk_kept (blkQ BK699) hkp (fun hs_ => (fun e_ => (Kd.R_ne HO_10.out BK699.out (by decide)) e_) hs_)); replace BK716 := Aside0.mk (blk_kept (blkQ BK716) hkp (fun hs_ => (fun e_ => (Kd.R_ne HO_10.out BK716.out (by decide)) e_) hs_)); replace HO_10 := Aside0.mk (Kd.R_reok rfl hy0 (fun k_ e_ => HO_10.out.1 k_ e_)); replace HB := Aside0.mk (hb); (try clear hb); (try clear hkp); (try clear hy0)) | ((with_reducible refine gate_callee (f := 26) rfl ?_); refine goesL_ (some 86) rfl rfl Tryd.func26 (by kernel_rfl) rfl #[.slice Ao99 t740.length co99, .int .i64 1] rfl (by (try simp only [List.map_toArray, List.map_cons, List.map_nil]); first | done | (rw [show t740.length = t720.length from (Kd.R_reads' HO_10.out).1.symm] <;> rfl) | rfl | (simp only [List.length_drop, List.length_take]; rfl)) ?_; (with_reducible refine (laws_heldInt64S.calls kj50 _ _ t740 1 t741 _ ?side1 ?side2 A71.out).mono ?_); (case side1 => have q_ := Aside0.mk (Kd.R_reads' HO_10.out).2.2; exact cQ q_); (case side2 => rw [show t740.length = t720.length from (Kd.R_reads' HO_10.out).1.symm]; exact (Kd.R_reads' HO_10.out).2.1); rintro e w' ⟨rfl, ⟨nd, rfl⟩⟩; refine ⟨_, rfl, ?_⟩))
             go_ret
             exact ⟨rz, beQ HB⟩
       ·replace c48 := Bool.eq_false_iff.mpr c48
        subst c48
        have H1 : (some false) = some r := by rw [if_neg (show ¬ (false = true) by decide)] at H; exact H
        clear H; have H := H1; clear H1
        obtain rfl := Option.some.inj H
        try go_wp2
        replace HO_6 := Aside0.mk (Kd.R_drew HO_6.out); replace HO_9 := Aside0.mk (Kd.R_drew HO_9.out); replace HO_10 := Aside0.mk (Kd.R_drew HO_10.out); replace HO_717001 := Aside0.mk (Kd.R_drew HO_717001.out); replace BK699 := Aside0.mk (blk_drew BK699.out); replace BK716 := Aside0.mk (blk_drew BK716.out); replace HB := Aside0.mk (below_drew1 HB.out)
        refine start_ (n := 5) (S := fun w' => w'.cell? ⟨gb716, 0, none⟩ = some (.int .i64 t712) ∧ w'.cell? ⟨gb716, 1, none⟩ = some (.slice Ao31 t713.length co31) ∧ w'.cell? ⟨gb699, 0, none⟩ = some (.int .i64 a0_0) ∧ w'.cell? ⟨gb699, 1, none⟩ = some (.slice A0_1 l0_1.length c0_1)) (ds := []) #[false, false, false, false, false] (by kernel_rfl) rfl rfl ⟨bc BK716 0, bc BK716 1, bc BK699 0, bc BK699 1⟩ (fun hHeld => ?_)
        generalize wc.drew = w101 at HO_6 HO_9 HO_10 HO_717001 BK699 BK716 HB hHeld ⊢
        refine take_ (i := 0) (N := some 52) (v := ?_) (a' := ?_) #[true, false, false, false, false] rfl rfl (by kernel_rfl) (fun _ _ _ h => h) (Or.inl ⟨by rfl, ?_⟩) hHeld ?_ ?_
        rotate_left
        ·rintro w' ⟨s0, s1, s2, s3⟩
         go_simp
         with_reducible rfl
        rotate_left
        ·simp only [Act.put, s1, s2, s3, i64_w, i32_w]
         rfl
        refine take_ (i := 1) (N := some 53) (v := ?_) (a' := ?_) #[true, true, false, false, false] rfl rfl (by kernel_rfl) (fun _ _ _ h => h) (Or.inl ⟨by rfl, ?_⟩) hHeld ?_ ?_
        rotate_left
        ·rintro w' ⟨s0, s1, s2, s3⟩
         go_simp
         with_reducible rfl
        rotate_left
        ·simp only [Act.put, s1, s2, s3, i64_w, i32_w]
         rfl
        refine one_ (i := 2) (N := some 54) #[true, true, true, false, false] rfl rfl (by kernel_rfl) (by decide) (fun K hK => ?_)
        refine goes_ Tryd.func17 (by kernel_rfl) rfl #[.agg #[.int .i64 a0_0, .slice A0_1 l0_1.length c0_1]] (by rfl) rfl rfl lz ?_
        with_reducible refine (laws_toAlphabet.calls kj15 a0_0 _ _ l0_1 t725 t726 _ ?side1 ?side2 A43.out).mono ?_
        (case side1 => have q_ := Aside0.mk (Kd.C_below HR0_1.out HB.out); exact cQ q_)
        (case side2 => exact HC0_1.out)
        rintro e w102 ⟨v727, rfl, ho0, hb⟩
        refine ⟨_, rfl, ?_⟩
        have HO728 := Aside0.mk (Kd.R_lower (Kd.R_new' (Kd.R_new' (Kd.R_new' (Kd.R_new' ho0 (Kd.R_lt (kdQ HO_6))) (Kd.R_lt (kdQ HO_9))) (Kd.R_lt (kdQ HO_10))) (Kd.R_lt (kdQ HO_717001))) (below_size (beQ HB))); replace HO_6 := Aside0.mk (Kd.R_elder' (kdQ HO_6) (Kd.R_base ho0) hb); replace HO_9 := Aside0.mk (Kd.R_elder' (kdQ HO_9) (Kd.R_base ho0) hb); replace HO_10 := Aside0.mk (Kd.R_elder' (kdQ HO_10) (Kd.R_base ho0) hb); replace HO_717001 := Aside0.mk (Kd.R_elder' (kdQ HO_717001) (Kd.R_base ho0) hb); replace BK699 := bb BK699 hb; replace BK716 := bb BK716 hb; replace HB := Aside0.mk (below_step (beQ HB) hb)
        (try clear hb)
        (try clear hb2)
        (try clear hk)
        (try clear hi)
        (try clear ho0)
        obtain ⟨Ao103, co103, eo103⟩ := Kd.R_slice HO728.out
        (first | subst eo103 | (injection eo103 with f1_ f2_ f3_; have f4_ := f1_.symm; have f5_ := f3_.symm; clear f1_ f2_ f3_; subst f4_; subst f5_))
        refine hK.out _ _ ⟨bc BK716 0, bc BK716 1, bc BK699 0, bc BK699 1⟩ (fun hHeld => ?_)
        clear hK K
        refine norm_ (a' := ?_) ?_ ?_
        rotate_left
        ·show Act.put _ (some 54) _ = _
         simp only [Act.put, s1, s2, s3, i64_w, i32_w]
         rfl
        refine one_ (i := 3) (N := some 55) #[true, true, true, true, false] rfl rfl (by kernel_rfl) (by decide) (fun K hK => ?_)
        refine goes_ Tryd.func20 (by kernel_rfl) rfl #[.agg #[.int .i64 t712, .slice Ao31 t713.length co31], .agg #[.int .i64 t725, .slice Ao103 t726.length co103]] (by rfl) rfl rfl lz ?_
        with_reducible refine (laws_eqAlphabet.calls kj15 t712 _ _ t713 t725 _ _ t726 true _ ?side1 ?side2 ?side3 ?side4 A44.out).mono ?_
        (case side1 => have q_ := Aside0.mk (Kd.R_reads' HO_717001.out).2.2; exact cQ q_)
        (case side2 => exact (Kd.R_reads' HO_717001.out).2.1)
        (case side3 => have q_ := Aside0.mk (Kd.R_reads' HO728.out).2.2; exact cQ q_)
        (case side4 => exact (Kd.R_reads' HO728.out).2.1)
        rintro e w104 ⟨rfl, hb⟩
        refine ⟨_, rfl, ?_⟩
        replace HO_6 := kb HO_6 hb; replace HO_9 := kb HO_9 hb; replace HO_10 := kb HO_10 hb; replace HO_717001 := kb HO_717001 hb; replace HO728 := kb HO728 hb; replace BK699 := bb BK699 hb; replace BK716 := bb BK716 hb; replace HB := Aside0.mk (below_step (beQ HB) hb)
        (try clear hb)
        (try clear hb2)
        (try clear hk)
        (try clear hi)
        refine hK.out _ _ ⟨bc BK716 0, bc BK716 1, bc BK699 0, bc BK699 1⟩ (fun hHeld => ?_)
        clear hK K
        refine norm_ (a' := ?_) ?_ ?_
        rotate_left
        ·show Act.put _ (some 55) _ = _
         simp only [Act.put, s1, s2, s3, i64_w, i32_w]
         rfl
        refine pure_ (i := 4) (N := some 56) (v := ?_) (a' := ?_) #[true, true, true, true, true] rfl rfl (by kernel_rfl) (fun _ _ _ h => h) (Or.inl ⟨by rfl, ?_⟩) ?_ ?_
        rotate_left
        ·intro w'
         go_simp
         with_reducible rfl
        rotate_left
        ·simp only [Act.put, s1, s2, s3, i64_w, i32_w]
         rfl
        refine done_ (by kernel_rfl) ?_
        try go_wp2_with (first | ((with_reducible refine gate_callee (f := 18) rfl ?_); refine goesL_ (some 59) rfl rfl Tryd.func18 (by kernel_rfl) rfl #[.slice A1 l1.length c1] rfl lz ?_; (with_reducible refine (laws_toInt64S.calls kj15 _ _ l1 t730 _ ?side1 ?side2 A46.out).mono ?_); (case side1 => have q_ := Aside0.mk (Kd.C_below HR1.out HB.out); exact cQ q_); (case side2 => exact HC1.out); rintro e w105 ⟨v731, rfl, ho0, hb⟩; refine ⟨_, rfl, ?_⟩; have HO732 := Aside0.mk (Kd.R_lower (Kd.R_new' (Kd.R_new' (Kd.R_new' (Kd.R_new' (Kd.R_new' ho0 (Kd.R_lt (kdQ HO_6))) (Kd.R_lt (kdQ HO_9))) (Kd.R_lt (kdQ HO_10))) (Kd.R_lt (kdQ HO_717001))) (Kd.R_lt (kdQ HO728))) (below_size (beQ HB))); replace HO_6 := Aside0.mk (Kd.R_elder' (kdQ HO_6) (Kd.R_base ho0) hb); replace HO_9 := Aside0.mk (Kd.R_elder' (kdQ HO_9) (Kd.R_base ho0) hb); replace HO_10 := Aside0.mk (Kd.R_elder' (kdQ HO_10) (Kd.R_base ho0) hb); replace HO_717001 := Aside0.mk (Kd.R_elder' (kdQ HO_717001) (Kd.R_base ho0) hb); replace HO728 := Aside0.mk (Kd.R_elder' (kdQ HO728) (Kd.R_base ho0) hb); replace BK699 := bb BK699 hb; replace BK716 := bb BK716 hb; replace HB := Aside0.mk (below_step (beQ HB) hb); (try clear hb); (try clear hb2); (try clear hk); (try clear hi); (try clear ho0); obtain ⟨Ao106, co106, eo106⟩ := Kd.R_slice HO732.out; subst eo106) | ((with_reducible refine gate_callee (f := 21) rfl ?_); refine goesL_ (some 60) rfl rfl Tryd.func21 (by kernel_rfl) rfl #[.slice Ao34 t717.length co34, .slice Ao106 t730.length co106] rfl lz ?_; (with_reducible refine (laws_eqInt64S.calls kj15 _ _ t717 _ _ t730 false _ ?side1 ?side2 ?side3 ?side4 A47.out).mono ?_); (case side1 => have q_ := Aside0.mk (Kd.R_reads' HO_9.out).2.2; exact cQ q_); (case side2 => exact (Kd.R_reads' HO_9.out).2.1); (case side3 => have q_ := Aside0.mk (Kd.R_reads' HO732.out).2.2; exact cQ q_); (case side4 => exact (Kd.R_reads' HO732.out).2.1); rintro e w' ⟨rfl, ⟨nd, rfl⟩⟩; refine ⟨_, rfl, ?_⟩))
        go_ret
        exact ⟨rz, beQ HB⟩
      ·replace c45 := Bool.eq_false_iff.mpr c45
       subst c45
       have H1 : (some false) = some r := by rw [if_neg (show ¬ (false = true) by decide)] at H; exact H
       clear H; have H := H1; clear H1
       obtain rfl := Option.some.inj H
       try go_wp2
       replace HO_6 := Aside0.mk (Kd.R_drew HO_6.out); replace HO_9 := Aside0.mk (Kd.R_drew HO_9.out); replace HO_10 := Aside0.mk (Kd.R_drew HO_10.out); replace HO_717001 := Aside0.mk (Kd.R_drew HO_717001.out); replace BK699 := Aside0.mk (blk_drew BK699.out); replace BK716 := Aside0.mk (blk_drew BK716.out); replace HB := Aside0.mk (below_drew1 HB.out)
       refine start_ (n := 5) (S := fun w' => w'.cell? ⟨gb716, 0, none⟩ = some (.int .i64 t712) ∧ w'.cell? ⟨gb716, 1, none⟩ = some (.slice Ao31 t713.length co31) ∧ w'.cell? ⟨gb699, 0, none⟩ = some (.int .i64 a0_0) ∧ w'.cell? ⟨gb699, 1, none⟩ = some (.slice A0_1 l0_1.length c0_1)) (ds := []) #[false, false, false, false, false] (by kernel_rfl) rfl rfl ⟨bc BK716 0, bc BK716 1, bc BK699 0, bc BK699 1⟩ (fun hHeld => ?_)
       generalize wc.drew = w107 at HO_6 HO_9 HO_10 HO_717001 BK699 BK716 HB hHeld ⊢
       refine take_ (i := 0) (N := some 52) (v := ?_) (a' := ?_) #[true, false, false, false, false] rfl rfl (by kernel_rfl) (fun _ _ _ h => h) (Or.inl ⟨by rfl, ?_⟩) hHeld ?_ ?_
       rotate_left
       ·rintro w' ⟨s0, s1, s2, s3⟩
        go_simp
        with_reducible rfl
       rotate_left
       ·simp only [Act.put, s1, s2, s3, i64_w, i32_w]
        rfl
       refine take_ (i := 1) (N := some 53) (v := ?_) (a' := ?_) #[true, true, false, false, false] rfl rfl (by kernel_rfl) (fun _ _ _ h => h) (Or.inl ⟨by rfl, ?_⟩) hHeld ?_ ?_
       rotate_left
       ·rintro w' ⟨s0, s1, s2, s3⟩
        go_simp
        with_reducible rfl
       rotate_left
       ·simp only [Act.put, s1, s2, s3, i64_w, i32_w]
        rfl
       refine one_ (i := 2) (N := some 54) #[true, true, true, false, false] rfl rfl (by kernel_rfl) (by decide) (fun K hK => ?_)
       refine goes_ Tryd.func17 (by kernel_rfl) rfl #[.agg #[.int .i64 a0_0, .slice A0_1 l0_1.length c0_1]] (by rfl) rfl rfl lz ?_
       with_reducible refine (laws_toAlphabet.calls kj15 a0_0 _ _ l0_1 t725 t726 _ ?side1 ?side2 A43.out).mono ?_
       (case side1 => have q_ := Aside0.mk (Kd.C_below HR0_1.out HB.out); exact cQ q_)
       (case side2 => exact HC0_1.out)
       rintro e w108 ⟨v727, rfl, ho0, hb⟩
       refine ⟨_, rfl, ?_⟩
       have HO728 := Aside0.mk (Kd.R_lower (Kd.R_new' (Kd.R_new' (Kd.R_new' (Kd.R_new' ho0 (Kd.R_lt (kdQ HO_6))) (Kd.R_lt (kdQ HO_9))) (Kd.R_lt (kdQ HO_10))) (Kd.R_lt (kdQ HO_717001))) (below_size (beQ HB))); replace HO_6 := Aside0.mk (Kd.R_elder' (kdQ HO_6) (Kd.R_base ho0) hb); replace HO_9 := Aside0.mk (Kd.R_elder' (kdQ HO_9) (Kd.R_base ho0) hb); replace HO_10 := Aside0.mk (Kd.R_elder' (kdQ HO_10) (Kd.R_base ho0) hb); replace HO_717001 := Aside0.mk (Kd.R_elder' (kdQ HO_717001) (Kd.R_base ho0) hb); replace BK699 := bb BK699 hb; replace BK716 := bb BK716 hb; replace HB := Aside0.mk (below_step (beQ HB) hb)
       (try clear hb)
       (try clear hb2)
       (try clear hk)
       (try clear hi)
       (try clear ho0)
       obtain ⟨Ao109, co109, eo109⟩ := Kd.R_slice HO728.out
       (first | subst eo109 | (injection eo109 with f1_ f2_ f3_; have f4_ := f1_.symm; have f5_ := f3_.symm; clear f1_ f2_ f3_; subst f4_; subst f5_))
       refine hK.out _ _ ⟨bc BK716 0, bc BK716 1, bc BK699 0, bc BK699 1⟩ (fun hHeld => ?_)
       clear hK K
       refine norm_ (a' := ?_) ?_ ?_
       rotate_left
       ·show Act.put _ (some 54) _ = _
        simp only [Act.put, s1, s2, s3, i64_w, i32_w]
        rfl
       refine one_ (i := 3) (N := some 55) #[true, true, true, true, false] rfl rfl (by kernel_rfl) (by decide) (fun K hK => ?_)
       refine goes_ Tryd.func20 (by kernel_rfl) rfl #[.agg #[.int .i64 t712, .slice Ao31 t713.length co31], .agg #[.int .i64 t725, .slice Ao109 t726.length co109]] (by rfl) rfl rfl lz ?_
       with_reducible refine (laws_eqAlphabet.calls kj15 t712 _ _ t713 t725 _ _ t726 false _ ?side1 ?side2 ?side3 ?side4 A44.out).mono ?_
       (case side1 => have q_ := Aside0.mk (Kd.R_reads' HO_717001.out).2.2; exact cQ q_)
       (case side2 => exact (Kd.R_reads' HO_717001.out).2.1)
       (case side3 => have q_ := Aside0.mk (Kd.R_reads' HO728.out).2.2; exact cQ q_)
       (case side4 => exact (Kd.R_reads' HO728.out).2.1)
       rintro e w110 ⟨rfl, hb⟩
       refine ⟨_, rfl, ?_⟩
       replace HO_6 := kb HO_6 hb; replace HO_9 := kb HO_9 hb; replace HO_10 := kb HO_10 hb; replace HO_717001 := kb HO_717001 hb; replace HO728 := kb HO728 hb; replace BK699 := bb BK699 hb; replace BK716 := bb BK716 hb; replace HB := Aside0.mk (below_step (beQ HB) hb)
       (try clear hb)
       (try clear hb2)
       (try clear hk)
       (try clear hi)
       refine hK.out _ _ ⟨bc BK716 0, bc BK716 1, bc BK699 0, bc BK699 1⟩ (fun hHeld => ?_)
       clear hK K
       refine norm_ (a' := ?_) ?_ ?_
       rotate_left
       ·show Act.put _ (some 55) _ = _
        simp only [Act.put, s1, s2, s3, i64_w, i32_w]
        rfl
       refine pure_ (i := 4) (N := some 56) (v := ?_) (a' := ?_) #[true, true, true, true, true] rfl rfl (by kernel_rfl) (fun _ _ _ h => h) (Or.inl ⟨by rfl, ?_⟩) ?_ ?_
       rotate_left
       ·intro w'
        go_simp
        with_reducible rfl
       rotate_left
       ·simp only [Act.put, s1, s2, s3, i64_w, i32_w]
        rfl
       refine done_ (by kernel_rfl) ?_
       try go_wp2
       go_ret
       exact ⟨rz, beQ HB⟩

end Go.Proofs.YtlpodkpnoopnnaaDoor.G
