/- How the program's functions compute, function by function: each is told by a plain Lean function of the same answers, under the condition that this one answers. Written by a program of this project over the seat's translation; Lean checks it. -/
import Derived.Test.YtlpodkpnoopnnaaDoorG0
import Derived.Test.YtlpodkpnoopnnaaDoorGQ00
import Derived.Test.YtlpodkpnoopnnaaDoorGQ08
import Derived.Test.YtlpodkpnoopnnaaDoorGQ10
import Derived.Test.YtlpodkpnoopnnaaDoorGQ12
namespace Go.Proofs.YtlpodkpnoopnnaaDoor.G
open Go.RowKit Go.Proofs.YtlpodkpnoopnnaaDoorW.PrintWords Go.Proofs.YtlpodkpnoopnnaaDoorW.PrintLast Go.Proofs.YtlpodkpnoopnnaaDoorW.PrintMore
attribute [local go_sem] max2_int min2_int max_two min_two max_three min_three max_four min_four   -- for this text's walks alone
set_option linter.unusedVariables false
set_option linter.unusedSimpArgs false

/-! ### laws_FnExactFoataForm: function 5 -/
mutual
def laws_FnExactFoataForm.j0 : Nat → List Int → List Int → Int → List Int → List Int → Int → Bool → Int → List Int → Int → List Int → Option (Bool)
 | 0, _, _, _, _, _, _, _, _, _, _, _ => none
 | k + 1, x1, x6, x7, x9, x10, x11, x51, x378000, x378001, x395000, x395001 => if x51 = true then (some false) else ((laws_toAlphabet.f k x378000 x378001).bind fun bt403 => ((laws_eqAlphabet.f k x395000 x395001 bt403.1 bt403.2).bind fun t407 => (if t407 = true then ((laws_toInt64S.f k x1).bind fun t408 => ((laws_eqInt64S.f k x9 t408).bind fun t411 => (if t411 = true then ((laws_markAlphabet.f k x395000 x395001 1).bind fun bt412 => ((laws_markInt64S.f k x9 bt412.1).bind fun bt414 => (if bt414.1 < 0 then (laws_FnExactFoataForm.j1 k x1 x6 x7 x10 true x378000 x378001) else ((laws_eqInt64S.f k x10 x6).bind fun t416 => (if t416 = true then (laws_FnExactFoataForm.j1 k x1 x6 x7 x10 (x11 != x7) x378000 x378001) else (laws_FnExactFoataForm.j1 k x1 x6 x7 x10 true x378000 x378001)))))) else (some false)))) else (some false))))
def laws_FnExactFoataForm.j1 : Nat → List Int → List Int → Int → List Int → Bool → Int → List Int → Option (Bool)
 | 0, _, _, _, _, _, _, _ => none
 | k + 1, x1, x6, x7, x10, x80, x378000, x378001 => if x80 = true then (some false) else ((laws_markInt64S.f k x10 1).bind fun bt417 => ((laws_heldInt64S.f k bt417.2 1).bind fun t419 => (if t419 < 0 then (some false) else (if t419 = bt417.1 then ((laws_toAlphabet.f k x378000 x378001).bind fun bt420 => ((laws_toInt64S.f k x1).bind fun t424 => ((impl_FoataForm.f k bt420.1 bt420.2 t424).bind fun bt427 => ((laws_eqInt64S.f k bt427.1 x6).bind fun t431 => (if t431 = true then (laws_FnExactFoataForm.j2 k bt417.2 bt417.1 (bt427.2 != x7)) else (laws_FnExactFoataForm.j2 k bt417.2 bt417.1 true)))))) else (some false)))))
def laws_FnExactFoataForm.j2 : Nat → List Int → Int → Bool → Option (Bool)
 | 0, _, _, _ => none
 | k + 1, x10, x13, x108 => if x108 = true then (some false) else ((laws_heldInt64S.f k x10 1).bind fun t432 => (if t432 < 0 then (some false) else (if t432 = x13 then (some true) else (some false))))
end
def laws_FnExactFoataForm.f (k : Nat) (a0_0 : Int) (l0_1 : List Int) (l1 : List Int) : Option (Bool) := if (l1.length : Int) > 1048576 then (some true) else ((laws_szAlphabet.f a0_0 l0_1 1048576).bind fun t378 => (if t378 < 0 then (some true) else ((laws_toAlphabet.f k a0_0 l0_1).bind fun bt379 => ((laws_toInt64S.f k l1).bind fun t383 => ((spec_FoataForm.f k bt379.1 bt379.2 t383).bind fun bt386 => ((laws_toAlphabet.f k a0_0 l0_1).bind fun bt390 => ((laws_toInt64S.f k l1).bind fun t395 => ((impl_FoataForm.f k bt390.1 bt390.2 t395).bind fun bt398 => ((laws_eqInt64S.f k bt398.1 bt386.1).bind fun t402 => (if t402 = true then (laws_FnExactFoataForm.j0 k l1 bt386.1 bt386.2 t395 bt398.1 bt398.2 (bt398.2 != bt386.2) a0_0 l0_1 bt390.1 bt390.2) else (laws_FnExactFoataForm.j0 k l1 bt386.1 bt386.2 t395 bt398.1 bt398.2 true a0_0 l0_1 bt390.1 bt390.2)))))))))))
theorem laws_FnExactFoataForm.mono_l : ∀ k, (∀ y0 y1 y2 y3 y4 y5 y6 y7 y8 y9 y10, LeO (laws_FnExactFoataForm.j0 k y0 y1 y2 y3 y4 y5 y6 y7 y8 y9 y10) (laws_FnExactFoataForm.j0 (k + 1) y0 y1 y2 y3 y4 y5 y6 y7 y8 y9 y10)) ∧ (∀ y0 y1 y2 y3 y4 y5 y6, LeO (laws_FnExactFoataForm.j1 k y0 y1 y2 y3 y4 y5 y6) (laws_FnExactFoataForm.j1 (k + 1) y0 y1 y2 y3 y4 y5 y6)) ∧ (∀ y0 y1 y2, LeO (laws_FnExactFoataForm.j2 k y0 y1 y2) (laws_FnExactFoataForm.j2 (k + 1) y0 y1 y2))
 | 0 => ⟨fun _ _ _ _ _ _ _ _ _ _ _ r h => by simp [laws_FnExactFoataForm.j0] at h, fun _ _ _ _ _ _ _ r h => by simp [laws_FnExactFoataForm.j1] at h, fun _ _ _ r h => by simp [laws_FnExactFoataForm.j2] at h⟩
 | k + 1 => by
  obtain ⟨ih0, ih1, ih2⟩ := laws_FnExactFoataForm.mono_l k
  refine ⟨?_, ?_, ?_⟩
  ·intro y0 y1 y2 y3 y4 y5 y6 y7 y8 y9 y10
   unfold laws_FnExactFoataForm.j0
   repeat' first
   | (with_reducible exact ih0 _ _ _ _ _ _ _ _ _ _ _)
   | (with_reducible exact ih1 _ _ _ _ _ _ _)
   | (with_reducible exact ih2 _ _ _)
   | (with_reducible exact impl_FoataForm.mono _ _ _ _)
   | (with_reducible exact laws_eqAlphabet.mono _ _ _ _ _)
   | (with_reducible exact laws_eqInt64S.mono _ _ _)
   | (with_reducible exact laws_heldInt64S.mono _ _ _)
   | (with_reducible exact laws_markAlphabet.mono _ _ _ _)
   | (with_reducible exact laws_markInt64S.mono _ _ _)
   | (with_reducible exact laws_toAlphabet.mono _ _ _)
   | (with_reducible exact laws_toInt64S.mono _ _)
   | (with_reducible exact spec_FoataForm.mono _ _ _ _)
   | (with_reducible exact LeO.refl _)
   | (with_reducible exact LeO.none _)
   | (with_reducible refine LeO.ite ?_ ?_)
   | (with_reducible refine LeO.bind ?_ (fun _ => ?_))
   | exact ih0 _ _ _ _ _ _ _ _ _ _ _
   | exact ih1 _ _ _ _ _ _ _
   | exact ih2 _ _ _
   | exact impl_FoataForm.mono _ _ _ _
   | exact laws_eqAlphabet.mono _ _ _ _ _
   | exact laws_eqInt64S.mono _ _ _
   | exact laws_heldInt64S.mono _ _ _
   | exact laws_markAlphabet.mono _ _ _ _
   | exact laws_markInt64S.mono _ _ _
   | exact laws_toAlphabet.mono _ _ _
   | exact laws_toInt64S.mono _ _
   | exact spec_FoataForm.mono _ _ _ _
   | exact LeO.none _
   | refine LeO.ite ?_ ?_
   | refine LeO.bind ?_ (fun _ => ?_)
  ·intro y0 y1 y2 y3 y4 y5 y6
   unfold laws_FnExactFoataForm.j1
   repeat' first
   | (with_reducible exact ih0 _ _ _ _ _ _ _ _ _ _ _)
   | (with_reducible exact ih1 _ _ _ _ _ _ _)
   | (with_reducible exact ih2 _ _ _)
   | (with_reducible exact impl_FoataForm.mono _ _ _ _)
   | (with_reducible exact laws_eqAlphabet.mono _ _ _ _ _)
   | (with_reducible exact laws_eqInt64S.mono _ _ _)
   | (with_reducible exact laws_heldInt64S.mono _ _ _)
   | (with_reducible exact laws_markAlphabet.mono _ _ _ _)
   | (with_reducible exact laws_markInt64S.mono _ _ _)
   | (with_reducible exact laws_toAlphabet.mono _ _ _)
   | (with_reducible exact laws_toInt64S.mono _ _)
   | (with_reducible exact spec_FoataForm.mono _ _ _ _)
   | (with_reducible exact LeO.refl _)
   | (with_reducible exact LeO.none _)
   | (with_reducible refine LeO.ite ?_ ?_)
   | (with_reducible refine LeO.bind ?_ (fun _ => ?_))
   | exact ih0 _ _ _ _ _ _ _ _ _ _ _
   | exact ih1 _ _ _ _ _ _ _
   | exact ih2 _ _ _
   | exact impl_FoataForm.mono _ _ _ _
   | exact laws_eqAlphabet.mono _ _ _ _ _
   | exact laws_eqInt64S.mono _ _ _
   | exact laws_heldInt64S.mono _ _ _
   | exact laws_markAlphabet.mono _ _ _ _
   | exact laws_markInt64S.mono _ _ _
   | exact laws_toAlphabet.mono _ _ _
   | exact laws_toInt64S.mono _ _
   | exact spec_FoataForm.mono _ _ _ _
   | exact LeO.none _
   | refine LeO.ite ?_ ?_
   | refine LeO.bind ?_ (fun _ => ?_)
  ·intro y0 y1 y2
   unfold laws_FnExactFoataForm.j2
   repeat' first
   | (with_reducible exact ih0 _ _ _ _ _ _ _ _ _ _ _)
   | (with_reducible exact ih1 _ _ _ _ _ _ _)
   | (with_reducible exact ih2 _ _ _)
   | (with_reducible exact impl_FoataForm.mono _ _ _ _)
   | (with_reducible exact laws_eqAlphabet.mono _ _ _ _ _)
   | (with_reducible exact laws_eqInt64S.mono _ _ _)
   | (with_reducible exact laws_heldInt64S.mono _ _ _)
   | (with_reducible exact laws_markAlphabet.mono _ _ _ _)
   | (with_reducible exact laws_markInt64S.mono _ _ _)
   | (with_reducible exact laws_toAlphabet.mono _ _ _)
   | (with_reducible exact laws_toInt64S.mono _ _)
   | (with_reducible exact spec_FoataForm.mono _ _ _ _)
   | (with_reducible exact LeO.refl _)
   | (with_reducible exact LeO.none _)
   | (with_reducible refine LeO.ite ?_ ?_)
   | (with_reducible refine LeO.bind ?_ (fun _ => ?_))
   | exact ih0 _ _ _ _ _ _ _ _ _ _ _
   | exact ih1 _ _ _ _ _ _ _
   | exact ih2 _ _ _
   | exact impl_FoataForm.mono _ _ _ _
   | exact laws_eqAlphabet.mono _ _ _ _ _
   | exact laws_eqInt64S.mono _ _ _
   | exact laws_heldInt64S.mono _ _ _
   | exact laws_markAlphabet.mono _ _ _ _
   | exact laws_markInt64S.mono _ _ _
   | exact laws_toAlphabet.mono _ _ _
   | exact laws_toInt64S.mono _ _
   | exact spec_FoataForm.mono _ _ _ _
   | exact LeO.none _
   | refine LeO.ite ?_ ?_
   | refine LeO.bind ?_ (fun _ => ?_)
theorem laws_FnExactFoataForm.mono : ∀ a0 a1 a2 k, LeO (laws_FnExactFoataForm.f k a0 a1 a2) (laws_FnExactFoataForm.f (k + 1) a0 a1 a2) := by
 intro a0 a1 a2 k
 obtain ⟨ih0, ih1, ih2⟩ := laws_FnExactFoataForm.mono_l k
 unfold laws_FnExactFoataForm.f
 repeat' first
   | (with_reducible exact ih0 _ _ _ _ _ _ _ _ _ _ _)
   | (with_reducible exact ih1 _ _ _ _ _ _ _)
   | (with_reducible exact ih2 _ _ _)
   | (with_reducible exact impl_FoataForm.mono _ _ _ _)
   | (with_reducible exact laws_eqAlphabet.mono _ _ _ _ _)
   | (with_reducible exact laws_eqInt64S.mono _ _ _)
   | (with_reducible exact laws_heldInt64S.mono _ _ _)
   | (with_reducible exact laws_markAlphabet.mono _ _ _ _)
   | (with_reducible exact laws_markInt64S.mono _ _ _)
   | (with_reducible exact laws_toAlphabet.mono _ _ _)
   | (with_reducible exact laws_toInt64S.mono _ _)
   | (with_reducible exact spec_FoataForm.mono _ _ _ _)
   | (with_reducible exact LeO.refl _)
   | (with_reducible exact LeO.none _)
   | (with_reducible refine LeO.ite ?_ ?_)
   | (with_reducible refine LeO.bind ?_ (fun _ => ?_))
   | exact ih0 _ _ _ _ _ _ _ _ _ _ _
   | exact ih1 _ _ _ _ _ _ _
   | exact ih2 _ _ _
   | exact impl_FoataForm.mono _ _ _ _
   | exact laws_eqAlphabet.mono _ _ _ _ _
   | exact laws_eqInt64S.mono _ _ _
   | exact laws_heldInt64S.mono _ _ _
   | exact laws_markAlphabet.mono _ _ _ _
   | exact laws_markInt64S.mono _ _ _
   | exact laws_toAlphabet.mono _ _ _
   | exact laws_toInt64S.mono _ _
   | exact spec_FoataForm.mono _ _ _ _
   | exact LeO.none _
   | refine LeO.ite ?_ ?_
   | refine LeO.bind ?_ (fun _ => ?_)
set_option maxHeartbeats 8000000 in
set_option maxRecDepth 100000 in
theorem laws_FnExactFoataForm.calls (k : Nat) (a0_0 : Int) (A0_1 : Option Addr) (c0_1 : Nat) (l0_1 : List Int) (A1 : Option Addr) (c1 : Nat) (l1 : List Int) (r : Bool) (w : World) (hr0_1 : Kd.C (Kd.int .i64) w A0_1 l0_1.length l0_1) (hc0_1 : l0_1.length ≤ c0_1) (hr1 : Kd.C (Kd.int .i64) w A1 l1.length l1) (hc1 : l1.length ≤ c1) (hT : TabW w) (h : laws_FnExactFoataForm.f k a0_0 l0_1 l1 = some r) :
  Calls Tryd.prog 5 #[.agg #[.int .i64 a0_0, .slice A0_1 l0_1.length c0_1], .slice A1 l1.length c1] w fun e w' => e = .returned (.bool r) ∧ Below w.heap.size w w' := by
 have hu24 := Tryd.underlying24; have hu28 := Tryd.underlying28; have HT := Aside0.mk hT; clear hT; have HR0_1 := Aside0.mk hr0_1; have HC0_1 := Aside0.mk hc0_1; clear hr0_1 hc0_1; have HR1 := Aside0.mk hr1; have HC1 := Aside0.mk hc1; clear hr1 hc1; have HB := Aside0.mk (Below.refl w.heap.size w)
 have H : (if (l1.length : Int) > 1048576 then (some true) else ((laws_szAlphabet.f a0_0 l0_1 1048576).bind fun t378 => (if t378 < 0 then (some true) else ((laws_toAlphabet.f k a0_0 l0_1).bind fun bt379 => ((laws_toInt64S.f k l1).bind fun t383 => ((spec_FoataForm.f k bt379.1 bt379.2 t383).bind fun bt386 => ((laws_toAlphabet.f k a0_0 l0_1).bind fun bt390 => ((laws_toInt64S.f k l1).bind fun t395 => ((impl_FoataForm.f k bt390.1 bt390.2 t395).bind fun bt398 => ((laws_eqInt64S.f k bt398.1 bt386.1).bind fun t402 => (if t402 = true then (laws_FnExactFoataForm.j0 k l1 bt386.1 bt386.2 t395 bt398.1 bt398.2 (bt398.2 != bt386.2) a0_0 l0_1 bt390.1 bt390.2) else (laws_FnExactFoataForm.j0 k l1 bt386.1 bt386.2 t395 bt398.1 bt398.2 true a0_0 l0_1 bt390.1 bt390.2)))))))))))) = some r := h
 clear h
 by_cases c3 : (l1.length : Int) > 1048576
 ·rw [if_pos c3] at H
  have c3b0 : decide (1048576 < (l1.length : Int)) = true := decide_eq_true c3
  have c3b1 : decide (1048576 < l1.length) = true := decide_eq_true (by omega)
  clear c3
  obtain rfl := Option.some.inj H
  go_enter Tryd.func5, Tryd.ntmps5
  go_wp2_with (first | ((with_reducible refine gate_dst (N := 2) rfl ?_); refine box_event ?hg (N := 2) ?hd (cs := #[.int .i64 a0_0, .slice A0_1 l0_1.length c0_1]) (t := 24) ?hr ?_; (case hd => rfl); (case hg => rfl); (case hr => first | (go_simp; done) | (go_simp; rfl)); intro gb377 hg w4 hbox hb; have BK377 := Aside0.mk (hbox); have GW377 := Aside0.mk ((by rw [hg]; exact (below_size (beQ HB)) : w.heap.size ≤ gb377)); have GE377 := Aside0.mk ((by rw [hg]; exact (below_size (beQ HB)) : w.heap.size ≤ gb377)); replace HB := Aside0.mk (below_step (beQ HB) hb); clear hb hbox hg))
  go_ret
  exact ⟨rz, beQ HB⟩
 ·rw [if_neg c3] at H
  have c3b0 : decide (1048576 < (l1.length : Int)) = false := decide_eq_false c3
  have c3b1 : decide (1048576 < l1.length) = false := decide_eq_false (by omega)
  clear c3; replace H := Option.bind_eq_some_iff.mp H; obtain ⟨t378, A50, H⟩ := H
  replace H : (if t378 < 0 then (some true) else ((laws_toAlphabet.f k a0_0 l0_1).bind fun bt379 => ((laws_toInt64S.f k l1).bind fun t383 => ((spec_FoataForm.f k bt379.1 bt379.2 t383).bind fun bt386 => ((laws_toAlphabet.f k a0_0 l0_1).bind fun bt390 => ((laws_toInt64S.f k l1).bind fun t395 => ((impl_FoataForm.f k bt390.1 bt390.2 t395).bind fun bt398 => ((laws_eqInt64S.f k bt398.1 bt386.1).bind fun t402 => (if t402 = true then (laws_FnExactFoataForm.j0 k l1 bt386.1 bt386.2 t395 bt398.1 bt398.2 (bt398.2 != bt386.2) a0_0 l0_1 bt390.1 bt390.2) else (laws_FnExactFoataForm.j0 k l1 bt386.1 bt386.2 t395 bt398.1 bt398.2 true a0_0 l0_1 bt390.1 bt390.2)))))))))) = some r := H
  have A5 := Aside0.mk A50; clear A50
  by_cases c6 : t378 < 0
  ·rw [if_pos c6] at H
   have c6b0 : decide (t378 < 0) = true := decide_eq_true c6
   clear c6
   obtain rfl := Option.some.inj H
   go_enter Tryd.func5, Tryd.ntmps5
   go_wp2_with (first | ((with_reducible refine gate_dst (N := 2) rfl ?_); refine box_event ?hg (N := 2) ?hd (cs := #[.int .i64 a0_0, .slice A0_1 l0_1.length c0_1]) (t := 24) ?hr ?_; (case hd => rfl); (case hg => rfl); (case hr => first | (go_simp; done) | (go_simp; rfl)); intro gb377 hg w7 hbox hb; have BK377 := Aside0.mk (hbox); have GW377 := Aside0.mk ((by rw [hg]; exact (below_size (beQ HB)) : w.heap.size ≤ gb377)); have GE377 := Aside0.mk ((by rw [hg]; exact (below_size (beQ HB)) : w.heap.size ≤ gb377)); replace HB := Aside0.mk (below_step (beQ HB) hb); clear hb hbox hg; have hcz8_0 : w7.cell? ⟨gb377, 0, none⟩ = some (.int .i64 a0_0) := bc BK377 0; have hcz8_1 : w7.cell? ⟨gb377, 1, none⟩ = some (.slice A0_1 l0_1.length c0_1) := bc BK377 1; have hfz8_0 := blk_frozen BK377.out 0; have hfz8_1 := blk_frozen BK377.out 1) | ((with_reducible refine gate_callee (f := 15) rfl ?_); refine goesL_ (some 22) rfl rfl Tryd.func15 (by kernel_rfl) rfl #[.agg #[.int .i64 a0_0, .slice A0_1 l0_1.length c0_1], .int .i64 1048576] rfl lz ?_; (with_reducible refine (laws_szAlphabet.calls a0_0 _ _ l0_1 1048576 t378 _ ?side1 ?side2 A5.out).mono ?_); (case side1 => have q_ := Aside0.mk (Kd.C_below HR0_1.out HB.out); exact cQ q_); (case side2 => exact HC0_1.out); rintro e w9 ⟨rfl, hb⟩; refine ⟨_, rfl, ?_⟩; replace BK377 := bb BK377 hb; replace HB := Aside0.mk (below_step (beQ HB) hb); (try clear hb); (try clear hb2); (try clear hk); (try clear hi)))
   go_ret
   exact ⟨rz, beQ HB⟩
  ·rw [if_neg c6] at H
   have c6b0 : decide (t378 < 0) = false := decide_eq_false c6
   clear c6; replace H := Option.bind_eq_some_iff.mp H
   obtain ⟨⟨t379, t380⟩, A100, H⟩ := H
   replace H : ((laws_toInt64S.f k l1).bind fun t383 => ((spec_FoataForm.f k t379 t380 t383).bind fun bt386 => ((laws_toAlphabet.f k a0_0 l0_1).bind fun bt390 => ((laws_toInt64S.f k l1).bind fun t395 => ((impl_FoataForm.f k bt390.1 bt390.2 t395).bind fun bt398 => ((laws_eqInt64S.f k bt398.1 bt386.1).bind fun t402 => (if t402 = true then (laws_FnExactFoataForm.j0 k l1 bt386.1 bt386.2 t395 bt398.1 bt398.2 (bt398.2 != bt386.2) a0_0 l0_1 bt390.1 bt390.2) else (laws_FnExactFoataForm.j0 k l1 bt386.1 bt386.2 t395 bt398.1 bt398.2 true a0_0 l0_1 bt390.1 bt390.2)))))))) = some r := H
   have A10 := Aside0.mk A100; clear A100; replace H := Option.bind_eq_some_iff.mp H; obtain ⟨t383, A110, H⟩ := H
   replace H : ((spec_FoataForm.f k t379 t380 t383).bind fun bt386 => ((laws_toAlphabet.f k a0_0 l0_1).bind fun bt390 => ((laws_toInt64S.f k l1).bind fun t395 => ((impl_FoataForm.f k bt390.1 bt390.2 t395).bind fun bt398 => ((laws_eqInt64S.f k bt398.1 bt386.1).bind fun t402 => (if t402 = true then (laws_FnExactFoataForm.j0 k l1 bt386.1 bt386.2 t395 bt398.1 bt398.2 (bt398.2 != bt386.2) a0_0 l0_1 bt390.1 bt390.2) else (laws_FnExactFoataForm.j0 k l1 bt386.1 bt386.2 t395 bt398.1 bt398.2 true a0_0 l0_1 bt390.1 bt390.2))))))) = some r := H
   have A11 := Aside0.mk A110; clear A110; replace H := Option.bind_eq_some_iff.mp H
   obtain ⟨⟨t386, t389⟩, A120, H⟩ := H
   replace H : ((laws_toAlphabet.f k a0_0 l0_1).bind fun bt390 => ((laws_toInt64S.f k l1).bind fun t395 => ((impl_FoataForm.f k bt390.1 bt390.2 t395).bind fun bt398 => ((laws_eqInt64S.f k bt398.1 t386).bind fun t402 => (if t402 = true then (laws_FnExactFoataForm.j0 k l1 t386 t389 t395 bt398.1 bt398.2 (bt398.2 != t389) a0_0 l0_1 bt390.1 bt390.2) else (laws_FnExactFoataForm.j0 k l1 t386 t389 t395 bt398.1 bt398.2 true a0_0 l0_1 bt390.1 bt390.2)))))) = some r := H
   have A12 := Aside0.mk A120; clear A120; replace H := Option.bind_eq_some_iff.mp H
   obtain ⟨⟨t390, t391⟩, A130, H⟩ := H
   replace H : ((laws_toInt64S.f k l1).bind fun t395 => ((impl_FoataForm.f k t390 t391 t395).bind fun bt398 => ((laws_eqInt64S.f k bt398.1 t386).bind fun t402 => (if t402 = true then (laws_FnExactFoataForm.j0 k l1 t386 t389 t395 bt398.1 bt398.2 (bt398.2 != t389) a0_0 l0_1 t390 t391) else (laws_FnExactFoataForm.j0 k l1 t386 t389 t395 bt398.1 bt398.2 true a0_0 l0_1 t390 t391))))) = some r := H
   have A13 := Aside0.mk A130; clear A130; replace H := Option.bind_eq_some_iff.mp H; obtain ⟨t395, A140, H⟩ := H
   replace H : ((impl_FoataForm.f k t390 t391 t395).bind fun bt398 => ((laws_eqInt64S.f k bt398.1 t386).bind fun t402 => (if t402 = true then (laws_FnExactFoataForm.j0 k l1 t386 t389 t395 bt398.1 bt398.2 (bt398.2 != t389) a0_0 l0_1 t390 t391) else (laws_FnExactFoataForm.j0 k l1 t386 t389 t395 bt398.1 bt398.2 true a0_0 l0_1 t390 t391)))) = some r := H
   have A14 := Aside0.mk A140; clear A140; replace H := Option.bind_eq_some_iff.mp H
   obtain ⟨⟨t398, t401⟩, A150, H⟩ := H
   replace H : ((laws_eqInt64S.f k t398 t386).bind fun t402 => (if t402 = true then (laws_FnExactFoataForm.j0 k l1 t386 t389 t395 t398 t401 (t401 != t389) a0_0 l0_1 t390 t391) else (laws_FnExactFoataForm.j0 k l1 t386 t389 t395 t398 t401 true a0_0 l0_1 t390 t391))) = some r := H
   have A15 := Aside0.mk A150; clear A150; have HC16 := Aside0.mk H; clear H
   go_enter Tryd.func5, Tryd.ntmps5
   go_upto_region 11 with (first | ((with_reducible refine gate_dst (N := 2) rfl ?_); refine box_event ?hg (N := 2) ?hd (cs := #[.int .i64 a0_0, .slice A0_1 l0_1.length c0_1]) (t := 24) ?hr ?_; (case hd => rfl); (case hg => rfl); (case hr => first | (go_simp; done) | (go_simp; rfl)); intro gb377 hg w17 hbox hb; have BK377 := Aside0.mk (hbox); have GW377 := Aside0.mk ((by rw [hg]; exact (below_size (beQ HB)) : w.heap.size ≤ gb377)); have GE377 := Aside0.mk ((by rw [hg]; exact (below_size (beQ HB)) : w.heap.size ≤ gb377)); replace HB := Aside0.mk (below_step (beQ HB) hb); clear hb hbox hg; have hcz18_0 : w17.cell? ⟨gb377, 0, none⟩ = some (.int .i64 a0_0) := bc BK377 0; have hcz18_1 : w17.cell? ⟨gb377, 1, none⟩ = some (.slice A0_1 l0_1.length c0_1) := bc BK377 1; have hfz18_0 := blk_frozen BK377.out 0; have hfz18_1 := blk_frozen BK377.out 1) | ((with_reducible refine gate_callee (f := 15) rfl ?_); refine goesL_ (some 22) rfl rfl Tryd.func15 (by kernel_rfl) rfl #[.agg #[.int .i64 a0_0, .slice A0_1 l0_1.length c0_1], .int .i64 1048576] rfl lz ?_; (with_reducible refine (laws_szAlphabet.calls a0_0 _ _ l0_1 1048576 t378 _ ?side1 ?side2 A5.out).mono ?_); (case side1 => have q_ := Aside0.mk (Kd.C_below HR0_1.out HB.out); exact cQ q_); (case side2 => exact HC0_1.out); rintro e w19 ⟨rfl, hb⟩; refine ⟨_, rfl, ?_⟩; replace BK377 := bb BK377 hb; replace HB := Aside0.mk (below_step (beQ HB) hb); (try clear hb); (try clear hb2); (try clear hk); (try clear hi); have hcz20_0 : w19.cell? ⟨gb377, 0, none⟩ = some (.int .i64 a0_0) := bc BK377 0; have hcz20_1 : w19.cell? ⟨gb377, 1, none⟩ = some (.slice A0_1 l0_1.length c0_1) := bc BK377 1; have hfz20_0 := blk_frozen BK377.out 0; have hfz20_1 := blk_frozen BK377.out 1) | ((with_reducible refine gate_callee (f := 17) rfl ?_); refine goesL_ (some 27) rfl rfl Tryd.func17 (by kernel_rfl) rfl #[.agg #[.int .i64 a0_0, .slice A0_1 l0_1.length c0_1]] rfl lz ?_; (with_reducible refine (laws_toAlphabet.calls k a0_0 _ _ l0_1 t379 t380 _ ?side1 ?side2 A10.out).mono ?_); (case side1 => have q_ := Aside0.mk (Kd.C_below HR0_1.out HB.out); exact cQ q_); (case side2 => exact HC0_1.out); rintro e w21 ⟨v381, rfl, ho0, hb⟩; refine ⟨_, rfl, ?_⟩; have HO382 := Aside0.mk (Kd.R_lower ho0 (below_size (beQ HB))); replace BK377 := bb BK377 hb; replace HB := Aside0.mk (below_step (beQ HB) hb); (try clear hb); (try clear hb2); (try clear hk); (try clear hi); (try clear ho0)) | ((with_reducible refine gate_callee (f := 18) rfl ?_); refine goesL_ (some 29) rfl rfl Tryd.func18 (by kernel_rfl) rfl #[.slice A1 l1.length c1] rfl lz ?_; (with_reducible refine (laws_toInt64S.calls k _ _ l1 t383 _ ?side1 ?side2 A11.out).mono ?_); (case side1 => have q_ := Aside0.mk (Kd.C_below HR1.out HB.out); exact cQ q_); (case side2 => exact HC1.out); rintro e w22 ⟨v384, rfl, ho0, hb⟩; refine ⟨_, rfl, ?_⟩; have HO385 := Aside0.mk (Kd.R_lower (Kd.R_new' ho0 (Kd.R_lt (kdQ HO382))) (below_size (beQ HB))); replace HO382 := Aside0.mk (Kd.R_elder' (kdQ HO382) (Kd.R_base ho0) hb); replace BK377 := bb BK377 hb; replace HB := Aside0.mk (below_step (beQ HB) hb); (try clear hb); (try clear hb2); (try clear hk); (try clear hi); (try clear ho0); obtain ⟨Ao23, co23, eo23⟩ := Kd.R_slice HO382.out; subst eo23; obtain ⟨Ao24, co24, eo24⟩ := Kd.R_slice HO385.out; subst eo24) | ((with_reducible refine gate_callee (f := 27) rfl ?_); refine goesL_ (some 30) rfl rfl Tryd.func27 (by kernel_rfl) rfl #[.agg #[.int .i64 t379, .slice Ao23 t380.length co23], .slice Ao24 t383.length co24] rfl lz ?_; (with_reducible refine (spec_FoataForm.calls k t379 _ _ t380 _ _ t383 t386 t389 _ ?side1 ?side2 ?side3 ?side4 A12.out).mono ?_); (case side1 => have q_ := Aside0.mk (Kd.R_reads' HO382.out).2.2; exact cQ q_); (case side2 => exact (Kd.R_reads' HO382.out).2.1); (case side3 => have q_ := Aside0.mk (Kd.R_reads' HO385.out).2.2; exact cQ q_); (case side4 => exact (Kd.R_reads' HO385.out).2.1); rintro e w25 ⟨v387, rfl, ho0, hb⟩; refine ⟨_, rfl, ?_⟩; have HO388 := Aside0.mk (Kd.R_lower (Kd.R_new' (Kd.R_new' ho0 (Kd.R_lt (kdQ HO382))) (Kd.R_lt (kdQ HO385))) (below_size (beQ HB))); replace HO382 := Aside0.mk (Kd.R_elder' (kdQ HO382) (Kd.R_base ho0) hb); replace HO385 := Aside0.mk (Kd.R_elder' (kdQ HO385) (Kd.R_base ho0) hb); replace BK377 := bb BK377 hb; replace HB := Aside0.mk (below_step (beQ HB) hb); (try clear hb); (try clear hb2); (try clear hk); (try clear hi); (try clear ho0); have hcz26_0 : w25.cell? ⟨gb377, 0, none⟩ = some (.int .i64 a0_0) := bc BK377 0; have hcz26_1 : w25.cell? ⟨gb377, 1, none⟩ = some (.slice A0_1 l0_1.length c0_1) := bc BK377 1; have hfz26_0 := blk_frozen BK377.out 0; have hfz26_1 := blk_frozen BK377.out 1) | ((with_reducible refine gate_callee (f := 17) rfl ?_); refine goesL_ (some 34) rfl rfl Tryd.func17 (by kernel_rfl) rfl #[.agg #[.int .i64 a0_0, .slice A0_1 l0_1.length c0_1]] rfl lz ?_; (with_reducible refine (laws_toAlphabet.calls k a0_0 _ _ l0_1 t390 t391 _ ?side1 ?side2 A13.out).mono ?_); (case side1 => have q_ := Aside0.mk (Kd.C_below HR0_1.out HB.out); exact cQ q_); (case side2 => exact HC0_1.out); rintro e w27 ⟨v392, rfl, ho0, hb⟩; refine ⟨_, rfl, ?_⟩; have HO393 := Aside0.mk (Kd.R_lower (Kd.R_new' (Kd.R_new' (Kd.R_new' ho0 (Kd.R_lt (kdQ HO382))) (Kd.R_lt (kdQ HO385))) (Kd.R_lt (kdQ HO388))) (below_size (beQ HB))); replace HO382 := Aside0.mk (Kd.R_elder' (kdQ HO382) (Kd.R_base ho0) hb); replace HO385 := Aside0.mk (Kd.R_elder' (kdQ HO385) (Kd.R_base ho0) hb); replace HO388 := Aside0.mk (Kd.R_elder' (kdQ HO388) (Kd.R_base ho0) hb); replace BK377 := bb BK377 hb; replace HB := Aside0.mk (below_step (beQ HB) hb); (try clear hb); (try clear hb2); (try clear hk); (try clear hi); (try clear ho0)) | ((with_reducible refine gate_dst (N := 8) rfl ?_); refine box_event ?hg (N := 8) ?hd (cs := #[.int .i64 0, .slice none 0 0]) (t := 28) ?hr ?_; (case hd => rfl); (case hg => rfl); (case hr => first | (go_simp; done) | (go_simp; rfl)); intro gb394 hg w28 hbox hb; replace HO382 := kb HO382 hb; replace HO385 := kb HO385 hb; replace HO388 := kb HO388 hb; replace HO393 := kb HO393 hb; have BK394 := Aside0.mk (hbox); have GW394 := Aside0.mk ((by rw [hg]; exact (below_size (beQ HB)) : w.heap.size ≤ gb394)); have GE394 := Aside0.mk ((by rw [hg]; exact (below_size (beQ HB)) : w.heap.size ≤ gb394)); replace HB := Aside0.mk (below_step (beQ HB) hb); have NB377_394 := Aside0.mk ((by rw [hg]; exact Nat.ne_of_lt (blk_lt (blkQ BK377)) : gb377 ≠ gb394)); have NB394_377 := Aside0.mk ((by rw [hg]; exact Nat.ne_of_gt (blk_lt (blkQ BK377)) : gb394 ≠ gb377)); replace BK377 := bb BK377 hb; clear hb hbox hg; have hnb29 := NB394_377.out; have hnc29 := NB377_394.out; have hcz30_0 : w28.cell? ⟨gb394, 0, none⟩ = some (.int .i64 0) := bc BK394 0; have hcz30_1 : w28.cell? ⟨gb394, 1, none⟩ = some (.slice none 0 0) := bc BK394 1; have hfz30_0 := blk_frozen BK394.out 0; have hfz30_1 := blk_frozen BK394.out 1; obtain ⟨Ao31, co31, eo31⟩ := Kd.R_slice HO393.out; subst eo31) | ((with_reducible refine gate_callee (f := 18) rfl ?_); refine goesL_ (some 36) rfl rfl Tryd.func18 (by kernel_rfl) rfl #[.slice A1 l1.length c1] rfl lz ?_; (with_reducible refine (laws_toInt64S.calls k _ _ l1 t395 _ ?side1 ?side2 A14.out).mono ?_); (case side1 => exact Kd.C_below HR1.out (beQ HB)); (case side2 => exact HC1.out); rintro e w32 ⟨v396, rfl, ho0, hb⟩; refine ⟨_, rfl, ?_⟩; have HO397 := Aside0.mk (Kd.R_lower (Kd.R_new' (Kd.R_new' (Kd.R_new' (Kd.R_new' ho0 (Kd.R_lt (by (with_reducible repeat (first | apply Kd.R_alloc | apply Kd.R_drewN | apply Kd.R_drew)); exact (Kd.R_mono (Kd.R_far (p := ⟨gb394, 1, none⟩) (Kd.R_far (p := ⟨gb394, 0, none⟩) (Kd.R_types HO382.out BK394.out (by decide)) (fun _ hk => hk.2) (.int .i64 t390)) (fun _ hk => hk.2) (.slice Ao31 t391.length co31)) (fun _ h_ => h_.1))))) (Kd.R_lt (by (with_reducible repeat (first | apply Kd.R_alloc | apply Kd.R_drewN | apply Kd.R_drew)); exact (Kd.R_mono (Kd.R_far (p := ⟨gb394, 1, none⟩) (Kd.R_far (p := ⟨gb394, 0, none⟩) (Kd.R_types HO385.out BK394.out (by decide)) (fun _ hk => hk.2) (.int .i64 t390)) (fun _ hk => hk.2) (.slice Ao31 t391.length co31)) (fun _ h_ => h_.1))))) (Kd.R_lt (by (with_reducible repeat (first | apply Kd.R_alloc | apply Kd.R_drewN | apply Kd.R_drew)); exact (Kd.R_mono (Kd.R_far (p := ⟨gb394, 1, none⟩) (Kd.R_far (p := ⟨gb394, 0, none⟩) (Kd.R_types HO388.out BK394.out (by decide)) (fun _ hk => hk.2) (.int .i64 t390)) (fun _ hk => hk.2) (.slice Ao31 t391.length co31)) (fun _ h_ => h_.1))))) (Kd.R_lt (by (with_reducible repeat (first | apply Kd.R_alloc | apply Kd.R_drewN | apply Kd.R_drew)); exact (Kd.R_mono (Kd.R_far (p := ⟨gb394, 1, none⟩) (Kd.R_far (p := ⟨gb394, 0, none⟩) (Kd.R_types HO393.out BK394.out (by decide)) (fun _ hk => hk.2) (.int .i64 t390)) (fun _ hk => hk.2) (.slice Ao31 t391.length co31)) (fun _ h_ => h_.1))))) (below_size (beQ HB))); replace HO382 := Aside0.mk (Kd.R_elder' (by (with_reducible repeat (first | apply Kd.R_alloc | apply Kd.R_drewN | apply Kd.R_drew)); exact (Kd.R_mono (Kd.R_far (p := ⟨gb394, 1, none⟩) (Kd.R_far (p := ⟨gb394, 0, none⟩) (Kd.R_types HO382.out BK394.out (by decide)) (fun _ hk => hk.2) (.int .i64 t390)) (fun _ hk => hk.2) (.slice Ao31 t391.length co31)) (fun _ h_ => h_.1))) (Kd.R_base ho0) hb); replace HO385 := Aside0.mk (Kd.R_elder' (by (with_reducible repeat (first | apply Kd.R_alloc | apply Kd.R_drewN | apply Kd.R_drew)); exact (Kd.R_mono (Kd.R_far (p := ⟨gb394, 1, none⟩) (Kd.R_far (p := ⟨gb394, 0, none⟩) (Kd.R_types HO385.out BK394.out (by decide)) (fun _ hk => hk.2) (.int .i64 t390)) (fun _ hk => hk.2) (.slice Ao31 t391.length co31)) (fun _ h_ => h_.1))) (Kd.R_base ho0) hb); replace HO388 := Aside0.mk (Kd.R_elder' (by (with_reducible repeat (first | apply Kd.R_alloc | apply Kd.R_drewN | apply Kd.R_drew)); exact (Kd.R_mono (Kd.R_far (p := ⟨gb394, 1, none⟩) (Kd.R_far (p := ⟨gb394, 0, none⟩) (Kd.R_types HO388.out BK394.out (by decide)) (fun _ hk => hk.2) (.int .i64 t390)) (fun _ hk => hk.2) (.slice Ao31 t391.length co31)) (fun _ h_ => h_.1))) (Kd.R_base ho0) hb); replace HO393 := Aside0.mk (Kd.R_elder' (by (with_reducible repeat (first | apply Kd.R_alloc | apply Kd.R_drewN | apply Kd.R_drew)); exact (Kd.R_mono (Kd.R_far (p := ⟨gb394, 1, none⟩) (Kd.R_far (p := ⟨gb394, 0, none⟩) (Kd.R_types HO393.out BK394.out (by decide)) (fun _ hk => hk.2) (.int .i64 t390)) (fun _ hk => hk.2) (.slice Ao31 t391.length co31)) (fun _ h_ => h_.1))) (Kd.R_base ho0) hb); replace BK377 := Aside0.mk (blk_below (blkF BK377) hb); replace BK394 := Aside0.mk (blk_below (g := gb394) (o := .cells #[.int .i64 t390, .slice Ao31 t391.length co31] 28 (0, 0)) (by (with_reducible repeat (first | refine blk_drewN ?_ _ | refine blk_drew ?_ | refine blk_alloc ?_ _)); refine blk_put (cs := #[.int .i64 t390, .slice none 0 0]) ?_ 1 _ rfl; (with_reducible repeat (first | refine blk_drewN ?_ _ | refine blk_drew ?_ | refine blk_alloc ?_ _)); refine blk_put (cs := #[.int .i64 0, .slice none 0 0]) ?_ 0 _ rfl; (with_reducible repeat (first | refine blk_drewN ?_ _ | refine blk_drew ?_ | refine blk_alloc ?_ _)); exact BK394.out) hb); replace HB := Aside0.mk (below_step (beQ HB) hb); (try clear hb); (try clear hb2); (try clear hk); (try clear hi); (try clear ho0); have hcz33_0 : w32.cell? ⟨gb394, 0, none⟩ = some (.int .i64 t390) := bc BK394 0; have hcz33_1 : w32.cell? ⟨gb394, 1, none⟩ = some (.slice Ao31 t391.length co31) := bc BK394 1; have hfz33_0 := blk_frozen BK394.out 0; have hfz33_1 := blk_frozen BK394.out 1; obtain ⟨Ao34, co34, eo34⟩ := Kd.R_slice HO397.out; subst eo34) | ((with_reducible refine gate_callee (f := 28) rfl ?_); refine goesL_ (some 40) rfl rfl Tryd.func28 (by kernel_rfl) rfl #[.agg #[.int .i64 t390, .slice Ao31 t391.length co31], .slice Ao34 t395.length co34] rfl lz ?_; (with_reducible refine (impl_FoataForm.calls k t390 _ _ t391 (fun k_ => some k_ = (.slice Ao34 t395.length co34 : Value).ownBlock) _ _ t395 t398 t401 _ ?side1 ?side2 ?side3 ?side4 A15.out).mono ?_); (case side1 => have q_ := Aside0.mk (Kd.R_reads' HO393.out).2.2; exact cQ q_); (case side2 => exact (Kd.R_reads' HO393.out).2.1); (case side3 => exact Kd.R_V (Kd.R_tight rfl (Kd.R_types (Kd.R_types (HO397.out) BK377.out (by decide)) BK394.out (by decide)))); (case side4 => exact TabW.below HT.out (beQ HB)); rintro e w35 ⟨v399, rfl, ho0, hb⟩; refine ⟨_, rfl, ?_⟩; have HO400 := Aside0.mk (Kd.R_lower (Kd.R_new' (Kd.R_new' (Kd.R_new' (Kd.R_new' (Kd.R_new' (Kd.R_mono (ok' := fun k_ => True) ho0 (fun _ hk_ => trivial)) (Kd.R_lt (kdQ HO382))) (Kd.R_lt (kdQ HO385))) (Kd.R_lt (kdQ HO388))) (Kd.R_lt (kdQ HO393))) (Kd.R_lt (kdQ HO397))) (below_size (beQ HB))); replace HO382 := Aside0.mk (Kd.R_elder' (kdQ HO382) (Kd.R_base ho0) hb); replace HO385 := Aside0.mk (Kd.R_elder' (kdQ HO385) (Kd.R_base ho0) hb); replace HO388 := Aside0.mk (Kd.R_elder' (kdQ HO388) (Kd.R_base ho0) hb); replace HO393 := Aside0.mk (Kd.R_elder' (kdQ HO393) (Kd.R_base ho0) hb); replace HO397 := Aside0.mk (Kd.R_elder' (kdQ HO397) (Kd.R_base ho0) hb); replace BK377 := bb BK377 hb; replace BK394 := bb BK394 hb; replace HB := Aside0.mk (below_step (beQ HB) hb); (try clear hb); (try clear hb2); (try clear hk); (try clear hi); (try clear ho0)))
   (try simp only [Act.put, List.setIfInBounds_toArray, List.set_cons_zero, List.set_cons_succ])
   go_cut [51] (fun v51 wc => ∃ (kq : Nat) (x51_15 : Bool), v51 = .bool x51_15 ∧ Aside0 (laws_FnExactFoataForm.j0 kq l1 t386 t389 t395 t398 t401 x51_15 a0_0 l0_1 t390 t391 = some r) ∧ Aside0 (kq ≤ k) ∧ Aside0 (Kd.R (Kd.int .i64) 2 wc w.heap.size (fun k_ => some k_ ≠ ((.slice Ao34 t395.length co34) : Value).ownBlock ∧ some k_ ≠ (v399 : Value).ownBlock ∧ some k_ ≠ ((.slice Ao31 t391.length co31) : Value).ownBlock) v387 t386) ∧ Aside0 (Kd.R (Kd.int .i64) 2 wc w.heap.size (fun k_ => some k_ ≠ (v387 : Value).ownBlock ∧ some k_ ≠ (v399 : Value).ownBlock ∧ some k_ ≠ ((.slice Ao31 t391.length co31) : Value).ownBlock) (.slice Ao34 t395.length co34) t395) ∧ Aside0 (Kd.R (Kd.int .i64) 2 wc w.heap.size (fun k_ => some k_ ≠ (v387 : Value).ownBlock ∧ some k_ ≠ ((.slice Ao34 t395.length co34) : Value).ownBlock ∧ some k_ ≠ ((.slice Ao31 t391.length co31) : Value).ownBlock) v399 t398) ∧ Aside0 (Kd.R (Kd.int .i64) 2 wc w.heap.size (fun k_ => some k_ ≠ (v387 : Value).ownBlock ∧ some k_ ≠ ((.slice Ao34 t395.length co34) : Value).ownBlock ∧ some k_ ≠ (v399 : Value).ownBlock) (.slice Ao31 t391.length co31) t391) ∧ Aside0 (wc.heap[gb377]? = some (.cells #[.int .i64 a0_0, (.slice A0_1 l0_1.length c0_1)] 24 (0, 0))) ∧ Aside0 (wc.heap[gb394]? = some (.cells #[.int .i64 t390, (.slice Ao31 t391.length co31)] 28 (0, 0))) ∧ Aside0 (Below w.heap.size w wc))
   case first =>
    have H := HC16.out; clear HC16; replace H := Option.bind_eq_some_iff.mp H; obtain ⟨t402, A360, H⟩ := H
    replace H : (if t402 = true then (laws_FnExactFoataForm.j0 k l1 t386 t389 t395 t398 t401 (t401 != t389) a0_0 l0_1 t390 t391) else (laws_FnExactFoataForm.j0 k l1 t386 t389 t395 t398 t401 true a0_0 l0_1 t390 t391)) = some r := H
    have A36 := Aside0.mk A360; clear A360
    by_cases c37 : t402 = true
    ·subst c37
     have H1 : (laws_FnExactFoataForm.j0 k l1 t386 t389 t395 t398 t401 (t401 != t389) a0_0 l0_1 t390 t391) = some r := by rw [if_pos rfl] at H; exact H
     clear H; have H := H1; clear H1
     have H' := Aside0.mk H
     clear H; obtain ⟨Ao38, co38, eo38⟩ := Kd.R_slice HO400.out; subst eo38; obtain ⟨Ao39, co39, eo39⟩ := Kd.R_slice HO388.out; subst eo39
     go_wp2_with (first | ((with_reducible refine gate_callee (f := 21) rfl ?_); refine goesL_ (some 45) rfl rfl Tryd.func21 (by kernel_rfl) rfl #[.slice Ao38 t398.length co38, .slice Ao39 t386.length co39] rfl lz ?_; (with_reducible refine (laws_eqInt64S.calls k _ _ t398 _ _ t386 true _ ?side1 ?side2 ?side3 ?side4 A36.out).mono ?_); (case side1 => have q_ := Aside0.mk (Kd.R_reads' HO400.out).2.2; exact cQ q_); (case side2 => exact (Kd.R_reads' HO400.out).2.1); (case side3 => have q_ := Aside0.mk (Kd.R_reads' HO388.out).2.2; exact cQ q_); (case side4 => exact (Kd.R_reads' HO388.out).2.1); rintro e w' ⟨rfl, ⟨nd, rfl⟩⟩; refine ⟨_, rfl, ?_⟩))
     go_meet
     case rel => exact ⟨_, ((t401 != t389)), sz, H', ⟨by first | omega | exact Nat.le_refl _⟩, ⟨by (with_reducible repeat (first | apply Kd.R_alloc | apply Kd.R_drewN | apply Kd.R_drew)); exact Kd.R_mono HO388.out (fun _ hk => ⟨hk.1.2, ⟨hk.2, hk.1.1.2⟩⟩)⟩, ⟨by (with_reducible repeat (first | apply Kd.R_alloc | apply Kd.R_drewN | apply Kd.R_drew)); exact Kd.R_mono HO397.out (fun _ hk => ⟨hk.1.1.2, ⟨hk.2, hk.1.2⟩⟩)⟩, ⟨by (with_reducible repeat (first | apply Kd.R_alloc | apply Kd.R_drewN | apply Kd.R_drew)); exact Kd.R_mono HO400.out (fun _ hk => ⟨hk.1.1.2, ⟨hk.2, hk.1.2⟩⟩)⟩, ⟨by (with_reducible repeat (first | apply Kd.R_alloc | apply Kd.R_drewN | apply Kd.R_drew)); exact Kd.R_mono HO393.out (fun _ hk => ⟨hk.1.1.2, ⟨hk.1.2, hk.2⟩⟩)⟩, ⟨blkQ BK377⟩, ⟨blkQ BK394⟩, ⟨beQ HB⟩⟩
    ·replace c37 := Bool.eq_false_iff.mpr c37
     subst c37
     have H1 : (laws_FnExactFoataForm.j0 k l1 t386 t389 t395 t398 t401 true a0_0 l0_1 t390 t391) = some r := by rw [if_neg (show ¬ (false = true) by decide)] at H; exact H
     clear H; have H := H1; clear H1
     have H' := Aside0.mk H
     clear H; obtain ⟨Ao40, co40, eo40⟩ := Kd.R_slice HO400.out; subst eo40; obtain ⟨Ao41, co41, eo41⟩ := Kd.R_slice HO388.out; subst eo41
     go_wp2_with (first | ((with_reducible refine gate_callee (f := 21) rfl ?_); refine goesL_ (some 45) rfl rfl Tryd.func21 (by kernel_rfl) rfl #[.slice Ao40 t398.length co40, .slice Ao41 t386.length co41] rfl lz ?_; (with_reducible refine (laws_eqInt64S.calls k _ _ t398 _ _ t386 false _ ?side1 ?side2 ?side3 ?side4 A36.out).mono ?_); (case side1 => have q_ := Aside0.mk (Kd.R_reads' HO400.out).2.2; exact cQ q_); (case side2 => exact (Kd.R_reads' HO400.out).2.1); (case side3 => have q_ := Aside0.mk (Kd.R_reads' HO388.out).2.2; exact cQ q_); (case side4 => exact (Kd.R_reads' HO388.out).2.1); rintro e w' ⟨rfl, ⟨nd, rfl⟩⟩; refine ⟨_, rfl, ?_⟩))
     go_meet
     case rel => exact ⟨_, (true), sz, H', ⟨by first | omega | exact Nat.le_refl _⟩, ⟨by (with_reducible repeat (first | apply Kd.R_alloc | apply Kd.R_drewN | apply Kd.R_drew)); exact Kd.R_mono HO388.out (fun _ hk => ⟨hk.1.2, ⟨hk.2, hk.1.1.2⟩⟩)⟩, ⟨by (with_reducible repeat (first | apply Kd.R_alloc | apply Kd.R_drewN | apply Kd.R_drew)); exact Kd.R_mono HO397.out (fun _ hk => ⟨hk.1.1.2, ⟨hk.2, hk.1.2⟩⟩)⟩, ⟨by (with_reducible repeat (first | apply Kd.R_alloc | apply Kd.R_drewN | apply Kd.R_drew)); exact Kd.R_mono HO400.out (fun _ hk => ⟨hk.1.1.2, ⟨hk.2, hk.1.2⟩⟩)⟩, ⟨by (with_reducible repeat (first | apply Kd.R_alloc | apply Kd.R_drewN | apply Kd.R_drew)); exact Kd.R_mono HO393.out (fun _ hk => ⟨hk.1.1.2, ⟨hk.1.2, hk.2⟩⟩)⟩, ⟨blkQ BK377⟩, ⟨blkQ BK394⟩, ⟨beQ HB⟩⟩
   case rest =>
    clear HC16
    try clear c1
    try clear c2
    try clear p2
    try clear c3
    try clear c3b0
    try clear c3b1
    try clear c5
    try clear c6
    try clear c6b0
    try clear c15
    try clear c17
    try clear c18
    try clear c21
    try clear c27
    try clear c28
    try clear c29
    try clear c37
    try clear hcz18_0
    try clear hcz18_1
    try clear hcz20_0
    try clear hcz20_1
    try clear hcz26_0
    try clear hcz26_1
    try clear hcz30_0
    try clear hcz30_1
    try clear hcz33_0
    try clear hcz33_1
    try clear hcz8_0
    try clear hcz8_1
    try clear hfz18_0
    try clear hfz18_1
    try clear hfz20_0
    try clear hfz20_1
    try clear hfz26_0
    try clear hfz26_1
    try clear hfz30_0
    try clear hfz30_1
    try clear hfz33_0
    try clear hfz33_1
    try clear hfz8_0
    try clear hfz8_1
    obtain ⟨kq, x51_15, rfl, HA, HJ15, HO_6, HO_9, HO_10, HO_395001, BK377, BK394, HB⟩ := hcut
    cases kq with
    | zero => exact absurd HA.out (by simp [laws_FnExactFoataForm.j0])
    | succ kj15 =>
     have H := HA.out; clear HA
     simp only [laws_FnExactFoataForm.j0] at H
     by_cases c42 : x51_15 = true
     ·subst c42
      have H1 : (some false) = some r := by rw [if_pos rfl] at H; exact H
      clear H; have H := H1; clear H1
      obtain rfl := Option.some.inj H
      go_wp2
      go_ret
      exact ⟨rz, beQ HB⟩
     ·replace c42 := Bool.eq_false_iff.mpr c42
      subst c42
      have H1 : ((laws_toAlphabet.f kj15 a0_0 l0_1).bind fun bt403 => ((laws_eqAlphabet.f kj15 t390 t391 bt403.1 bt403.2).bind fun t407 => (if t407 = true then ((laws_toInt64S.f kj15 l1).bind fun t408 => ((laws_eqInt64S.f kj15 t395 t408).bind fun t411 => (if t411 = true then ((laws_markAlphabet.f kj15 t390 t391 1).bind fun bt412 => ((laws_markInt64S.f kj15 t395 bt412.1).bind fun bt414 => (if bt414.1 < 0 then (laws_FnExactFoataForm.j1 kj15 l1 t386 t389 t398 true a0_0 l0_1) else ((laws_eqInt64S.f kj15 t398 t386).bind fun t416 => (if t416 = true then (laws_FnExactFoataForm.j1 kj15 l1 t386 t389 t398 (t401 != t389) a0_0 l0_1) else (laws_FnExactFoataForm.j1 kj15 l1 t386 t389 t398 true a0_0 l0_1)))))) else (some false)))) else (some false)))) = some r := by rw [if_neg (show ¬ (false = true) by decide)] at H; exact H
      clear H; have H := H1; clear H1; replace H := Option.bind_eq_some_iff.mp H
      obtain ⟨⟨t403, t404⟩, A430, H⟩ := H
      replace H : ((laws_eqAlphabet.f kj15 t390 t391 t403 t404).bind fun t407 => (if t407 = true then ((laws_toInt64S.f kj15 l1).bind fun t408 => ((laws_eqInt64S.f kj15 t395 t408).bind fun t411 => (if t411 = true then ((laws_markAlphabet.f kj15 t390 t391 1).bind fun bt412 => ((laws_markInt64S.f kj15 t395 bt412.1).bind fun bt414 => (if bt414.1 < 0 then (laws_FnExactFoataForm.j1 kj15 l1 t386 t389 t398 true a0_0 l0_1) else ((laws_eqInt64S.f kj15 t398 t386).bind fun t416 => (if t416 = true then (laws_FnExactFoataForm.j1 kj15 l1 t386 t389 t398 (t401 != t389) a0_0 l0_1) else (laws_FnExactFoataForm.j1 kj15 l1 t386 t389 t398 true a0_0 l0_1)))))) else (some false)))) else (some false))) = some r := H
      have A43 := Aside0.mk A430; clear A430; replace H := Option.bind_eq_some_iff.mp H; obtain ⟨t407, A440, H⟩ := H
      replace H : (if t407 = true then ((laws_toInt64S.f kj15 l1).bind fun t408 => ((laws_eqInt64S.f kj15 t395 t408).bind fun t411 => (if t411 = true then ((laws_markAlphabet.f kj15 t390 t391 1).bind fun bt412 => ((laws_markInt64S.f kj15 t395 bt412.1).bind fun bt414 => (if bt414.1 < 0 then (laws_FnExactFoataForm.j1 kj15 l1 t386 t389 t398 true a0_0 l0_1) else ((laws_eqInt64S.f kj15 t398 t386).bind fun t416 => (if t416 = true then (laws_FnExactFoataForm.j1 kj15 l1 t386 t389 t398 (t401 != t389) a0_0 l0_1) else (laws_FnExactFoataForm.j1 kj15 l1 t386 t389 t398 true a0_0 l0_1)))))) else (some false)))) else (some false)) = some r := H
      have A44 := Aside0.mk A440; clear A440
      by_cases c45 : t407 = true
      ·subst c45
       have H1 : ((laws_toInt64S.f kj15 l1).bind fun t408 => ((laws_eqInt64S.f kj15 t395 t408).bind fun t411 => (if t411 = true then ((laws_markAlphabet.f kj15 t390 t391 1).bind fun bt412 => ((laws_markInt64S.f kj15 t395 bt412.1).bind fun bt414 => (if bt414.1 < 0 then (laws_FnExactFoataForm.j1 kj15 l1 t386 t389 t398 true a0_0 l0_1) else ((laws_eqInt64S.f kj15 t398 t386).bind fun t416 => (if t416 = true then (laws_FnExactFoataForm.j1 kj15 l1 t386 t389 t398 (t401 != t389) a0_0 l0_1) else (laws_FnExactFoataForm.j1 kj15 l1 t386 t389 t398 true a0_0 l0_1)))))) else (some false)))) = some r := by rw [if_pos rfl] at H; exact H
       clear H; have H := H1; clear H1; replace H := Option.bind_eq_some_iff.mp H; obtain ⟨t408, A460, H⟩ := H
       replace H : ((laws_eqInt64S.f kj15 t395 t408).bind fun t411 => (if t411 = true then ((laws_markAlphabet.f kj15 t390 t391 1).bind fun bt412 => ((laws_markInt64S.f kj15 t395 bt412.1).bind fun bt414 => (if bt414.1 < 0 then (laws_FnExactFoataForm.j1 kj15 l1 t386 t389 t398 true a0_0 l0_1) else ((laws_eqInt64S.f kj15 t398 t386).bind fun t416 => (if t416 = true then (laws_FnExactFoataForm.j1 kj15 l1 t386 t389 t398 (t401 != t389) a0_0 l0_1) else (laws_FnExactFoataForm.j1 kj15 l1 t386 t389 t398 true a0_0 l0_1)))))) else (some false))) = some r := H
       have A46 := Aside0.mk A460; clear A460; replace H := Option.bind_eq_some_iff.mp H; obtain ⟨t411, A470, H⟩ := H
       replace H : (if t411 = true then ((laws_markAlphabet.f kj15 t390 t391 1).bind fun bt412 => ((laws_markInt64S.f kj15 t395 bt412.1).bind fun bt414 => (if bt414.1 < 0 then (laws_FnExactFoataForm.j1 kj15 l1 t386 t389 t398 true a0_0 l0_1) else ((laws_eqInt64S.f kj15 t398 t386).bind fun t416 => (if t416 = true then (laws_FnExactFoataForm.j1 kj15 l1 t386 t389 t398 (t401 != t389) a0_0 l0_1) else (laws_FnExactFoataForm.j1 kj15 l1 t386 t389 t398 true a0_0 l0_1)))))) else (some false)) = some r := H
       have A47 := Aside0.mk A470; clear A470
       by_cases c48 : t411 = true
       ·subst c48
        have H1 : ((laws_markAlphabet.f kj15 t390 t391 1).bind fun bt412 => ((laws_markInt64S.f kj15 t395 bt412.1).bind fun bt414 => (if bt414.1 < 0 then (laws_FnExactFoataForm.j1 kj15 l1 t386 t389 t398 true a0_0 l0_1) else ((laws_eqInt64S.f kj15 t398 t386).bind fun t416 => (if t416 = true then (laws_FnExactFoataForm.j1 kj15 l1 t386 t389 t398 (t401 != t389) a0_0 l0_1) else (laws_FnExactFoataForm.j1 kj15 l1 t386 t389 t398 true a0_0 l0_1)))))) = some r := by rw [if_pos rfl] at H; exact H
        clear H; have H := H1; clear H1; replace H := Option.bind_eq_some_iff.mp H
        obtain ⟨⟨t412, t413⟩, A490, H⟩ := H
        replace H : ((laws_markInt64S.f kj15 t395 t412).bind fun bt414 => (if bt414.1 < 0 then (laws_FnExactFoataForm.j1 kj15 l1 t386 t389 t398 true a0_0 l0_1) else ((laws_eqInt64S.f kj15 t398 t386).bind fun t416 => (if t416 = true then (laws_FnExactFoataForm.j1 kj15 l1 t386 t389 t398 (t401 != t389) a0_0 l0_1) else (laws_FnExactFoataForm.j1 kj15 l1 t386 t389 t398 true a0_0 l0_1))))) = some r := H
        have A49 := Aside0.mk A490; clear A490; replace H := Option.bind_eq_some_iff.mp H
        obtain ⟨⟨t414, t415⟩, A500, H⟩ := H
        replace H : (if t414 < 0 then (laws_FnExactFoataForm.j1 kj15 l1 t386 t389 t398 true a0_0 l0_1) else ((laws_eqInt64S.f kj15 t398 t386).bind fun t416 => (if t416 = true then (laws_FnExactFoataForm.j1 kj15 l1 t386 t389 t398 (t401 != t389) a0_0 l0_1) else (laws_FnExactFoataForm.j1 kj15 l1 t386 t389 t398 true a0_0 l0_1)))) = some r := H
        have A50 := Aside0.mk A500; clear A500; have HC51 := Aside0.mk H; clear H
        try go_wp2
        replace HO_6 := Aside0.mk (Kd.R_drew HO_6.out); replace HO_9 := Aside0.mk (Kd.R_drew HO_9.out); replace HO_10 := Aside0.mk (Kd.R_drew HO_10.out); replace HO_395001 := Aside0.mk (Kd.R_drew HO_395001.out); replace BK377 := Aside0.mk (blk_drew BK377.out); replace BK394 := Aside0.mk (blk_drew BK394.out); replace HB := Aside0.mk (below_drew1 HB.out)
        refine start_ (n := 5) (S := fun w' => w'.cell? ⟨gb394, 0, none⟩ = some (.int .i64 t390) ∧ w'.cell? ⟨gb394, 1, none⟩ = some (.slice Ao31 t391.length co31) ∧ w'.cell? ⟨gb377, 0, none⟩ = some (.int .i64 a0_0) ∧ w'.cell? ⟨gb377, 1, none⟩ = some (.slice A0_1 l0_1.length c0_1)) (ds := []) #[false, false, false, false, false] (by kernel_rfl) rfl rfl ⟨bc BK394 0, bc BK394 1, bc BK377 0, bc BK377 1⟩ (fun hHeld => ?_)
        generalize wc.drew = w52 at HO_6 HO_9 HO_10 HO_395001 BK377 BK394 HB hHeld ⊢
        refine take_ (i := 0) (N := some 52) (v := ?_) (a' := ?_) #[true, false, false, false, false] rfl rfl (by kernel_rfl) (fun _ _ _ h => h) (Or.inl ⟨by rfl, ?_⟩) hHeld ?_ ?_
        rotate_left
        ·rintro w' ⟨s0, s1, s2, s3⟩
         go_simp
         with_reducible rfl
        rotate_left
        ·simp only [Act.put, s1, s2, s3, i64_w, i32_w]
         rfl
        refine take_ (i := 1) (N := some 53) (v := ?_) (a' := ?_) #[true, true, false, false, false] rfl rfl (by kernel_rfl) (fun _ _ _ h => h) (Or.inl ⟨by rfl, ?_⟩) hHeld ?_ ?_
        rotate_left
        ·rintro w' ⟨s0, s1, s2, s3⟩
         go_simp
         with_reducible rfl
        rotate_left
        ·simp only [Act.put, s1, s2, s3, i64_w, i32_w]
         rfl
        refine one_ (i := 2) (N := some 54) #[true, true, true, false, false] rfl rfl (by kernel_rfl) (by decide) (fun K hK => ?_)
        refine goes_ Tryd.func17 (by kernel_rfl) rfl #[.agg #[.int .i64 a0_0, .slice A0_1 l0_1.length c0_1]] (by rfl) rfl rfl lz ?_
        with_reducible refine (laws_toAlphabet.calls kj15 a0_0 _ _ l0_1 t403 t404 _ ?side1 ?side2 A43.out).mono ?_
        (case side1 => have q_ := Aside0.mk (Kd.C_below HR0_1.out HB.out); exact cQ q_)
        (case side2 => exact HC0_1.out)
        rintro e w53 ⟨v405, rfl, ho0, hb⟩
        refine ⟨_, rfl, ?_⟩
        have HO406 := Aside0.mk (Kd.R_lower (Kd.R_new' (Kd.R_new' (Kd.R_new' (Kd.R_new' ho0 (Kd.R_lt (kdQ HO_6))) (Kd.R_lt (kdQ HO_9))) (Kd.R_lt (kdQ HO_10))) (Kd.R_lt (kdQ HO_395001))) (below_size (beQ HB))); replace HO_6 := Aside0.mk (Kd.R_elder' (kdQ HO_6) (Kd.R_base ho0) hb); replace HO_9 := Aside0.mk (Kd.R_elder' (kdQ HO_9) (Kd.R_base ho0) hb); replace HO_10 := Aside0.mk (Kd.R_elder' (kdQ HO_10) (Kd.R_base ho0) hb); replace HO_395001 := Aside0.mk (Kd.R_elder' (kdQ HO_395001) (Kd.R_base ho0) hb); replace BK377 := bb BK377 hb; replace BK394 := bb BK394 hb; replace HB := Aside0.mk (below_step (beQ HB) hb)
        (try clear hb)
        (try clear hb2)
        (try clear hk)
        (try clear hi)
        (try clear ho0)
        obtain ⟨Ao54, co54, eo54⟩ := Kd.R_slice HO406.out
        (first | subst eo54 | (injection eo54 with f1_ f2_ f3_; have f4_ := f1_.symm; have f5_ := f3_.symm; clear f1_ f2_ f3_; subst f4_; subst f5_))
        refine hK.out _ _ ⟨bc BK394 0, bc BK394 1, bc BK377 0, bc BK377 1⟩ (fun hHeld => ?_)
        clear hK K
        refine norm_ (a' := ?_) ?_ ?_
        rotate_left
        ·show Act.put _ (some 54) _ = _
         simp only [Act.put, s1, s2, s3, i64_w, i32_w]
         rfl
        refine one_ (i := 3) (N := some 55) #[true, true, true, true, false] rfl rfl (by kernel_rfl) (by decide) (fun K hK => ?_)
        refine goes_ Tryd.func20 (by kernel_rfl) rfl #[.agg #[.int .i64 t390, .slice Ao31 t391.length co31], .agg #[.int .i64 t403, .slice Ao54 t404.length co54]] (by rfl) rfl rfl lz ?_
        with_reducible refine (laws_eqAlphabet.calls kj15 t390 _ _ t391 t403 _ _ t404 true _ ?side1 ?side2 ?side3 ?side4 A44.out).mono ?_
        (case side1 => have q_ := Aside0.mk (Kd.R_reads' HO_395001.out).2.2; exact cQ q_)
        (case side2 => exact (Kd.R_reads' HO_395001.out).2.1)
        (case side3 => have q_ := Aside0.mk (Kd.R_reads' HO406.out).2.2; exact cQ q_)
        (case side4 => exact (Kd.R_reads' HO406.out).2.1)
        rintro e w55 ⟨rfl, hb⟩
        refine ⟨_, rfl, ?_⟩
        replace HO_6 := kb HO_6 hb; replace HO_9 := kb HO_9 hb; replace HO_10 := kb HO_10 hb; replace HO_395001 := kb HO_395001 hb; replace HO406 := kb HO406 hb; replace BK377 := bb BK377 hb; replace BK394 := bb BK394 hb; replace HB := Aside0.mk (below_step (beQ HB) hb)
        (try clear hb)
        (try clear hb2)
        (try clear hk)
        (try clear hi)
        refine hK.out _ _ ⟨bc BK394 0, bc BK394 1, bc BK377 0, bc BK377 1⟩ (fun hHeld => ?_)
        clear hK K
        refine norm_ (a' := ?_) ?_ ?_
        rotate_left
        ·show Act.put _ (some 55) _ = _
         simp only [Act.put, s1, s2, s3, i64_w, i32_w]
         rfl
        refine pure_ (i := 4) (N := some 56) (v := ?_) (a' := ?_) #[true, true, true, true, true] rfl rfl (by kernel_rfl) (fun _ _ _ h => h) (Or.inl ⟨by rfl, ?_⟩) ?_ ?_
        rotate_left
        ·intro w'
         go_simp
         with_reducible rfl
        rotate_left
        ·simp only [Act.put, s1, s2, s3, i64_w, i32_w]
         rfl
        refine done_ (by kernel_rfl) ?_
        go_upto_region 20 with (first | ((with_reducible refine gate_callee (f := 18) rfl ?_); refine goesL_ (some 59) rfl rfl Tryd.func18 (by kernel_rfl) rfl #[.slice A1 l1.length c1] rfl lz ?_; (with_reducible refine (laws_toInt64S.calls kj15 _ _ l1 t408 _ ?side1 ?side2 A46.out).mono ?_); (case side1 => have q_ := Aside0.mk (Kd.C_below HR1.out HB.out); exact cQ q_); (case side2 => exact HC1.out); rintro e w56 ⟨v409, rfl, ho0, hb⟩; refine ⟨_, rfl, ?_⟩; have HO410 := Aside0.mk (Kd.R_lower (Kd.R_new' (Kd.R_new' (Kd.R_new' (Kd.R_new' (Kd.R_new' ho0 (Kd.R_lt (kdQ HO_6))) (Kd.R_lt (kdQ HO_9))) (Kd.R_lt (kdQ HO_10))) (Kd.R_lt (kdQ HO_395001))) (Kd.R_lt (kdQ HO406))) (below_size (beQ HB))); replace HO_6 := Aside0.mk (Kd.R_elder' (kdQ HO_6) (Kd.R_base ho0) hb); replace HO_9 := Aside0.mk (Kd.R_elder' (kdQ HO_9) (Kd.R_base ho0) hb); replace HO_10 := Aside0.mk (Kd.R_elder' (kdQ HO_10) (Kd.R_base ho0) hb); replace HO_395001 := Aside0.mk (Kd.R_elder' (kdQ HO_395001) (Kd.R_base ho0) hb); replace HO406 := Aside0.mk (Kd.R_elder' (kdQ HO406) (Kd.R_base ho0) hb); replace BK377 := bb BK377 hb; replace BK394 := bb BK394 hb; replace HB := Aside0.mk (below_step (beQ HB) hb); (try clear hb); (try clear hb2); (try clear hk); (try clear hi); (try clear ho0); obtain ⟨Ao57, co57, eo57⟩ := Kd.R_slice HO410.out; subst eo57) | ((with_reducible refine gate_callee (f := 21) rfl ?_); refine goesL_ (some 60) rfl rfl Tryd.func21 (by kernel_rfl) rfl #[.slice Ao34 t395.length co34, .slice Ao57 t408.length co57] rfl lz ?_; (with_reducible refine (laws_eqInt64S.calls kj15 _ _ t395 _ _ t408 true _ ?side1 ?side2 ?side3 ?side4 A47.out).mono ?_); (case side1 => have q_ := Aside0.mk (Kd.R_reads' HO_9.out).2.2; exact cQ q_); (case side2 => exact (Kd.R_reads' HO_9.out).2.1); (case side3 => have q_ := Aside0.mk (Kd.R_reads' HO410.out).2.2; exact cQ q_); (case side4 => exact (Kd.R_reads' HO410.out).2.1); rintro e w' ⟨rfl, ⟨nd, rfl⟩⟩; refine ⟨_, rfl, ?_⟩; have hnb58 := NB394_377.out; have hnc58 := NB377_394.out; have hcz59_0 : w56.cell? ⟨gb394, 0, none⟩ = some (.int .i64 t390) := bc BK394 0; have hcz59_1 : w56.cell? ⟨gb394, 1, none⟩ = some (.slice Ao31 t391.length co31) := bc BK394 1; have hfz59_0 := blk_frozen BK394.out 0; have hfz59_1 := blk_frozen BK394.out 1) | ((with_reducible refine gate_callee (f := 24) rfl ?_); refine goesL_ (some 64) rfl rfl Tryd.func24 (by kernel_rfl) rfl #[.agg #[.int .i64 t390, .slice Ao31 t391.length co31], .int .i64 1] rfl lz ?_; (with_reducible refine (laws_markAlphabet.calls kj15 t390 (fun k_ => some k_ = (.slice Ao31 t391.length co31 : Value).ownBlock) (.slice Ao31 t391.length co31) t391 1 t412 t413 w _ ?side1 ?side2 A49.out).mono ?_); (case side1 => repeat (first | (with_reducible first | exact HB.out | apply below_alloc | apply pw_below_drewN | apply below_drew1 | refine below_set ?_ GE377.out | refine below_set ?_ GE394.out) | exact HB.out)); (case side2 => exact Kd.R_tight rfl HO_395001.out); rintro e w60 ⟨rfl, hy0, hb, hkp⟩; refine ⟨_, rfl, ?_⟩; replace HO_6 := Aside0.mk (Kd.R_mono (ok' := fun k_ => some k_ ≠ (.slice Ao34 t395.length co34 : Value).ownBlock ∧ some k_ ≠ (v399 : Value).ownBlock ∧ some k_ ≠ (.slice Ao31 t391.length co31 : Value).ownBlock ∧ some k_ ≠ (.slice Ao54 t404.length co54 : Value).ownBlock ∧ some k_ ≠ (.slice Ao57 t408.length co57 : Value).ownBlock) (Kd.R_keptB (HO_6.out) hkp (fun k_ hk_ hs_ => (hk_.1.1.2.2) hs_)) (fun k_ hk_ => ⟨hk_.1.1.1.1, hk_.1.1.1.2.1, hk_.1.1.1.2.2, hk_.1.1.2, hk_.1.2⟩)); replace HO_9 := Aside0.mk (Kd.R_mono (ok' := fun k_ => some k_ ≠ (v387 : Value).ownBlock ∧ some k_ ≠ (v399 : Value).ownBlock ∧ some k_ ≠ (.slice Ao31 t391.length co31 : Value).ownBlock ∧ some k_ ≠ (.slice Ao54 t404.length co54 : Value).ownBlock ∧ some k_ ≠ (.slice Ao57 t408.length co57 : Value).ownBlock) (Kd.R_keptB (HO_9.out) hkp (fun k_ hk_ hs_ => (hk_.1.1.2.2) hs_)) (fun k_ hk_ => ⟨hk_.1.1.1.1, hk_.1.1.1.2.1, hk_.1.1.1.2.2, hk_.1.1.2, hk_.1.2⟩)); replace HO_10 := Aside0.mk (Kd.R_mono (ok' := fun k_ => some k_ ≠ (v387 : Value).ownBlock ∧ some k_ ≠ (.slice Ao34 t395.length co34 : Value).ownBlock ∧ some k_ ≠ (.slice Ao31 t391.length co31 : Value).ownBlock ∧ some k_ ≠ (.slice Ao54 t404.length co54 : Value).ownBlock ∧ some k_ ≠ (.slice Ao57 t408.length co57 : Value).ownBlock) (Kd.R_keptB (HO_10.out) hkp (fun k_ hk_ hs_ => (hk_.1.1.2.2) hs_)) (fun k_ hk_ => ⟨hk_.1.1.1.1, hk_.1.1.1.2.1, hk_.1.1.1.2.2, hk_.1.1.2, hk_.1.2⟩)); replace BK377 := Aside0.mk (blk_kept (blkQ BK377) hkp (fun hs_ => (fun e_ => (Kd.R_ne HO_395001.out BK377.out (by decide)) e_) hs_)); replace BK394 := Aside0.mk (blk_kept (blkQ BK394) hkp (fun hs_ => (fun e_ => (Kd.R_ne HO_395001.out BK394.out (by decide)) e_) hs_)); replace HO_395001 := Aside0.mk (Kd.R_reok rfl hy0 (fun k_ e_ => HO_395001.out.1 k_ e_)); replace HO406 := Aside0.mk (Kd.R_mono (ok' := fun k_ => some k_ ≠ (v387 : Value).ownBlock ∧ some k_ ≠ (.slice Ao34 t395.length co34 : Value).ownBlock ∧ some k_ ≠ (v399 : Value).ownBlock ∧ some k_ ≠ (.slice Ao31 t391.length co31 : Value).ownBlock ∧ some k_ ≠ (.slice Ao57 t408.length co57 : Value).ownBlock) (Kd.R_keptB (HO406.out) hkp (fun k_ hk_ hs_ => (hk_.1.2) hs_)) (fun k_ hk_ => ⟨hk_.1.1.1.1.1.2, hk_.1.1.1.1.2, hk_.1.1.1.2, hk_.1.1.2, hk_.1.2⟩)); replace HO410 := Aside0.mk (Kd.R_mono (ok' := fun k_ => some k_ ≠ (v387 : Value).ownBlock ∧ some k_ ≠ (.slice Ao34 t395.length co34 : Value).ownBlock ∧ some k_ ≠ (v399 : Value).ownBlock ∧ some k_ ≠ (.slice Ao31 t391.length co31 : Value).ownBlock ∧ some k_ ≠ (.slice Ao54 t404.length co54 : Value).ownBlock) (Kd.R_keptB (HO410.out) hkp (fun k_ hk_ hs_ => (hk_.1.2) hs_)) (fun k_ hk_ => ⟨hk_.1.1.1.1.1.2, hk_.1.1.1.1.2, hk_.1.1.1.2, hk_.1.1.2, hk_.1.2⟩)); replace HB := Aside0.mk (hb); (try clear hb); (try clear hkp); (try clear hy0)) | ((with_reducible refine gate_callee (f := 25) rfl ?_); refine goesL_ (some 67) rfl rfl Tryd.func25 (by kernel_rfl) rfl #[.slice Ao34 t395.length co34, .int .i64 t412] rfl lz ?_; (with_reducible refine (laws_markInt64S.calls kj15 (fun k_ => some k_ = (.slice Ao34 t395.length co34 : Value).ownBlock) (.slice Ao34 t395.length co34) t395 t412 t414 t415 w _ ?side1 ?side2 A50.out).mono ?_); (case side1 => repeat (first | (with_reducible first | exact HB.out | apply below_alloc | apply pw_below_drewN | apply below_drew1 | refine below_set ?_ GE377.out | refine below_set ?_ GE394.out) | exact HB.out)); (case side2 => exact Kd.R_tight rfl HO_9.out); rintro e w61 ⟨rfl, hy0, hb, hkp⟩; refine ⟨_, rfl, ?_⟩; replace HO_6 := Aside0.mk (Kd.R_mono (ok' := fun k_ => some k_ ≠ (.slice Ao34 t395.length co34 : Value).ownBlock ∧ some k_ ≠ (v399 : Value).ownBlock ∧ some k_ ≠ (.slice Ao31 t391.length co31 : Value).ownBlock ∧ some k_ ≠ (.slice Ao54 t404.length co54 : Value).ownBlock ∧ some k_ ≠ (.slice Ao57 t408.length co57 : Value).ownBlock) (Kd.R_keptB (HO_6.out) hkp (fun k_ hk_ hs_ => (hk_.1) hs_)) (fun k_ hk_ => ⟨hk_.1.1, hk_.1.2.1, hk_.1.2.2.1, hk_.1.2.2.2.1, hk_.1.2.2.2.2⟩)); replace HO_10 := Aside0.mk (Kd.R_mono (ok' := fun k_ => some k_ ≠ (v387 : Value).ownBlock ∧ some k_ ≠ (.slice Ao34 t395.length co34 : Value).ownBlock ∧ some k_ ≠ (.slice Ao31 t391.length co31 : Value).ownBlock ∧ some k_ ≠ (.slice Ao54 t404.length co54 : Value).ownBlock ∧ some k_ ≠ (.slice Ao57 t408.length co57 : Value).ownBlock) (Kd.R_keptB (HO_10.out) hkp (fun k_ hk_ hs_ => (hk_.2.1) hs_)) (fun k_ hk_ => ⟨hk_.1.1, hk_.1.2.1, hk_.1.2.2.1, hk_.1.2.2.2.1, hk_.1.2.2.2.2⟩)); replace HO_395001 := Aside0.mk (Kd.R_mono (ok' := fun k_ => some k_ ≠ (v387 : Value).ownBlock ∧ some k_ ≠ (.slice Ao34 t395.length co34 : Value).ownBlock ∧ some k_ ≠ (v399 : Value).ownBlock ∧ some k_ ≠ (.slice Ao54 t404.length co54 : Value).ownBlock ∧ some k_ ≠ (.slice Ao57 t408.length co57 : Value).ownBlock) (Kd.R_keptB (HO_395001.out) hkp (fun k_ hk_ hs_ => (hk_.1.1.2.1) hs_)) (fun k_ hk_ => ⟨hk_.1.1.1.1, hk_.1.1.1.2.1, hk_.1.1.1.2.2, hk_.1.1.2, hk_.1.2⟩)); replace BK377 := Aside0.mk (blk_kept (blkQ BK377) hkp (fun hs_ => (fun e_ => (Kd.R_ne HO_9.out BK377.out (by decide)) e_) hs_)); replace BK394 := Aside0.mk (blk_kept (blkQ BK394) hkp (fun hs_ => (fun e_ => (Kd.R_ne HO_9.out BK394.out (by decide)) e_) hs_)); replace HO_9 := Aside0.mk (Kd.R_reok rfl hy0 (fun k_ e_ => HO_9.out.1 k_ e_)); replace HO406 := Aside0.mk (Kd.R_mono (ok' := fun k_ => some k_ ≠ (v387 : Value).ownBlock ∧ some k_ ≠ (.slice Ao34 t395.length co34 : Value).ownBlock ∧ some k_ ≠ (v399 : Value).ownBlock ∧ some k_ ≠ (.slice Ao31 t391.length co31 : Value).ownBlock ∧ some k_ ≠ (.slice Ao57 t408.length co57 : Value).ownBlock) (Kd.R_keptB (HO406.out) hkp (fun k_ hk_ hs_ => (hk_.2.1) hs_)) (fun k_ hk_ => ⟨hk_.1.1, hk_.1.2.1, hk_.1.2.2.1, hk_.1.2.2.2.1, hk_.1.2.2.2.2⟩)); replace HO410 := Aside0.mk (Kd.R_mono (ok' := fun k_ => some k_ ≠ (v387 : Value).ownBlock ∧ some k_ ≠ (.slice Ao34 t395.length co34 : Value).ownBlock ∧ some k_ ≠ (v399 : Value).ownBlock ∧ some k_ ≠ (.slice Ao31 t391.length co31 : Value).ownBlock ∧ some k_ ≠ (.slice Ao54 t404.length co54 : Value).ownBlock) (Kd.R_keptB (HO410.out) hkp (fun k_ hk_ hs_ => (hk_.2.1) hs_)) (fun k_ hk_ => ⟨hk_.1.1, hk_.1.2.1, hk_.1.2.2.1, hk_.1.2.2.2.1, hk_.1.2.2.2.2⟩)); replace HB := Aside0.mk (hb); (try clear hb); (try clear hkp); (try clear hy0)))
        (try simp only [Act.put, List.setIfInBounds_toArray, List.set_cons_zero, List.set_cons_succ])
        go_cut [80] (fun v80 wc => ∃ (kq : Nat) (x80_50 : Bool), v80 = .bool x80_50 ∧ Aside0 (laws_FnExactFoataForm.j1 kq l1 t386 t389 t398 x80_50 a0_0 l0_1 = some r) ∧ Aside0 (kq ≤ kj15) ∧ Aside0 (Kd.R (Kd.int .i64) 2 wc w.heap.size (fun k_ => some k_ ≠ (v399 : Value).ownBlock ∧ some k_ ≠ ((.slice Ao31 t391.length co31) : Value).ownBlock) v387 t386) ∧ Aside0 (Kd.R (Kd.int .i64) 2 wc w.heap.size (fun k_ => some k_ ≠ (v387 : Value).ownBlock ∧ some k_ ≠ ((.slice Ao31 t391.length co31) : Value).ownBlock) v399 t398) ∧ Aside0 (Kd.R (Kd.int .i64) 2 wc w.heap.size (fun k_ => some k_ ≠ (v387 : Value).ownBlock ∧ some k_ ≠ (v399 : Value).ownBlock) (.slice Ao31 t391.length co31) t413) ∧ Aside0 (wc.heap[gb377]? = some (.cells #[.int .i64 a0_0, (.slice A0_1 l0_1.length c0_1)] 24 (0, 0))) ∧ Aside0 (wc.heap[gb394]? = some (.cells #[.int .i64 t390, (.slice Ao31 t391.length co31)] 28 (0, 0))) ∧ Aside0 (Below w.heap.size w wc))
        case first =>
         have H := HC51.out; clear HC51
         by_cases c62 : t414 < 0
         ·rw [if_pos c62] at H
          have c62b0 : decide (t414 < 0) = true := decide_eq_true c62
          clear c62
          (first | rw [c62b0] | (simp only [i64_w, i32_w]; rw [c62b0]) | skip)
          have H' := Aside0.mk H
          clear H
          go_wp2
          go_meet
          case rel => exact ⟨_, (true), sz, H', ⟨by have := HJ15.out; first | omega | exact Nat.le_refl _⟩, ⟨by (with_reducible repeat (first | apply Kd.R_alloc | apply Kd.R_drewN | apply Kd.R_drew)); exact Kd.R_mono HO_6.out (fun _ hk => ⟨hk.2.1, hk.2.2.1⟩)⟩, ⟨by (with_reducible repeat (first | apply Kd.R_alloc | apply Kd.R_drewN | apply Kd.R_drew)); exact Kd.R_mono HO_10.out (fun _ hk => ⟨hk.1, hk.2.2.1⟩)⟩, ⟨by (with_reducible repeat (first | apply Kd.R_alloc | apply Kd.R_drewN | apply Kd.R_drew)); exact Kd.R_mono HO_395001.out (fun _ hk => ⟨hk.1, hk.2.2.1⟩)⟩, ⟨blkQ BK377⟩, ⟨blkQ BK394⟩, ⟨beQ HB⟩⟩
         ·rw [if_neg c62] at H
          have c62b0 : decide (t414 < 0) = false := decide_eq_false c62
          clear c62
          (first | rw [c62b0] | (simp only [i64_w, i32_w]; rw [c62b0]) | skip)
          replace H := Option.bind_eq_some_iff.mp H; obtain ⟨t416, A630, H⟩ := H
          replace H : (if t416 = true then (laws_FnExactFoataForm.j1 kj15 l1 t386 t389 t398 (t401 != t389) a0_0 l0_1) else (laws_FnExactFoataForm.j1 kj15 l1 t386 t389 t398 true a0_0 l0_1)) = some r := H
          have A63 := Aside0.mk A630; clear A630
          by_cases c64 : t416 = true
          ·subst c64
           have H1 : (laws_FnExactFoataForm.j1 kj15 l1 t386 t389 t398 (t401 != t389) a0_0 l0_1) = some r := by rw [if_pos rfl] at H; exact H
           clear H; have H := H1; clear H1
           have H' := Aside0.mk H
           clear H; obtain ⟨Ao65, co65, eo65⟩ := Kd.R_slice HO_10.out; subst eo65; obtain ⟨Ao66, co66, eo66⟩ := Kd.R_slice HO_6.out; subst eo66
           go_wp2_with (first | (go_at_call 21; (with_reducible refine (laws_eqInt64S.calls kj15 _ _ t398 _ _ t386 true _ ?side1 ?side2 ?side3 ?side4 A63.out).mono ?_); (case side1 => have q_ := Aside0.mk (Kd.R_reads' HO_10.out).2.2; exact cQ q_); (case side2 => exact (Kd.R_reads' HO_10.out).2.1); (case side3 => have q_ := Aside0.mk (Kd.R_reads' HO_6.out).2.2; exact cQ q_); (case side4 => exact (Kd.R_reads' HO_6.out).2.1); rintro e w' ⟨rfl, ⟨nd, rfl⟩⟩))
           go_meet
           case rel => exact ⟨_, ((t401 != t389)), sz, H', ⟨by have := HJ15.out; first | omega | exact Nat.le_refl _⟩, ⟨by (with_reducible repeat (first | apply Kd.R_alloc | apply Kd.R_drewN | apply Kd.R_drew)); exact Kd.R_mono HO_6.out (fun _ hk => ⟨hk.2.1, hk.2.2.1⟩)⟩, ⟨by (with_reducible repeat (first | apply Kd.R_alloc | apply Kd.R_drewN | apply Kd.R_drew)); exact Kd.R_mono HO_10.out (fun _ hk => ⟨hk.1, hk.2.2.1⟩)⟩, ⟨by (with_reducible repeat (first | apply Kd.R_alloc | apply Kd.R_drewN | apply Kd.R_drew)); exact Kd.R_mono HO_395001.out (fun _ hk => ⟨hk.1, hk.2.2.1⟩)⟩, ⟨blkQ BK377⟩, ⟨blkQ BK394⟩, ⟨beQ HB⟩⟩
          ·replace c64 := Bool.eq_false_iff.mpr c64
           subst c64
           have H1 : (laws_FnExactFoataForm.j1 kj15 l1 t386 t389 t398 true a0_0 l0_1) = some r := by rw [if_neg (show ¬ (false = true) by decide)] at H; exact H
           clear H; have H := H1; clear H1
           have H' := Aside0.mk H
           clear H; obtain ⟨Ao67, co67, eo67⟩ := Kd.R_slice HO_10.out; subst eo67; obtain ⟨Ao68, co68, eo68⟩ := Kd.R_slice HO_6.out; subst eo68
           go_wp2_with (first | (go_at_call 21; (with_reducible refine (laws_eqInt64S.calls kj15 _ _ t398 _ _ t386 false _ ?side1 ?side2 ?side3 ?side4 A63.out).mono ?_); (case side1 => have q_ := Aside0.mk (Kd.R_reads' HO_10.out).2.2; exact cQ q_); (case side2 => exact (Kd.R_reads' HO_10.out).2.1); (case side3 => have q_ := Aside0.mk (Kd.R_reads' HO_6.out).2.2; exact cQ q_); (case side4 => exact (Kd.R_reads' HO_6.out).2.1); rintro e w' ⟨rfl, ⟨nd, rfl⟩⟩))
           go_meet
           case rel => exact ⟨_, (true), sz, H', ⟨by have := HJ15.out; first | omega | exact Nat.le_refl _⟩, ⟨by (with_reducible repeat (first | apply Kd.R_alloc | apply Kd.R_drewN | apply Kd.R_drew)); exact Kd.R_mono HO_6.out (fun _ hk => ⟨hk.2.1, hk.2.2.1⟩)⟩, ⟨by (with_reducible repeat (first | apply Kd.R_alloc | apply Kd.R_drewN | apply Kd.R_drew)); exact Kd.R_mono HO_10.out (fun _ hk => ⟨hk.1, hk.2.2.1⟩)⟩, ⟨by (with_reducible repeat (first | apply Kd.R_alloc | apply Kd.R_drewN | apply Kd.R_drew)); exact Kd.R_mono HO_395001.out (fun _ hk => ⟨hk.1, hk.2.2.1⟩)⟩, ⟨blkQ BK377⟩, ⟨blkQ BK394⟩, ⟨beQ HB⟩⟩
        case rest =>
         clear HC51
         try clear c1
         try clear c2
         try clear p2
         try clear c3
         try clear c3b0
         try clear c3b1
         try clear c4
         try clear c5
         try clear c6
         try clear c6b0
         try clear c15
         try clear c17
         try clear c18
         try clear c20
         try clear c21
         try clear c24
         try clear c25
         try clear c27
         try clear c28
         try clear c29
         try clear c37
         try clear c42
         try clear c45
         try clear c48
         try clear c58
         try clear c62
         try clear c62b0
         try clear c64
         try clear hcz18_0
         try clear hcz18_1
         try clear hcz20_0
         try clear hcz20_1
         try clear hcz26_0
         try clear hcz26_1
         try clear hcz30_0
         try clear hcz30_1
         try clear hcz33_0
         try clear hcz33_1
         try clear hcz59_0
         try clear hcz59_1
         try clear hcz8_0
         try clear hcz8_1
         try clear hfz18_0
         try clear hfz18_1
         try clear hfz20_0
         try clear hfz20_1
         try clear hfz26_0
         try clear hfz26_1
         try clear hfz30_0
         try clear hfz30_1
         try clear hfz33_0
         try clear hfz33_1
         try clear hfz59_0
         try clear hfz59_1
         try clear hfz8_0
         try clear hfz8_1
         try clear p2
         obtain ⟨kq, x80_50, rfl, HA, HJ50, HO_6, HO_10, HO_395001, BK377, BK394, HB⟩ := hcut; have hl395001_50 := (Kd.R_reads' HO_395001.out).1; rw [hl395001_50] at HO_395001
         (try simp only [hl395001_50])
         (try simp only [hl395001_50] at BK377)
         (try simp only [hl395001_50] at BK394)
         (try simp only [hl395001_50] at HO_6)
         (try simp only [hl395001_50] at HO_10)
         cases kq with
         | zero => exact absurd HA.out (by simp [laws_FnExactFoataForm.j1])
         | succ kj50 =>
          have H := HA.out; clear HA
          simp only [laws_FnExactFoataForm.j1] at H
          by_cases c69 : x80_50 = true
          ·subst c69
           have H1 : (some false) = some r := by rw [if_pos rfl] at H; exact H
           clear H; have H := H1; clear H1
           obtain rfl := Option.some.inj H
           go_wp2
           go_ret
           exact ⟨rz, beQ HB⟩
          ·replace c69 := Bool.eq_false_iff.mpr c69
           subst c69
           have H1 : ((laws_markInt64S.f kj50 t398 1).bind fun bt417 => ((laws_heldInt64S.f kj50 bt417.2 1).bind fun t419 => (if t419 < 0 then (some false) else (if t419 = bt417.1 then ((laws_toAlphabet.f kj50 a0_0 l0_1).bind fun bt420 => ((laws_toInt64S.f kj50 l1).bind fun t424 => ((impl_FoataForm.f kj50 bt420.1 bt420.2 t424).bind fun bt427 => ((laws_eqInt64S.f kj50 bt427.1 t386).bind fun t431 => (if t431 = true then (laws_FnExactFoataForm.j2 kj50 bt417.2 bt417.1 (bt427.2 != t389)) else (laws_FnExactFoataForm.j2 kj50 bt417.2 bt417.1 true)))))) else (some false))))) = some r := by rw [if_neg (show ¬ (false = true) by decide)] at H; exact H
           clear H; have H := H1; clear H1; replace H := Option.bind_eq_some_iff.mp H
           obtain ⟨⟨t417, t418⟩, A700, H⟩ := H
           replace H : ((laws_heldInt64S.f kj50 t418 1).bind fun t419 => (if t419 < 0 then (some false) else (if t419 = t417 then ((laws_toAlphabet.f kj50 a0_0 l0_1).bind fun bt420 => ((laws_toInt64S.f kj50 l1).bind fun t424 => ((impl_FoataForm.f kj50 bt420.1 bt420.2 t424).bind fun bt427 => ((laws_eqInt64S.f kj50 bt427.1 t386).bind fun t431 => (if t431 = true then (laws_FnExactFoataForm.j2 kj50 t418 t417 (bt427.2 != t389)) else (laws_FnExactFoataForm.j2 kj50 t418 t417 true)))))) else (some false)))) = some r := H
           have A70 := Aside0.mk A700; clear A700; replace H := Option.bind_eq_some_iff.mp H; obtain ⟨t419, A710, H⟩ := H
           replace H : (if t419 < 0 then (some false) else (if t419 = t417 then ((laws_toAlphabet.f kj50 a0_0 l0_1).bind fun bt420 => ((laws_toInt64S.f kj50 l1).bind fun t424 => ((impl_FoataForm.f kj50 bt420.1 bt420.2 t424).bind fun bt427 => ((laws_eqInt64S.f kj50 bt427.1 t386).bind fun t431 => (if t431 = true then (laws_FnExactFoataForm.j2 kj50 t418 t417 (bt427.2 != t389)) else (laws_FnExactFoataForm.j2 kj50 t418 t417 true)))))) else (some false))) = some r := H
           have A71 := Aside0.mk A710; clear A710
           by_cases c72 : t419 < 0
           ·rw [if_pos c72] at H
            have c72b0 : decide (t419 < 0) = true := decide_eq_true c72
            clear c72
            obtain rfl := Option.some.inj H
            obtain ⟨Ao73, co73, eo73⟩ := Kd.R_slice HO_10.out; subst eo73
            go_wp2_with (first | ((with_reducible refine gate_callee (f := 25) rfl ?_); refine goesL_ (some 83) rfl rfl Tryd.func25 (by kernel_rfl) rfl #[.slice Ao73 t398.length co73, .int .i64 1] rfl lz ?_; (with_reducible refine (laws_markInt64S.calls kj50 (fun k_ => some k_ = (.slice Ao73 t398.length co73 : Value).ownBlock) (.slice Ao73 t398.length co73) t398 1 t417 t418 w _ ?side1 ?side2 A70.out).mono ?_); (case side1 => repeat (first | (with_reducible first | exact HB.out | apply below_alloc | apply pw_below_drewN | apply below_drew1 | refine below_set ?_ GE377.out | refine below_set ?_ GE394.out) | exact HB.out)); (case side2 => exact Kd.R_tight rfl HO_10.out); rintro e w74 ⟨rfl, hy0, hb, hkp⟩; refine ⟨_, rfl, ?_⟩; replace HO_6 := Aside0.mk (Kd.R_mono (ok' := fun k_ => some k_ ≠ (.slice Ao73 t398.length co73 : Value).ownBlock ∧ some k_ ≠ (.slice Ao31 t413.length co31 : Value).ownBlock) (Kd.R_keptB (HO_6.out) hkp (fun k_ hk_ hs_ => (hk_.1) hs_)) (fun k_ hk_ => ⟨hk_.1.1, hk_.1.2⟩)); replace HO_395001 := Aside0.mk (Kd.R_mono (ok' := fun k_ => some k_ ≠ (v387 : Value).ownBlock ∧ some k_ ≠ (.slice Ao73 t398.length co73 : Value).ownBlock) (Kd.R_keptB (HO_395001.out) hkp (fun k_ hk_ hs_ => (hk_.2) hs_)) (fun k_ hk_ => ⟨hk_.1.1, hk_.1.2⟩)); replace BK377 := Aside0.mk (blk_kept (blkQ BK377) hkp (fun hs_ => (fun e_ => (Kd.R_ne HO_10.out BK377.out (by decide)) e_) hs_)); replace BK394 := Aside0.mk (blk_kept (blkQ BK394) hkp (fun hs_ => (fun e_ => (Kd.R_ne HO_10.out BK394.out (by decide)) e_) hs_)); replace HO_10 := Aside0.mk (Kd.R_reok rfl hy0 (fun k_ e_ => HO_10.out.1 k_ e_)); replace HB := Aside0.mk (hb); (try clear hb); (try clear hkp); (try clear hy0)) | ((with_reducible refine gate_callee (f := 26) rfl ?_); refine goesL_ (some 86) rfl rfl Tryd.func26 (by kernel_rfl) rfl #[.slice Ao73 t418.length co73, .int .i64 1] rfl (by (try simp only [List.map_toArray, List.map_cons, List.map_nil]); first | done | (rw [show t418.length = t398.length from (Kd.R_reads' HO_10.out).1.symm] <;> rfl) | rfl | (simp only [List.length_drop, List.length_take]; rfl)) ?_; (with_reducible refine (laws_heldInt64S.calls kj50 _ _ t418 1 t419 _ ?side1 ?side2 A71.out).mono ?_); (case side1 => have q_ := Aside0.mk (Kd.R_reads' HO_10.out).2.2; exact cQ q_); (case side2 => rw [show t418.length = t398.length from (Kd.R_reads' HO_10.out).1.symm]; exact (Kd.R_reads' HO_10.out).2.1); rintro e w' ⟨rfl, ⟨nd, rfl⟩⟩; refine ⟨_, rfl, ?_⟩))
            go_ret
            exact ⟨rz, beQ HB⟩
           ·rw [if_neg c72] at H
            have c72b0 : decide (t419 < 0) = false := decide_eq_false c72
            clear c72
            by_cases c75 : t419 = t417
            ·rw [if_pos c75] at H
             have c75b0 : (t419 == t417) = true := beq_iff_eq.mpr c75
             have c75b1 : (t419 != t417) = false := bne_eq_false_iff_eq.mpr c75
             clear c75; replace H := Option.bind_eq_some_iff.mp H
             obtain ⟨⟨t420, t421⟩, A760, H⟩ := H
             replace H : ((laws_toInt64S.f kj50 l1).bind fun t424 => ((impl_FoataForm.f kj50 t420 t421 t424).bind fun bt427 => ((laws_eqInt64S.f kj50 bt427.1 t386).bind fun t431 => (if t431 = true then (laws_FnExactFoataForm.j2 kj50 t418 t417 (bt427.2 != t389)) else (laws_FnExactFoataForm.j2 kj50 t418 t417 true))))) = some r := H
             have A76 := Aside0.mk A760; clear A760; replace H := Option.bind_eq_some_iff.mp H; obtain ⟨t424, A770, H⟩ := H
             replace H : ((impl_FoataForm.f kj50 t420 t421 t424).bind fun bt427 => ((laws_eqInt64S.f kj50 bt427.1 t386).bind fun t431 => (if t431 = true then (laws_FnExactFoataForm.j2 kj50 t418 t417 (bt427.2 != t389)) else (laws_FnExactFoataForm.j2 kj50 t418 t417 true)))) = some r := H
             have A77 := Aside0.mk A770; clear A770; replace H := Option.bind_eq_some_iff.mp H
             obtain ⟨⟨t427, t430⟩, A780, H⟩ := H
             replace H : ((laws_eqInt64S.f kj50 t427 t386).bind fun t431 => (if t431 = true then (laws_FnExactFoataForm.j2 kj50 t418 t417 (t430 != t389)) else (laws_FnExactFoataForm.j2 kj50 t418 t417 true))) = some r := H
             have A78 := Aside0.mk A780; clear A780; have HC79 := Aside0.mk H; clear H; obtain ⟨Ao80, co80, eo80⟩ := Kd.R_slice HO_10.out; subst eo80
             go_upto_region 31 with (first | ((with_reducible refine gate_callee (f := 25) rfl ?_); refine goesL_ (some 83) rfl rfl Tryd.func25 (by kernel_rfl) rfl #[.slice Ao80 t398.length co80, .int .i64 1] rfl lz ?_; (with_reducible refine (laws_markInt64S.calls kj50 (fun k_ => some k_ = (.slice Ao80 t398.length co80 : Value).ownBlock) (.slice Ao80 t398.length co80) t398 1 t417 t418 w _ ?side1 ?side2 A70.out).mono ?_); (case side1 => repeat (first | (with_reducible first | exact HB.out | apply below_alloc | apply pw_below_drewN | apply below_drew1 | refine below_set ?_ GE377.out | refine below_set ?_ GE394.out) | exact HB.out)); (case side2 => exact Kd.R_tight rfl HO_10.out); rintro e w81 ⟨rfl, hy0, hb, hkp⟩; refine ⟨_, rfl, ?_⟩; replace HO_6 := Aside0.mk (Kd.R_mono (ok' := fun k_ => some k_ ≠ (.slice Ao80 t398.length co80 : Value).ownBlock ∧ some k_ ≠ (.slice Ao31 t413.length co31 : Value).ownBlock) (Kd.R_keptB (HO_6.out) hkp (fun k_ hk_ hs_ => (hk_.1) hs_)) (fun k_ hk_ => ⟨hk_.1.1, hk_.1.2⟩)); replace HO_395001 := Aside0.mk (Kd.R_mono (ok' := fun k_ => some k_ ≠ (v387 : Value).ownBlock ∧ some k_ ≠ (.slice Ao80 t398.length co80 : Value).ownBlock) (Kd.R_keptB (HO_395001.out) hkp (fun k_ hk_ hs_ => (hk_.2) hs_)) (fun k_ hk_ => ⟨hk_.1.1, hk_.1.2⟩)); replace BK377 := Aside0.mk (blk_kept (blkQ BK377) hkp (fun hs_ => (fun e_ => (Kd.R_ne HO_10.out BK377.out (by decide)) e_) hs_)); replace BK394 := Aside0.mk (blk_kept (blkQ BK394) hkp (fun hs_ => (fun e_ => (Kd.R_ne HO_10.out BK394.out (by decide)) e_) hs_)); replace HO_10 := Aside0.mk (Kd.R_reok rfl hy0 (fun k_ e_ => HO_10.out.1 k_ e_)); replace HB := Aside0.mk (hb); (try clear hb); (try clear hkp); (try clear hy0)) | ((with_reducible refine gate_callee (f := 26) rfl ?_); refine goesL_ (some 86) rfl rfl Tryd.func26 (by kernel_rfl) rfl #[.slice Ao80 t418.length co80, .int .i64 1] rfl (by (try simp only [List.map_toArray, List.map_cons, List.map_nil]); first | done | (rw [show t418.length = t398.length from (Kd.R_reads' HO_10.out).1.symm] <;> rfl) | rfl | (simp only [List.length_drop, List.length_take]; rfl)) ?_; (with_reducible refine (laws_heldInt64S.calls kj50 _ _ t418 1 t419 _ ?side1 ?side2 A71.out).mono ?_); (case side1 => have q_ := Aside0.mk (Kd.R_reads' HO_10.out).2.2; exact cQ q_); (case side2 => rw [show t418.length = t398.length from (Kd.R_reads' HO_10.out).1.symm]; exact (Kd.R_reads' HO_10.out).2.1); rintro e w' ⟨rfl, ⟨nd, rfl⟩⟩; refine ⟨_, rfl, ?_⟩; have hnb82 := NB377_394.out; have hnc82 := NB394_377.out; have hcz83_0 : w81.cell? ⟨gb377, 0, none⟩ = some (.int .i64 a0_0) := bc BK377 0; have hcz83_1 : w81.cell? ⟨gb377, 1, none⟩ = some (.slice A0_1 l0_1.length c0_1) := bc BK377 1; have hfz83_0 := blk_frozen BK377.out 0; have hfz83_1 := blk_frozen BK377.out 1) | ((with_reducible refine gate_callee (f := 17) rfl ?_); refine goesL_ (some 94) rfl rfl Tryd.func17 (by kernel_rfl) rfl #[.agg #[.int .i64 a0_0, .slice A0_1 l0_1.length c0_1]] rfl lz ?_; (with_reducible refine (laws_toAlphabet.calls kj50 a0_0 _ _ l0_1 t420 t421 _ ?side1 ?side2 A76.out).mono ?_); (case side1 => have q_ := Aside0.mk (Kd.C_below HR0_1.out (beQ HB)); exact cQ q_); (case side2 => exact HC0_1.out); rintro e w84 ⟨v422, rfl, ho0, hb⟩; refine ⟨_, rfl, ?_⟩; have HO423 := Aside0.mk (Kd.R_lower (Kd.R_new' (Kd.R_new' (Kd.R_new' ho0 (Kd.R_lt (kdQ HO_6))) (Kd.R_lt (kdQ HO_10))) (Kd.R_lt (kdQ HO_395001))) (below_size (beQ HB))); replace HO_6 := Aside0.mk (Kd.R_elder' (kdQ HO_6) (Kd.R_base ho0) hb); replace HO_10 := Aside0.mk (Kd.R_elder' (kdQ HO_10) (Kd.R_base ho0) hb); replace HO_395001 := Aside0.mk (Kd.R_elder' (kdQ HO_395001) (Kd.R_base ho0) hb); replace BK377 := bb BK377 hb; replace BK394 := bb BK394 hb; replace HB := Aside0.mk (below_step (beQ HB) hb); (try clear hb); (try clear hb2); (try clear hk); (try clear hi); (try clear ho0)) | ((with_reducible refine gate_callee (f := 18) rfl ?_); refine goesL_ (some 96) rfl rfl Tryd.func18 (by kernel_rfl) rfl #[.slice A1 l1.length c1] rfl lz ?_; (with_reducible refine (laws_toInt64S.calls kj50 _ _ l1 t424 _ ?side1 ?side2 A77.out).mono ?_); (case side1 => have q_ := Aside0.mk (Kd.C_below HR1.out HB.out); exact cQ q_); (case side2 => exact HC1.out); rintro e w85 ⟨v425, rfl, ho0, hb⟩; refine ⟨_, rfl, ?_⟩; have HO426 := Aside0.mk (Kd.R_lower (Kd.R_new' (Kd.R_new' (Kd.R_new' (Kd.R_new' ho0 (Kd.R_lt (kdQ HO_6))) (Kd.R_lt (kdQ HO_10))) (Kd.R_lt (kdQ HO_395001))) (Kd.R_lt (kdQ HO423))) (below_size (beQ HB))); replace HO_6 := Aside0.mk (Kd.R_elder' (kdQ HO_6) (Kd.R_base ho0) hb); replace HO_10 := Aside0.mk (Kd.R_elder' (kdQ HO_10) (Kd.R_base ho0) hb); replace HO_395001 := Aside0.mk (Kd.R_elder' (kdQ HO_395001) (Kd.R_base ho0) hb); replace HO423 := Aside0.mk (Kd.R_elder' (kdQ HO423) (Kd.R_base ho0) hb); replace BK377 := bb BK377 hb; replace BK394 := bb BK394 hb; replace HB := Aside0.mk (below_step (beQ HB) hb); (try clear hb); (try clear hb2); (try clear hk); (try clear hi); (try clear ho0); obtain ⟨Ao86, co86, eo86⟩ := Kd.R_slice HO423.out; subst eo86; obtain ⟨Ao87, co87, eo87⟩ := Kd.R_slice HO426.out; subst eo87) | ((with_reducible refine gate_callee (f := 28) rfl ?_); refine goesL_ (some 97) rfl rfl Tryd.func28 (by kernel_rfl) rfl #[.agg #[.int .i64 t420, .slice Ao86 t421.length co86], .slice Ao87 t424.length co87] rfl lz ?_; (with_reducible refine (impl_FoataForm.calls kj50 t420 _ _ t421 (fun k_ => some k_ = (.slice Ao87 t424.length co87 : Value).ownBlock) _ _ t424 t427 t430 _ ?side1 ?side2 ?side3 ?side4 A78.out).mono ?_); (case side1 => have q_ := Aside0.mk (Kd.R_reads' HO423.out).2.2; exact cQ q_); (case side2 => exact (Kd.R_reads' HO423.out).2.1); (case side3 => exact Kd.R_V (Kd.R_tight rfl (Kd.R_types (Kd.R_types (HO426.out) BK377.out (by decide)) BK394.out (by decide)))); (case side4 => exact TabW.below HT.out (beQ HB)); rintro e w88 ⟨v428, rfl, ho0, hb⟩; refine ⟨_, rfl, ?_⟩; have HO429 := Aside0.mk (Kd.R_lower (Kd.R_new' (Kd.R_new' (Kd.R_new' (Kd.R_new' (Kd.R_new' (Kd.R_mono (ok' := fun k_ => True) ho0 (fun _ hk_ => trivial)) (Kd.R_lt (kdQ HO_6))) (Kd.R_lt (kdQ HO_10))) (Kd.R_lt (kdQ HO_395001))) (Kd.R_lt (kdQ HO423))) (Kd.R_lt (kdQ HO426))) (below_size (beQ HB))); replace HO_6 := Aside0.mk (Kd.R_elder' (kdQ HO_6) (Kd.R_base ho0) hb); replace HO_10 := Aside0.mk (Kd.R_elder' (kdQ HO_10) (Kd.R_base ho0) hb); replace HO_395001 := Aside0.mk (Kd.R_elder' (kdQ HO_395001) (Kd.R_base ho0) hb); replace HO423 := Aside0.mk (Kd.R_elder' (kdQ HO423) (Kd.R_base ho0) hb); replace HO426 := Aside0.mk (Kd.R_elder' (kdQ HO426) (Kd.R_base ho0) hb); replace BK377 := bb BK377 hb; replace BK394 := bb BK394 hb; replace HB := Aside0.mk (below_step (beQ HB) hb); (try clear hb); (try clear hb2); (try clear hk); (try clear hi); (try clear ho0)))
             (try simp only [Act.put, List.setIfInBounds_toArray, List.set_cons_zero, List.set_cons_succ])
             go_cut [108] (fun v108 wc => ∃ (kq : Nat) (x108_78 : Bool), v108 = .bool x108_78 ∧ Aside0 (laws_FnExactFoataForm.j2 kq t418 t417 x108_78 = some r) ∧ Aside0 (kq ≤ kj50) ∧ Aside0 (Kd.R (Kd.int .i64) 2 wc w.heap.size (fun k_ => some k_ ≠ ((.slice Ao31 t413.length co31) : Value).ownBlock) (.slice Ao80 t398.length co80) t418) ∧ Aside0 (Kd.R (Kd.int .i64) 2 wc w.heap.size (fun k_ => some k_ ≠ ((.slice Ao80 t398.length co80) : Value).ownBlock) (.slice Ao31 t413.length co31) t413) ∧ Aside0 (wc.heap[gb377]? = some (.cells #[.int .i64 a0_0, (.slice A0_1 l0_1.length c0_1)] 24 (0, 0))) ∧ Aside0 (wc.heap[gb394]? = some (.cells #[.int .i64 t390, (.slice Ao31 t413.length co31)] 28 (0, 0))) ∧ Aside0 (Below w.heap.size w wc))
             case first =>
              have H := HC79.out; clear HC79; replace H := Option.bind_eq_some_iff.mp H; obtain ⟨t431, A890, H⟩ := H
              replace H : (if t431 = true then (laws_FnExactFoataForm.j2 kj50 t418 t417 (t430 != t389)) else (laws_FnExactFoataForm.j2 kj50 t418 t417 true)) = some r := H
              have A89 := Aside0.mk A890; clear A890
              by_cases c90 : t431 = true
              ·subst c90
               have H1 : (laws_FnExactFoataForm.j2 kj50 t418 t417 (t430 != t389)) = some r := by rw [if_pos rfl] at H; exact H
               clear H; have H := H1; clear H1
               have H' := Aside0.mk H
               clear H; obtain ⟨Ao91, co91, eo91⟩ := Kd.R_slice HO429.out; subst eo91; obtain ⟨Ao92, co92, eo92⟩ := Kd.R_slice HO_6.out; subst eo92
               go_wp2_with (first | ((with_reducible refine gate_callee (f := 21) rfl ?_); refine goesL_ (some 102) rfl rfl Tryd.func21 (by kernel_rfl) rfl #[.slice Ao91 t427.length co91, .slice Ao92 t386.length co92] rfl lz ?_; (with_reducible refine (laws_eqInt64S.calls kj50 _ _ t427 _ _ t386 true _ ?side1 ?side2 ?side3 ?side4 A89.out).mono ?_); (case side1 => have q_ := Aside0.mk (Kd.R_reads' HO429.out).2.2; exact cQ q_); (case side2 => exact (Kd.R_reads' HO429.out).2.1); (case side3 => have q_ := Aside0.mk (Kd.R_reads' HO_6.out).2.2; exact cQ q_); (case side4 => exact (Kd.R_reads' HO_6.out).2.1); rintro e w' ⟨rfl, ⟨nd, rfl⟩⟩; refine ⟨_, rfl, ?_⟩))
               go_meet
               case rel => exact ⟨_, ((t430 != t389)), sz, H', ⟨by have := HJ15.out; have := HJ50.out; first | omega | exact Nat.le_refl _⟩, ⟨by (try simp only [hl395001_50]); (with_reducible repeat (first | apply Kd.R_alloc | apply Kd.R_drewN | apply Kd.R_drew)); exact Kd.R_mono HO_10.out (fun _ hk => hk.1.1.1.2)⟩, ⟨by (try simp only [hl395001_50]); (with_reducible repeat (first | apply Kd.R_alloc | apply Kd.R_drewN | apply Kd.R_drew)); exact Kd.R_mono HO_395001.out (fun _ hk => hk.1.1.1.2)⟩, ⟨by (try simp only [hl395001_50]); (with_reducible repeat (first | refine blk_drewN ?_ _ | refine blk_drew ?_ | refine blk_alloc ?_ _)); exact BK377.out⟩, ⟨by (try simp only [hl395001_50]); (with_reducible repeat (first | refine blk_drewN ?_ _ | refine blk_drew ?_ | refine blk_alloc ?_ _)); exact BK394.out⟩, ⟨beQ HB⟩⟩
              ·replace c90 := Bool.eq_false_iff.mpr c90
               subst c90
               have H1 : (laws_FnExactFoataForm.j2 kj50 t418 t417 true) = some r := by rw [if_neg (show ¬ (false = true) by decide)] at H; exact H
               clear H; have H := H1; clear H1
               have H' := Aside0.mk H
               clear H; obtain ⟨Ao93, co93, eo93⟩ := Kd.R_slice HO429.out; subst eo93; obtain ⟨Ao94, co94, eo94⟩ := Kd.R_slice HO_6.out; subst eo94
               go_wp2_with (first | ((with_reducible refine gate_callee (f := 21) rfl ?_); refine goesL_ (some 102) rfl rfl Tryd.func21 (by kernel_rfl) rfl #[.slice Ao93 t427.length co93, .slice Ao94 t386.length co94] rfl lz ?_; (with_reducible refine (laws_eqInt64S.calls kj50 _ _ t427 _ _ t386 false _ ?side1 ?side2 ?side3 ?side4 A89.out).mono ?_); (case side1 => have q_ := Aside0.mk (Kd.R_reads' HO429.out).2.2; exact cQ q_); (case side2 => exact (Kd.R_reads' HO429.out).2.1); (case side3 => have q_ := Aside0.mk (Kd.R_reads' HO_6.out).2.2; exact cQ q_); (case side4 => exact (Kd.R_reads' HO_6.out).2.1); rintro e w' ⟨rfl, ⟨nd, rfl⟩⟩; refine ⟨_, rfl, ?_⟩))
               go_meet
               case rel => exact ⟨_, (true), sz, H', ⟨by have := HJ15.out; have := HJ50.out; first | omega | exact Nat.le_refl _⟩, ⟨by (try simp only [hl395001_50]); (with_reducible repeat (first | apply Kd.R_alloc | apply Kd.R_drewN | apply Kd.R_drew)); exact Kd.R_mono HO_10.out (fun _ hk => hk.1.1.1.2)⟩, ⟨by (try simp only [hl395001_50]); (with_reducible repeat (first | apply Kd.R_alloc | apply Kd.R_drewN | apply Kd.R_drew)); exact Kd.R_mono HO_395001.out (fun _ hk => hk.1.1.1.2)⟩, ⟨by (try simp only [hl395001_50]); (with_reducible repeat (first | refine blk_drewN ?_ _ | refine blk_drew ?_ | refine blk_alloc ?_ _)); exact BK377.out⟩, ⟨by (try simp only [hl395001_50]); (with_reducible repeat (first | refine blk_drewN ?_ _ | refine blk_drew ?_ | refine blk_alloc ?_ _)); exact BK394.out⟩, ⟨beQ HB⟩⟩
             case rest =>
              clear HC79
              try clear c1
              try clear c2
              try clear p2
              try clear c3
              try clear c3b0
              try clear c3b1
              try clear c4
              try clear c5
              try clear c6
              try clear c6b0
              try clear c7
              try clear c8
              try clear c9
              try clear c15
              try clear c17
              try clear c18
              try clear c20
              try clear c21
              try clear c24
              try clear c25
              try clear c26
              try clear c27
              try clear c28
              try clear c29
              try clear c37
              try clear c42
              try clear c45
              try clear c48
              try clear c58
              try clear c62
              try clear c62b0
              try clear c64
              try clear c69
              try clear c72
              try clear c72b0
              try clear c75
              try clear c75b0
              try clear c75b1
              try clear c82
              try clear c90
              try clear hcz18_0
              try clear hcz18_1
              try clear hcz20_0
              try clear hcz20_1
              try clear hcz26_0
              try clear hcz26_1
              try clear hcz30_0
              try clear hcz30_1
              try clear hcz33_0
              try clear hcz33_1
              try clear hcz59_0
              try clear hcz59_1
              try clear hcz83_0
              try clear hcz83_1
              try clear hcz8_0
              try clear hcz8_1
              try clear hfz18_0
              try clear hfz18_1
              try clear hfz20_0
              try clear hfz20_1
              try clear hfz26_0
              try clear hfz26_1
              try clear hfz30_0
              try clear hfz30_1
              try clear hfz33_0
              try clear hfz33_1
              try clear hfz59_0
              try clear hfz59_1
              try clear hfz83_0
              try clear hfz83_1
              try clear hfz8_0
              try clear hfz8_1
              try clear p2
              obtain ⟨kq, x108_78, rfl, HA, HJ78, HO_10, HO_395001, BK377, BK394, HB⟩ := hcut; have hl10_78 := (Kd.R_reads' HO_10.out).1; rw [hl10_78] at HO_10
              (try simp only [hl10_78])
              (try simp only [hl10_78] at BK377)
              (try simp only [hl10_78] at BK394)
              (try simp only [hl10_78] at HO_395001)
              cases kq with
              | zero => exact absurd HA.out (by simp [laws_FnExactFoataForm.j2])
              | succ kj78 =>
               have H := HA.out; clear HA
               simp only [laws_FnExactFoataForm.j2] at H
               by_cases c95 : x108_78 = true
               ·subst c95
                have H1 : (some false) = some r := by rw [if_pos rfl] at H; exact H
                clear H; have H := H1; clear H1
                obtain rfl := Option.some.inj H
                go_wp2
                go_ret
                exact ⟨rz, beQ HB⟩
               ·replace c95 := Bool.eq_false_iff.mpr c95
                subst c95
                have H1 : ((laws_heldInt64S.f kj78 t418 1).bind fun t432 => (if t432 < 0 then (some false) else (if t432 = t417 then (some true) else (some false)))) = some r := by rw [if_neg (show ¬ (false = true) by decide)] at H; exact H
                clear H; have H := H1; clear H1; replace H := Option.bind_eq_some_iff.mp H; obtain ⟨t432, A960, H⟩ := H
                replace H : (if t432 < 0 then (some false) else (if t432 = t417 then (some true) else (some false))) = some r := H
                have A96 := Aside0.mk A960; clear A960
                by_cases c97 : t432 < 0
                ·rw [if_pos c97] at H
                 have c97b0 : decide (t432 < 0) = true := decide_eq_true c97
                 clear c97
                 obtain rfl := Option.some.inj H
                 go_wp2_with (first | ((with_reducible refine gate_callee (f := 26) rfl ?_); refine goesL_ (some 111) rfl rfl Tryd.func26 (by kernel_rfl) rfl #[.slice Ao80 t418.length co80, .int .i64 1] rfl lz ?_; (with_reducible refine (laws_heldInt64S.calls kj78 _ _ t418 1 t432 _ ?side1 ?side2 A96.out).mono ?_); (case side1 => have q_ := Aside0.mk (Kd.R_reads' HO_10.out).2.2; exact cQ q_); (case side2 => exact (Kd.R_reads' HO_10.out).2.1); rintro e w' ⟨rfl, ⟨nd, rfl⟩⟩; refine ⟨_, rfl, ?_⟩))
                 go_ret
                 exact ⟨rz, beQ HB⟩
                ·rw [if_neg c97] at H
                 have c97b0 : decide (t432 < 0) = false := decide_eq_false c97
                 clear c97
                 by_cases c98 : t432 = t417
                 ·rw [if_pos c98] at H
                  have c98b0 : (t432 == t417) = true := beq_iff_eq.mpr c98
                  have c98b1 : (t432 != t417) = false := bne_eq_false_iff_eq.mpr c98
                  clear c98
                  obtain rfl := Option.some.inj H
                  go_wp2_with (first | ((with_reducible refine gate_callee (f := 26) rfl ?_); refine goesL_ (some 111) rfl rfl Tryd.func26 (by kernel_rfl) rfl #[.slice Ao80 t418.length co80, .int .i64 1] rfl lz ?_; (with_reducible refine (laws_heldInt64S.calls kj78 _ _ t418 1 t432 _ ?side1 ?side2 A96.out).mono ?_); (case side1 => have q_ := Aside0.mk (Kd.R_reads' HO_10.out).2.2; exact cQ q_); (case side2 => exact (Kd.R_reads' HO_10.out).2.1); rintro e w' ⟨rfl, ⟨nd, rfl⟩⟩; refine ⟨_, rfl, ?_⟩))
                  go_ret
                  exact ⟨rz, beQ HB⟩
                 ·rw [if_neg c98] at H
                  have c98b0 : (t432 == t417) = false := beq_eq_false_iff_ne.mpr c98
                  have c98b1 : (t432 != t417) = true := bne_iff_ne.mpr c98
                  obtain rfl := Option.some.inj H
                  go_wp2_with (first | ((with_reducible refine gate_callee (f := 26) rfl ?_); refine goesL_ (some 111) rfl rfl Tryd.func26 (by kernel_rfl) rfl #[.slice Ao80 t418.length co80, .int .i64 1] rfl lz ?_; (with_reducible refine (laws_heldInt64S.calls kj78 _ _ t418 1 t432 _ ?side1 ?side2 A96.out).mono ?_); (case side1 => have q_ := Aside0.mk (Kd.R_reads' HO_10.out).2.2; exact cQ q_); (case side2 => exact (Kd.R_reads' HO_10.out).2.1); rintro e w' ⟨rfl, ⟨nd, rfl⟩⟩; refine ⟨_, rfl, ?_⟩))
                  go_ret
                  exact ⟨rz, beQ HB⟩
            ·rw [if_neg c75] at H
             have c75b0 : (t419 == t417) = false := beq_eq_false_iff_ne.mpr c75
             have c75b1 : (t419 != t417) = true := bne_iff_ne.mpr c75
             obtain rfl := Option.some.inj H
             obtain ⟨Ao99, co99, eo99⟩ := Kd.R_slice HO_10.out; subst eo99
             go_wp2_with (first | ((with_reducible refine gate_callee (f := 25) rfl ?_); refine goesL_ (some 83) rfl rfl Tryd.func25 (by kernel_rfl) rfl #[.slice Ao99 t398.length co99, .int .i64 1] rfl lz ?_; (with_reducible refine (laws_markInt64S.calls kj50 (fun k_ => some k_ = (.slice Ao99 t398.length co99 : Value).ownBlock) (.slice Ao99 t398.length co99) t398 1 t417 t418 w _ ?side1 ?side2 A70.out).mono ?_); (case side1 => repeat (first | (with_reducible first | exact HB.out | apply below_alloc | apply pw_below_drewN | apply below_drew1 | refine below_set ?_ GE377.out | refine below_set ?_ GE394.out) | exact HB.out)); (case side2 => exact Kd.R_tight rfl HO_10.out); rintro e w100 ⟨rfl, hy0, hb, hkp⟩; refine ⟨_, rfl, ?_⟩; replace HO_6 := Aside0.mk (Kd.R_mono (ok' := fun k_ => some k_ ≠ (.slice Ao99 t398.length co99 : Value).ownBlock ∧ some k_ ≠ (.slice Ao31 t413.length co31 : Value).ownBlock) (Kd.R_keptB (HO_6.out) hkp (fun k_ hk_ hs_ => (hk_.1) hs_)) (fun k_ hk_ => ⟨hk_.1.1, hk_.1.2⟩)); replace HO_395001 := Aside0.mk (Kd.R_mono (ok' := fun k_ => some k_ ≠ (v387 : Value).ownBlock ∧ some k_ ≠ (.slice Ao99 t398.length co99 : Value).ownBlock) (Kd.R_keptB (HO_395001.out) hkp (fun k_ hk_ hs_ => (hk_.2) hs_)) (fun k_ hk_ => ⟨hk_.1.1, hk_.1.2⟩)); replace BK377 := Aside0.mk (blk_kept (blkQ BK377) hkp (fun hs_ => (fun e_ => (Kd.R_ne HO_10.out BK377.out (by decide)) e_) hs_)); replace BK394 := Aside0.mk (blk_kept (blkQ BK394) hkp (fun hs_ => (fun e_ => (Kd.R_ne HO_10.out BK394.out (by decide)) e_) hs_)); replace HO_10 := Aside0.mk (Kd.R_reok rfl hy0 (fun k_ e_ => HO_10.out.1 k_ e_)); replace HB := Aside0.mk (hb); (try clear hb); (try clear hkp); (try clear hy0)) | ((with_reducible refine gate_callee (f := 26) rfl ?_); refine goesL_ (some 86) rfl rfl Tryd.func26 (by kernel_rfl) rfl #[.slice Ao99 t418.length co99, .int .i64 1] rfl (by (try simp only [List.map_toArray, List.map_cons, List.map_nil]); first | done | (rw [show t418.length = t398.length from (Kd.R_reads' HO_10.out).1.symm] <;> rfl) | rfl | (simp only [List.length_drop, List.length_take]; rfl)) ?_; (with_reducible refine (laws_heldInt64S.calls kj50 _ _ t418 1 t419 _ ?side1 ?side2 A71.out).mono ?_); (case side1 => have q_ := Aside0.mk (Kd.R_reads' HO_10.out).2.2; exact cQ q_); (case side2 => rw [show t418.length = t398.length from (Kd.R_reads' HO_10.out).1.symm]; exact (Kd.R_reads' HO_10.out).2.1); rintro e w' ⟨rfl, ⟨nd, rfl⟩⟩; refine ⟨_, rfl, ?_⟩))
             go_ret
             exact ⟨rz, beQ HB⟩
       ·replace c48 := Bool.eq_false_iff.mpr c48
        subst c48
        have H1 : (some false) = some r := by rw [if_neg (show ¬ (false = true) by decide)] at H; exact H
        clear H; have H := H1; clear H1
        obtain rfl := Option.some.inj H
        try go_wp2
        replace HO_6 := Aside0.mk (Kd.R_drew HO_6.out); replace HO_9 := Aside0.mk (Kd.R_drew HO_9.out); replace HO_10 := Aside0.mk (Kd.R_drew HO_10.out); replace HO_395001 := Aside0.mk (Kd.R_drew HO_395001.out); replace BK377 := Aside0.mk (blk_drew BK377.out); replace BK394 := Aside0.mk (blk_drew BK394.out); replace HB := Aside0.mk (below_drew1 HB.out)
        refine start_ (n := 5) (S := fun w' => w'.cell? ⟨gb394, 0, none⟩ = some (.int .i64 t390) ∧ w'.cell? ⟨gb394, 1, none⟩ = some (.slice Ao31 t391.length co31) ∧ w'.cell? ⟨gb377, 0, none⟩ = some (.int .i64 a0_0) ∧ w'.cell? ⟨gb377, 1, none⟩ = some (.slice A0_1 l0_1.length c0_1)) (ds := []) #[false, false, false, false, false] (by kernel_rfl) rfl rfl ⟨bc BK394 0, bc BK394 1, bc BK377 0, bc BK377 1⟩ (fun hHeld => ?_)
        generalize wc.drew = w101 at HO_6 HO_9 HO_10 HO_395001 BK377 BK394 HB hHeld ⊢
        refine take_ (i := 0) (N := some 52) (v := ?_) (a' := ?_) #[true, false, false, false, false] rfl rfl (by kernel_rfl) (fun _ _ _ h => h) (Or.inl ⟨by rfl, ?_⟩) hHeld ?_ ?_
        rotate_left
        ·rintro w' ⟨s0, s1, s2, s3⟩
         go_simp
         with_reducible rfl
        rotate_left
        ·simp only [Act.put, s1, s2, s3, i64_w, i32_w]
         rfl
        refine take_ (i := 1) (N := some 53) (v := ?_) (a' := ?_) #[true, true, false, false, false] rfl rfl (by kernel_rfl) (fun _ _ _ h => h) (Or.inl ⟨by rfl, ?_⟩) hHeld ?_ ?_
        rotate_left
        ·rintro w' ⟨s0, s1, s2, s3⟩
         go_simp
         with_reducible rfl
        rotate_left
        ·simp only [Act.put, s1, s2, s3, i64_w, i32_w]
         rfl
        refine one_ (i := 2) (N := some 54) #[true, true, true, false, false] rfl rfl (by kernel_rfl) (by decide) (fun K hK => ?_)
        refine goes_ Tryd.func17 (by kernel_rfl) rfl #[.agg #[.int .i64 a0_0, .slice A0_1 l0_1.length c0_1]] (by rfl) rfl rfl lz ?_
        with_reducible refine (laws_toAlphabet.calls kj15 a0_0 _ _ l0_1 t403 t404 _ ?side1 ?side2 A43.out).mono ?_
        (case side1 => have q_ := Aside0.mk (Kd.C_below HR0_1.out HB.out); exact cQ q_)
        (case side2 => exact HC0_1.out)
        rintro e w102 ⟨v405, rfl, ho0, hb⟩
        refine ⟨_, rfl, ?_⟩
        have HO406 := Aside0.mk (Kd.R_lower (Kd.R_new' (Kd.R_new' (Kd.R_new' (Kd.R_new' ho0 (Kd.R_lt (kdQ HO_6))) (Kd.R_lt (kdQ HO_9))) (Kd.R_lt (kdQ HO_10))) (Kd.R_lt (kdQ HO_395001))) (below_size (beQ HB))); replace HO_6 := Aside0.mk (Kd.R_elder' (kdQ HO_6) (Kd.R_base ho0) hb); replace HO_9 := Aside0.mk (Kd.R_elder' (kdQ HO_9) (Kd.R_base ho0) hb); replace HO_10 := Aside0.mk (Kd.R_elder' (kdQ HO_10) (Kd.R_base ho0) hb); replace HO_395001 := Aside0.mk (Kd.R_elder' (kdQ HO_395001) (Kd.R_base ho0) hb); replace BK377 := bb BK377 hb; replace BK394 := bb BK394 hb; replace HB := Aside0.mk (below_step (beQ HB) hb)
        (try clear hb)
        (try clear hb2)
        (try clear hk)
        (try clear hi)
        (try clear ho0)
        obtain ⟨Ao103, co103, eo103⟩ := Kd.R_slice HO406.out
        (first | subst eo103 | (injection eo103 with f1_ f2_ f3_; have f4_ := f1_.symm; have f5_ := f3_.symm; clear f1_ f2_ f3_; subst f4_; subst f5_))
        refine hK.out _ _ ⟨bc BK394 0, bc BK394 1, bc BK377 0, bc BK377 1⟩ (fun hHeld => ?_)
        clear hK K
        refine norm_ (a' := ?_) ?_ ?_
        rotate_left
        ·show Act.put _ (some 54) _ = _
         simp only [Act.put, s1, s2, s3, i64_w, i32_w]
         rfl
        refine one_ (i := 3) (N := some 55) #[true, true, true, true, false] rfl rfl (by kernel_rfl) (by decide) (fun K hK => ?_)
        refine goes_ Tryd.func20 (by kernel_rfl) rfl #[.agg #[.int .i64 t390, .slice Ao31 t391.length co31], .agg #[.int .i64 t403, .slice Ao103 t404.length co103]] (by rfl) rfl rfl lz ?_
        with_reducible refine (laws_eqAlphabet.calls kj15 t390 _ _ t391 t403 _ _ t404 true _ ?side1 ?side2 ?side3 ?side4 A44.out).mono ?_
        (case side1 => have q_ := Aside0.mk (Kd.R_reads' HO_395001.out).2.2; exact cQ q_)
        (case side2 => exact (Kd.R_reads' HO_395001.out).2.1)
        (case side3 => have q_ := Aside0.mk (Kd.R_reads' HO406.out).2.2; exact cQ q_)
        (case side4 => exact (Kd.R_reads' HO406.out).2.1)
        rintro e w104 ⟨rfl, hb⟩
        refine ⟨_, rfl, ?_⟩
        replace HO_6 := kb HO_6 hb; replace HO_9 := kb HO_9 hb; replace HO_10 := kb HO_10 hb; replace HO_395001 := kb HO_395001 hb; replace HO406 := kb HO406 hb; replace BK377 := bb BK377 hb; replace BK394 := bb BK394 hb; replace HB := Aside0.mk (below_step (beQ HB) hb)
        (try clear hb)
        (try clear hb2)
        (try clear hk)
        (try clear hi)
        refine hK.out _ _ ⟨bc BK394 0, bc BK394 1, bc BK377 0, bc BK377 1⟩ (fun hHeld => ?_)
        clear hK K
        refine norm_ (a' := ?_) ?_ ?_
        rotate_left
        ·show Act.put _ (some 55) _ = _
         simp only [Act.put, s1, s2, s3, i64_w, i32_w]
         rfl
        refine pure_ (i := 4) (N := some 56) (v := ?_) (a' := ?_) #[true, true, true, true, true] rfl rfl (by kernel_rfl) (fun _ _ _ h => h) (Or.inl ⟨by rfl, ?_⟩) ?_ ?_
        rotate_left
        ·intro w'
         go_simp
         with_reducible rfl
        rotate_left
        ·simp only [Act.put, s1, s2, s3, i64_w, i32_w]
         rfl
        refine done_ (by kernel_rfl) ?_
        try go_wp2_with (first | ((with_reducible refine gate_callee (f := 18) rfl ?_); refine goesL_ (some 59) rfl rfl Tryd.func18 (by kernel_rfl) rfl #[.slice A1 l1.length c1] rfl lz ?_; (with_reducible refine (laws_toInt64S.calls kj15 _ _ l1 t408 _ ?side1 ?side2 A46.out).mono ?_); (case side1 => have q_ := Aside0.mk (Kd.C_below HR1.out HB.out); exact cQ q_); (case side2 => exact HC1.out); rintro e w105 ⟨v409, rfl, ho0, hb⟩; refine ⟨_, rfl, ?_⟩; have HO410 := Aside0.mk (Kd.R_lower (Kd.R_new' (Kd.R_new' (Kd.R_new' (Kd.R_new' (Kd.R_new' ho0 (Kd.R_lt (kdQ HO_6))) (Kd.R_lt (kdQ HO_9))) (Kd.R_lt (kdQ HO_10))) (Kd.R_lt (kdQ HO_395001))) (Kd.R_lt (kdQ HO406))) (below_size (beQ HB))); replace HO_6 := Aside0.mk (Kd.R_elder' (kdQ HO_6) (Kd.R_base ho0) hb); replace HO_9 := Aside0.mk (Kd.R_elder' (kdQ HO_9) (Kd.R_base ho0) hb); replace HO_10 := Aside0.mk (Kd.R_elder' (kdQ HO_10) (Kd.R_base ho0) hb); replace HO_395001 := Aside0.mk (Kd.R_elder' (kdQ HO_395001) (Kd.R_base ho0) hb); replace HO406 := Aside0.mk (Kd.R_elder' (kdQ HO406) (Kd.R_base ho0) hb); replace BK377 := bb BK377 hb; replace BK394 := bb BK394 hb; replace HB := Aside0.mk (below_step (beQ HB) hb); (try clear hb); (try clear hb2); (try clear hk); (try clear hi); (try clear ho0); obtain ⟨Ao106, co106, eo106⟩ := Kd.R_slice HO410.out; subst eo106) | ((with_reducible refine gate_callee (f := 21) rfl ?_); refine goesL_ (some 60) rfl rfl Tryd.func21 (by kernel_rfl) rfl #[.slice Ao34 t395.length co34, .slice Ao106 t408.length co106] rfl lz ?_; (with_reducible refine (laws_eqInt64S.calls kj15 _ _ t395 _ _ t408 false _ ?side1 ?side2 ?side3 ?side4 A47.out).mono ?_); (case side1 => have q_ := Aside0.mk (Kd.R_reads' HO_9.out).2.2; exact cQ q_); (case side2 => exact (Kd.R_reads' HO_9.out).2.1); (case side3 => have q_ := Aside0.mk (Kd.R_reads' HO410.out).2.2; exact cQ q_); (case side4 => exact (Kd.R_reads' HO410.out).2.1); rintro e w' ⟨rfl, ⟨nd, rfl⟩⟩; refine ⟨_, rfl, ?_⟩))
        go_ret
        exact ⟨rz, beQ HB⟩
      ·replace c45 := Bool.eq_false_iff.mpr c45
       subst c45
       have H1 : (some false) = some r := by rw [if_neg (show ¬ (false = true) by decide)] at H; exact H
       clear H; have H := H1; clear H1
       obtain rfl := Option.some.inj H
       try go_wp2
       replace HO_6 := Aside0.mk (Kd.R_drew HO_6.out); replace HO_9 := Aside0.mk (Kd.R_drew HO_9.out); replace HO_10 := Aside0.mk (Kd.R_drew HO_10.out); replace HO_395001 := Aside0.mk (Kd.R_drew HO_395001.out); replace BK377 := Aside0.mk (blk_drew BK377.out); replace BK394 := Aside0.mk (blk_drew BK394.out); replace HB := Aside0.mk (below_drew1 HB.out)
       refine start_ (n := 5) (S := fun w' => w'.cell? ⟨gb394, 0, none⟩ = some (.int .i64 t390) ∧ w'.cell? ⟨gb394, 1, none⟩ = some (.slice Ao31 t391.length co31) ∧ w'.cell? ⟨gb377, 0, none⟩ = some (.int .i64 a0_0) ∧ w'.cell? ⟨gb377, 1, none⟩ = some (.slice A0_1 l0_1.length c0_1)) (ds := []) #[false, false, false, false, false] (by kernel_rfl) rfl rfl ⟨bc BK394 0, bc BK394 1, bc BK377 0, bc BK377 1⟩ (fun hHeld => ?_)
       generalize wc.drew = w107 at HO_6 HO_9 HO_10 HO_395001 BK377 BK394 HB hHeld ⊢
       refine take_ (i := 0) (N := some 52) (v := ?_) (a' := ?_) #[true, false, false, false, false] rfl rfl (by kernel_rfl) (fun _ _ _ h => h) (Or.inl ⟨by rfl, ?_⟩) hHeld ?_ ?_
       rotate_left
       ·rintro w' ⟨s0, s1, s2, s3⟩
        go_simp
        with_reducible rfl
       rotate_left
       ·simp only [Act.put, s1, s2, s3, i64_w, i32_w]
        rfl
       refine take_ (i := 1) (N := some 53) (v := ?_) (a' := ?_) #[true, true, false, false, false] rfl rfl (by kernel_rfl) (fun _ _ _ h => h) (Or.inl ⟨by rfl, ?_⟩) hHeld ?_ ?_
       rotate_left
       ·rintro w' ⟨s0, s1, s2, s3⟩
        go_simp
        with_reducible rfl
       rotate_left
       ·simp only [Act.put, s1, s2, s3, i64_w, i32_w]
        rfl
       refine one_ (i := 2) (N := some 54) #[true, true, true, false, false] rfl rfl (by kernel_rfl) (by decide) (fun K hK => ?_)
       refine goes_ Tryd.func17 (by kernel_rfl) rfl #[.agg #[.int .i64 a0_0, .slice A0_1 l0_1.length c0_1]] (by rfl) rfl rfl lz ?_
       with_reducible refine (laws_toAlphabet.calls kj15 a0_0 _ _ l0_1 t403 t404 _ ?side1 ?side2 A43.out).mono ?_
       (case side1 => have q_ := Aside0.mk (Kd.C_below HR0_1.out HB.out); exact cQ q_)
       (case side2 => exact HC0_1.out)
       rintro e w108 ⟨v405, rfl, ho0, hb⟩
       refine ⟨_, rfl, ?_⟩
       have HO406 := Aside0.mk (Kd.R_lower (Kd.R_new' (Kd.R_new' (Kd.R_new' (Kd.R_new' ho0 (Kd.R_lt (kdQ HO_6))) (Kd.R_lt (kdQ HO_9))) (Kd.R_lt (kdQ HO_10))) (Kd.R_lt (kdQ HO_395001))) (below_size (beQ HB))); replace HO_6 := Aside0.mk (Kd.R_elder' (kdQ HO_6) (Kd.R_base ho0) hb); replace HO_9 := Aside0.mk (Kd.R_elder' (kdQ HO_9) (Kd.R_base ho0) hb); replace HO_10 := Aside0.mk (Kd.R_elder' (kdQ HO_10) (Kd.R_base ho0) hb); replace HO_395001 := Aside0.mk (Kd.R_elder' (kdQ HO_395001) (Kd.R_base ho0) hb); replace BK377 := bb BK377 hb; replace BK394 := bb BK394 hb; replace HB := Aside0.mk (below_step (beQ HB) hb)
       (try clear hb)
       (try clear hb2)
       (try clear hk)
       (try clear hi)
       (try clear ho0)
       obtain ⟨Ao109, co109, eo109⟩ := Kd.R_slice HO406.out
       (first | subst eo109 | (injection eo109 with f1_ f2_ f3_; have f4_ := f1_.symm; have f5_ := f3_.symm; clear f1_ f2_ f3_; subst f4_; subst f5_))
       refine hK.out _ _ ⟨bc BK394 0, bc BK394 1, bc BK377 0, bc BK377 1⟩ (fun hHeld => ?_)
       clear hK K
       refine norm_ (a' := ?_) ?_ ?_
       rotate_left
       ·show Act.put _ (some 54) _ = _
        simp only [Act.put, s1, s2, s3, i64_w, i32_w]
        rfl
       refine one_ (i := 3) (N := some 55) #[true, true, true, true, false] rfl rfl (by kernel_rfl) (by decide) (fun K hK => ?_)
       refine goes_ Tryd.func20 (by kernel_rfl) rfl #[.agg #[.int .i64 t390, .slice Ao31 t391.length co31], .agg #[.int .i64 t403, .slice Ao109 t404.length co109]] (by rfl) rfl rfl lz ?_
       with_reducible refine (laws_eqAlphabet.calls kj15 t390 _ _ t391 t403 _ _ t404 false _ ?side1 ?side2 ?side3 ?side4 A44.out).mono ?_
       (case side1 => have q_ := Aside0.mk (Kd.R_reads' HO_395001.out).2.2; exact cQ q_)
       (case side2 => exact (Kd.R_reads' HO_395001.out).2.1)
       (case side3 => have q_ := Aside0.mk (Kd.R_reads' HO406.out).2.2; exact cQ q_)
       (case side4 => exact (Kd.R_reads' HO406.out).2.1)
       rintro e w110 ⟨rfl, hb⟩
       refine ⟨_, rfl, ?_⟩
       replace HO_6 := kb HO_6 hb; replace HO_9 := kb HO_9 hb; replace HO_10 := kb HO_10 hb; replace HO_395001 := kb HO_395001 hb; replace HO406 := kb HO406 hb; replace BK377 := bb BK377 hb; replace BK394 := bb BK394 hb; replace HB := Aside0.mk (below_step (beQ HB) hb)
       (try clear hb)
       (try clear hb2)
       (try clear hk)
       (try clear hi)
       refine hK.out _ _ ⟨bc BK394 0, bc BK394 1, bc BK377 0, bc BK377 1⟩ (fun hHeld => ?_)
       clear hK K
       refine norm_ (a' := ?_) ?_ ?_
       rotate_left
       ·show Act.put _ (some 55) _ = _
        simp only [Act.put, s1, s2, s3, i64_w, i32_w]
        rfl
       refine pure_ (i := 4) (N := some 56) (v := ?_) (a' := ?_) #[true, true, true, true, true] rfl rfl (by kernel_rfl) (fun _ _ _ h => h) (Or.inl ⟨by rfl, ?_⟩) ?_ ?_
       rotate_left
       ·intro w'
        go_simp
        with_reducible rfl
       rotate_left
       ·simp only [Act.put, s1, s2, s3, i64_w, i32_w]
        rfl
       refine done_ (by kernel_rfl) ?_
       try go_wp2
       go_ret
       exact ⟨rz, beQ HB⟩

end Go.Proofs.YtlpodkpnoopnnaaDoor.G
