/- How the program's functions compute, function by function: each is told by a plain Lean function of the same answers, under the condition that this one answers. Written by a program of this project over the seat's translation; Lean checks it. -/
import Derived.Test.YtjckfnaohikmbaaDoorG0
import Derived.Test.YtjckfnaohikmbaaDoorGQ02
import Derived.Test.YtjckfnaohikmbaaDoorGQ03
import Derived.Test.YtjckfnaohikmbaaDoorGQ04
namespace Go.Proofs.YtjckfnaohikmbaaDoor.G
open Go.RowKit Go.Proofs.YtjckfnaohikmbaaDoorW.PrintWords Go.Proofs.YtjckfnaohikmbaaDoorW.PrintLast Go.Proofs.YtjckfnaohikmbaaDoorW.PrintMore
attribute [local go_sem] max2_int min2_int max_two min_two max_three min_three max_four min_four   -- for this text's walks alone
set_option linter.unusedVariables false
set_option linter.unusedSimpArgs false

/-! ### laws_FnExactMaximalCliques: function 4 -/
mutual
def laws_FnExactMaximalCliques.j0 : Nat → List Int → List Int → Int → List Int → List Int → Int → Bool → Option (Bool)
 | 0, _, _, _, _, _, _, _ => none
 | k + 1, x0, x3, x4, x5, x6, x7, x37 => if x37 = true then (some false) else ((laws_toInt64S.f k x0).bind fun t389 => ((laws_eqInt64S.f k x5 t389).bind fun t392 => (if t392 = true then ((laws_markInt64S.f k x5 1).bind fun bt393 => (if bt393.1 < 0 then (laws_FnExactMaximalCliques.j1 k x0 x3 x4 x6 true) else ((laws_eqInt64S.f k x6 x3).bind fun t395 => (if t395 = true then (laws_FnExactMaximalCliques.j1 k x0 x3 x4 x6 (x7 != x4)) else (laws_FnExactMaximalCliques.j1 k x0 x3 x4 x6 true))))) else (some false))))
def laws_FnExactMaximalCliques.j1 : Nat → List Int → List Int → Int → List Int → Bool → Option (Bool)
 | 0, _, _, _, _, _ => none
 | k + 1, x0, x3, x4, x6, x58 => if x58 = true then (some false) else ((laws_markInt64S.f k x6 1).bind fun bt396 => ((laws_heldInt64S.f k bt396.2 1).bind fun t398 => (if t398 < 0 then (some false) else (if t398 = bt396.1 then ((laws_toInt64S.f k x0).bind fun t399 => ((impl_MaximalCliques.f k t399).bind fun bt402 => ((laws_eqInt64S.f k bt402.1 x3).bind fun t406 => (if t406 = true then (laws_FnExactMaximalCliques.j2 k bt396.2 bt396.1 (bt402.2 != x4)) else (laws_FnExactMaximalCliques.j2 k bt396.2 bt396.1 true))))) else (some false)))))
def laws_FnExactMaximalCliques.j2 : Nat → List Int → Int → Bool → Option (Bool)
 | 0, _, _, _ => none
 | k + 1, x6, x9, x84 => if x84 = true then (some false) else ((laws_heldInt64S.f k x6 1).bind fun t407 => (if t407 < 0 then (some false) else (if t407 = x9 then (some true) else (some false))))
end
def laws_FnExactMaximalCliques.f (k : Nat) (l0 : List Int) : Option (Bool) := if (l0.length : Int) > 1048576 then (some true) else ((laws_toInt64S.f k l0).bind fun t374 => ((spec_MaximalCliques.f k t374).bind fun bt377 => ((laws_toInt64S.f k l0).bind fun t381 => ((impl_MaximalCliques.f k t381).bind fun bt384 => ((laws_eqInt64S.f k bt384.1 bt377.1).bind fun t388 => (if t388 = true then (laws_FnExactMaximalCliques.j0 k l0 bt377.1 bt377.2 t381 bt384.1 bt384.2 (bt384.2 != bt377.2)) else (laws_FnExactMaximalCliques.j0 k l0 bt377.1 bt377.2 t381 bt384.1 bt384.2 true)))))))
theorem laws_FnExactMaximalCliques.mono_l : ∀ k, (∀ y0 y1 y2 y3 y4 y5 y6, LeO (laws_FnExactMaximalCliques.j0 k y0 y1 y2 y3 y4 y5 y6) (laws_FnExactMaximalCliques.j0 (k + 1) y0 y1 y2 y3 y4 y5 y6)) ∧ (∀ y0 y1 y2 y3 y4, LeO (laws_FnExactMaximalCliques.j1 k y0 y1 y2 y3 y4) (laws_FnExactMaximalCliques.j1 (k + 1) y0 y1 y2 y3 y4)) ∧ (∀ y0 y1 y2, LeO (laws_FnExactMaximalCliques.j2 k y0 y1 y2) (laws_FnExactMaximalCliques.j2 (k + 1) y0 y1 y2))
 | 0 => ⟨fun _ _ _ _ _ _ _ r h => by simp [laws_FnExactMaximalCliques.j0] at h, fun _ _ _ _ _ r h => by simp [laws_FnExactMaximalCliques.j1] at h, fun _ _ _ r h => by simp [laws_FnExactMaximalCliques.j2] at h⟩
 | k + 1 => by
  obtain ⟨ih0, ih1, ih2⟩ := laws_FnExactMaximalCliques.mono_l k
  refine ⟨?_, ?_, ?_⟩
  ·intro y0 y1 y2 y3 y4 y5 y6
   unfold laws_FnExactMaximalCliques.j0
   repeat' first
   | (with_reducible exact ih0 _ _ _ _ _ _ _)
   | (with_reducible exact ih1 _ _ _ _ _)
   | (with_reducible exact ih2 _ _ _)
   | (with_reducible exact impl_MaximalCliques.mono _ _)
   | (with_reducible exact laws_eqInt64S.mono _ _ _)
   | (with_reducible exact laws_heldInt64S.mono _ _ _)
   | (with_reducible exact laws_markInt64S.mono _ _ _)
   | (with_reducible exact laws_toInt64S.mono _ _)
   | (with_reducible exact spec_MaximalCliques.mono _ _)
   | (with_reducible exact LeO.refl _)
   | (with_reducible exact LeO.none _)
   | (with_reducible refine LeO.ite ?_ ?_)
   | (with_reducible refine LeO.bind ?_ (fun _ => ?_))
   | exact ih0 _ _ _ _ _ _ _
   | exact ih1 _ _ _ _ _
   | exact ih2 _ _ _
   | exact impl_MaximalCliques.mono _ _
   | exact laws_eqInt64S.mono _ _ _
   | exact laws_heldInt64S.mono _ _ _
   | exact laws_markInt64S.mono _ _ _
   | exact laws_toInt64S.mono _ _
   | exact spec_MaximalCliques.mono _ _
   | exact LeO.none _
   | refine LeO.ite ?_ ?_
   | refine LeO.bind ?_ (fun _ => ?_)
  ·intro y0 y1 y2 y3 y4
   unfold laws_FnExactMaximalCliques.j1
   repeat' first
   | (with_reducible exact ih0 _ _ _ _ _ _ _)
   | (with_reducible exact ih1 _ _ _ _ _)
   | (with_reducible exact ih2 _ _ _)
   | (with_reducible exact impl_MaximalCliques.mono _ _)
   | (with_reducible exact laws_eqInt64S.mono _ _ _)
   | (with_reducible exact laws_heldInt64S.mono _ _ _)
   | (with_reducible exact laws_markInt64S.mono _ _ _)
   | (with_reducible exact laws_toInt64S.mono _ _)
   | (with_reducible exact spec_MaximalCliques.mono _ _)
   | (with_reducible exact LeO.refl _)
   | (with_reducible exact LeO.none _)
   | (with_reducible refine LeO.ite ?_ ?_)
   | (with_reducible refine LeO.bind ?_ (fun _ => ?_))
   | exact ih0 _ _ _ _ _ _ _
   | exact ih1 _ _ _ _ _
   | exact ih2 _ _ _
   | exact impl_MaximalCliques.mono _ _
   | exact laws_eqInt64S.mono _ _ _
   | exact laws_heldInt64S.mono _ _ _
   | exact laws_markInt64S.mono _ _ _
   | exact laws_toInt64S.mono _ _
   | exact spec_MaximalCliques.mono _ _
   | exact LeO.none _
   | refine LeO.ite ?_ ?_
   | refine LeO.bind ?_ (fun _ => ?_)
  ·intro y0 y1 y2
   unfold laws_FnExactMaximalCliques.j2
   repeat' first
   | (with_reducible exact ih0 _ _ _ _ _ _ _)
   | (with_reducible exact ih1 _ _ _ _ _)
   | (with_reducible exact ih2 _ _ _)
   | (with_reducible exact impl_MaximalCliques.mono _ _)
   | (with_reducible exact laws_eqInt64S.mono _ _ _)
   | (with_reducible exact laws_heldInt64S.mono _ _ _)
   | (with_reducible exact laws_markInt64S.mono _ _ _)
   | (with_reducible exact laws_toInt64S.mono _ _)
   | (with_reducible exact spec_MaximalCliques.mono _ _)
   | (with_reducible exact LeO.refl _)
   | (with_reducible exact LeO.none _)
   | (with_reducible refine LeO.ite ?_ ?_)
   | (with_reducible refine LeO.bind ?_ (fun _ => ?_))
   | exact ih0 _ _ _ _ _ _ _
   | exact ih1 _ _ _ _ _
   | exact ih2 _ _ _
   | exact impl_MaximalCliques.mono _ _
   | exact laws_eqInt64S.mono _ _ _
   | exact laws_heldInt64S.mono _ _ _
   | exact laws_markInt64S.mono _ _ _
   | exact laws_toInt64S.mono _ _
   | exact spec_MaximalCliques.mono _ _
   | exact LeO.none _
   | refine LeO.ite ?_ ?_
   | refine LeO.bind ?_ (fun _ => ?_)
theorem laws_FnExactMaximalCliques.mono : ∀ a0 k, LeO (laws_FnExactMaximalCliques.f k a0) (laws_FnExactMaximalCliques.f (k + 1) a0) := by
 intro a0 k
 obtain ⟨ih0, ih1, ih2⟩ := laws_FnExactMaximalCliques.mono_l k
 unfold laws_FnExactMaximalCliques.f
 repeat' first
   | (with_reducible exact ih0 _ _ _ _ _ _ _)
   | (with_reducible exact ih1 _ _ _ _ _)
   | (with_reducible exact ih2 _ _ _)
   | (with_reducible exact impl_MaximalCliques.mono _ _)
   | (with_reducible exact laws_eqInt64S.mono _ _ _)
   | (with_reducible exact laws_heldInt64S.mono _ _ _)
   | (with_reducible exact laws_markInt64S.mono _ _ _)
   | (with_reducible exact laws_toInt64S.mono _ _)
   | (with_reducible exact spec_MaximalCliques.mono _ _)
   | (with_reducible exact LeO.refl _)
   | (with_reducible exact LeO.none _)
   | (with_reducible refine LeO.ite ?_ ?_)
   | (with_reducible refine LeO.bind ?_ (fun _ => ?_))
   | exact ih0 _ _ _ _ _ _ _
   | exact ih1 _ _ _ _ _
   | exact ih2 _ _ _
   | exact impl_MaximalCliques.mono _ _
   | exact laws_eqInt64S.mono _ _ _
   | exact laws_heldInt64S.mono _ _ _
   | exact laws_markInt64S.mono _ _ _
   | exact laws_toInt64S.mono _ _
   | exact spec_MaximalCliques.mono _ _
   | exact LeO.none _
   | refine LeO.ite ?_ ?_
   | refine LeO.bind ?_ (fun _ => ?_)
set_option maxHeartbeats 8000000 in
set_option maxRecDepth 100000 in
theorem laws_FnExactMaximalCliques.calls (k : Nat) (A0 : Option Addr) (c0 : Nat) (l0 : List Int) (r : Bool) (w : World) (hr0 : Kd.C (Kd.int .i64) w A0 l0.length l0) (hc0 : l0.length ≤ c0) (hT : TabW w) (h : laws_FnExactMaximalCliques.f k l0 = some r) :
  Calls Tryd.prog 4 #[.slice A0 l0.length c0] w fun e w' => e = .returned (.bool r) ∧ Below w.heap.size w w' := by
 have HT := Aside0.mk hT; clear hT; have HR0 := Aside0.mk hr0; have HC0 := Aside0.mk hc0; clear hr0 hc0; have HB := Aside0.mk (Below.refl w.heap.size w)
 have H : (if (l0.length : Int) > 1048576 then (some true) else ((laws_toInt64S.f k l0).bind fun t374 => ((spec_MaximalCliques.f k t374).bind fun bt377 => ((laws_toInt64S.f k l0).bind fun t381 => ((impl_MaximalCliques.f k t381).bind fun bt384 => ((laws_eqInt64S.f k bt384.1 bt377.1).bind fun t388 => (if t388 = true then (laws_FnExactMaximalCliques.j0 k l0 bt377.1 bt377.2 t381 bt384.1 bt384.2 (bt384.2 != bt377.2)) else (laws_FnExactMaximalCliques.j0 k l0 bt377.1 bt377.2 t381 bt384.1 bt384.2 true)))))))) = some r := h
 clear h
 by_cases c2 : (l0.length : Int) > 1048576
 ·rw [if_pos c2] at H
  have c2b0 : decide (1048576 < (l0.length : Int)) = true := decide_eq_true c2
  have c2b1 : decide (1048576 < l0.length) = true := decide_eq_true (by omega)
  clear c2
  obtain rfl := Option.some.inj H
  go_enter Tryd.func4, Tryd.ntmps4
  go_wp2
  go_ret
  exact ⟨rz, beQ HB⟩
 ·rw [if_neg c2] at H
  have c2b0 : decide (1048576 < (l0.length : Int)) = false := decide_eq_false c2
  have c2b1 : decide (1048576 < l0.length) = false := decide_eq_false (by omega)
  clear c2; replace H := Option.bind_eq_some_iff.mp H; obtain ⟨t374, A30, H⟩ := H
  replace H : ((spec_MaximalCliques.f k t374).bind fun bt377 => ((laws_toInt64S.f k l0).bind fun t381 => ((impl_MaximalCliques.f k t381).bind fun bt384 => ((laws_eqInt64S.f k bt384.1 bt377.1).bind fun t388 => (if t388 = true then (laws_FnExactMaximalCliques.j0 k l0 bt377.1 bt377.2 t381 bt384.1 bt384.2 (bt384.2 != bt377.2)) else (laws_FnExactMaximalCliques.j0 k l0 bt377.1 bt377.2 t381 bt384.1 bt384.2 true)))))) = some r := H
  have A3 := Aside0.mk A30; clear A30; replace H := Option.bind_eq_some_iff.mp H
  obtain ⟨⟨t377, t378⟩, A40, H⟩ := H
  replace H : ((laws_toInt64S.f k l0).bind fun t381 => ((impl_MaximalCliques.f k t381).bind fun bt384 => ((laws_eqInt64S.f k bt384.1 t377).bind fun t388 => (if t388 = true then (laws_FnExactMaximalCliques.j0 k l0 t377 t378 t381 bt384.1 bt384.2 (bt384.2 != t378)) else (laws_FnExactMaximalCliques.j0 k l0 t377 t378 t381 bt384.1 bt384.2 true))))) = some r := H
  have A4 := Aside0.mk A40; clear A40; replace H := Option.bind_eq_some_iff.mp H; obtain ⟨t381, A50, H⟩ := H
  replace H : ((impl_MaximalCliques.f k t381).bind fun bt384 => ((laws_eqInt64S.f k bt384.1 t377).bind fun t388 => (if t388 = true then (laws_FnExactMaximalCliques.j0 k l0 t377 t378 t381 bt384.1 bt384.2 (bt384.2 != t378)) else (laws_FnExactMaximalCliques.j0 k l0 t377 t378 t381 bt384.1 bt384.2 true)))) = some r := H
  have A5 := Aside0.mk A50; clear A50; replace H := Option.bind_eq_some_iff.mp H
  obtain ⟨⟨t384, t385⟩, A60, H⟩ := H
  replace H : ((laws_eqInt64S.f k t384 t377).bind fun t388 => (if t388 = true then (laws_FnExactMaximalCliques.j0 k l0 t377 t378 t381 t384 t385 (t385 != t378)) else (laws_FnExactMaximalCliques.j0 k l0 t377 t378 t381 t384 t385 true))) = some r := H
  have A6 := Aside0.mk A60; clear A60; have HC7 := Aside0.mk H; clear H
  go_enter Tryd.func4, Tryd.ntmps4
  go_upto_region 6 with (first | ((with_reducible refine gate_callee (f := 9) rfl ?_); refine goesL_ (some 18) rfl rfl Tryd.func9 (by kernel_rfl) rfl #[.slice A0 l0.length c0] rfl lz ?_; (with_reducible refine (laws_toInt64S.calls k _ _ l0 t374 _ ?side1 ?side2 A3.out).mono ?_); (case side1 => have q_ := Aside0.mk HR0.out; exact cQ q_); (case side2 => exact HC0.out); rintro e w8 ⟨v375, rfl, ho0, hb⟩; refine ⟨_, rfl, ?_⟩; have HO376 := Aside0.mk (Kd.R_lower ho0 (below_size (beQ HB))); replace HB := Aside0.mk (below_step (beQ HB) hb); (try clear hb); (try clear hb2); (try clear hk); (try clear hi); (try clear hgw_); (try clear ho0); obtain ⟨Ao9, co9, eo9⟩ := Kd.R_slice HO376.out; subst eo9) | ((with_reducible refine gate_callee (f := 14) rfl ?_); refine goesL_ (some 19) rfl rfl Tryd.func14 (by kernel_rfl) rfl #[.slice Ao9 t374.length co9] rfl lz ?_; (with_reducible refine (spec_MaximalCliques.calls k _ _ t374 t377 t378 _ ?side1 ?side2 A4.out).mono ?_); (case side1 => have q_ := Aside0.mk (Kd.R_reads' HO376.out).2.2; exact cQ q_); (case side2 => exact (Kd.R_reads' HO376.out).2.1); rintro e w10 ⟨v379, rfl, ho0, hb⟩; refine ⟨_, rfl, ?_⟩; have HO380 := Aside0.mk (Kd.R_lower (Kd.R_new' ho0 (Kd.R_lt (kdQ HO376))) (below_size (beQ HB))); replace HO376 := Aside0.mk (Kd.R_elder' (kdQ HO376) (Kd.R_base ho0) hb); replace HB := Aside0.mk (below_step (beQ HB) hb); (try clear hb); (try clear hb2); (try clear hk); (try clear hi); (try clear hgw_); (try clear ho0)) | ((with_reducible refine gate_callee (f := 9) rfl ?_); refine goesL_ (some 23) rfl rfl Tryd.func9 (by kernel_rfl) rfl #[.slice A0 l0.length c0] rfl lz ?_; (with_reducible refine (laws_toInt64S.calls k _ _ l0 t381 _ ?side1 ?side2 A5.out).mono ?_); (case side1 => have q_ := Aside0.mk (Kd.C_below HR0.out HB.out); exact cQ q_); (case side2 => exact HC0.out); rintro e w11 ⟨v382, rfl, ho0, hb⟩; refine ⟨_, rfl, ?_⟩; have HO383 := Aside0.mk (Kd.R_lower (Kd.R_new' (Kd.R_new' ho0 (Kd.R_lt (kdQ HO376))) (Kd.R_lt (kdQ HO380))) (below_size (beQ HB))); replace HO376 := Aside0.mk (Kd.R_elder' (kdQ HO376) (Kd.R_base ho0) hb); replace HO380 := Aside0.mk (Kd.R_elder' (kdQ HO380) (Kd.R_base ho0) hb); replace HB := Aside0.mk (below_step (beQ HB) hb); (try clear hb); (try clear hb2); (try clear hk); (try clear hi); (try clear hgw_); (try clear ho0); obtain ⟨Ao12, co12, eo12⟩ := Kd.R_slice HO383.out; subst eo12) | ((with_reducible refine gate_callee (f := 15) rfl ?_); refine goesL_ (some 26) rfl rfl Tryd.func15 (by kernel_rfl) rfl #[.slice Ao12 t381.length co12] rfl lz ?_; (with_reducible refine (impl_MaximalCliques.calls k _ _ t381 t384 t385 _ ?side1 ?side2 ?side3 A6.out).mono ?_); (case side1 => have q_ := Aside0.mk (Kd.R_reads' HO383.out).2.2; exact cQ q_); (case side2 => exact (Kd.R_reads' HO383.out).2.1); (case side3 => exact TabW.below HT.out (beQ HB)); rintro e w13 ⟨v386, rfl, ho0, hb⟩; refine ⟨_, rfl, ?_⟩; have HO387 := Aside0.mk (Kd.R_lower (Kd.R_new' (Kd.R_new' (Kd.R_new' ho0 (Kd.R_lt (kdQ HO376))) (Kd.R_lt (kdQ HO380))) (Kd.R_lt (kdQ HO383))) (below_size (beQ HB))); replace HO376 := Aside0.mk (Kd.R_elder' (kdQ HO376) (Kd.R_base ho0) hb); replace HO380 := Aside0.mk (Kd.R_elder' (kdQ HO380) (Kd.R_base ho0) hb); replace HO383 := Aside0.mk (Kd.R_elder' (kdQ HO383) (Kd.R_base ho0) hb); replace HB := Aside0.mk (below_step (beQ HB) hb); (try clear hb); (try clear hb2); (try clear hk); (try clear hi); (try clear hgw_); (try clear ho0)))
  (try simp only [Act.put, List.setIfInBounds_toArray, List.set_cons_zero, List.set_cons_succ])
  go_cut [37] (fun v37 wc => ∃ (kq : Nat) (x37_6 : Bool), v37 = .bool x37_6 ∧ Aside0 (laws_FnExactMaximalCliques.j0 kq l0 t377 t378 t381 t384 t385 x37_6 = some r) ∧ Aside0 (kq ≤ k) ∧ Aside0 (Kd.R (Kd.int .i64) 2 wc w.heap.size (fun k_ => some k_ ≠ ((.slice Ao12 t381.length co12) : Value).ownBlock ∧ some k_ ≠ (v386 : Value).ownBlock) v379 t377) ∧ Aside0 (Kd.R (Kd.int .i64) 2 wc w.heap.size (fun k_ => some k_ ≠ (v379 : Value).ownBlock ∧ some k_ ≠ (v386 : Value).ownBlock) (.slice Ao12 t381.length co12) t381) ∧ Aside0 (Kd.R (Kd.int .i64) 2 wc w.heap.size (fun k_ => some k_ ≠ (v379 : Value).ownBlock ∧ some k_ ≠ ((.slice Ao12 t381.length co12) : Value).ownBlock) v386 t384) ∧ Aside0 (Below w.heap.size w wc))
  case first =>
   have H := HC7.out; clear HC7; replace H := Option.bind_eq_some_iff.mp H; obtain ⟨t388, A140, H⟩ := H
   replace H : (if t388 = true then (laws_FnExactMaximalCliques.j0 k l0 t377 t378 t381 t384 t385 (t385 != t378)) else (laws_FnExactMaximalCliques.j0 k l0 t377 t378 t381 t384 t385 true)) = some r := H
   have A14 := Aside0.mk A140; clear A140
   by_cases c15 : t388 = true
   ·subst c15
    have H1 : (laws_FnExactMaximalCliques.j0 k l0 t377 t378 t381 t384 t385 (t385 != t378)) = some r := by rw [if_pos rfl] at H; exact H
    clear H; have H := H1; clear H1
    have H' := Aside0.mk H
    clear H; obtain ⟨Ao16, co16, eo16⟩ := Kd.R_slice HO387.out; subst eo16; obtain ⟨Ao17, co17, eo17⟩ := Kd.R_slice HO380.out; subst eo17
    go_wp2_with (first | ((with_reducible refine gate_callee (f := 11) rfl ?_); refine goesL_ (some 31) rfl rfl Tryd.func11 (by kernel_rfl) rfl #[.slice Ao16 t384.length co16, .slice Ao17 t377.length co17] rfl lz ?_; (with_reducible refine (laws_eqInt64S.calls k _ _ t384 _ _ t377 true _ ?side1 ?side2 ?side3 ?side4 A14.out).mono ?_); (case side1 => have q_ := Aside0.mk (Kd.R_reads' HO387.out).2.2; exact cQ q_); (case side2 => exact (Kd.R_reads' HO387.out).2.1); (case side3 => have q_ := Aside0.mk (Kd.R_reads' HO380.out).2.2; exact cQ q_); (case side4 => exact (Kd.R_reads' HO380.out).2.1); rintro e w' ⟨rfl, ⟨nd, rfl⟩⟩; refine ⟨_, rfl, ?_⟩))
    go_meet
    case rel => exact ⟨_, ((t385 != t378)), sz, H', ⟨by first | omega | exact Nat.le_refl _⟩, ⟨by (with_reducible repeat (first | apply Kd.R_alloc | apply Kd.R_drewN | apply Kd.R_drew)); exact Kd.R_mono HO380.out (fun _ hk => ⟨hk.1.2, hk.2⟩)⟩, ⟨by (with_reducible repeat (first | apply Kd.R_alloc | apply Kd.R_drewN | apply Kd.R_drew)); exact Kd.R_mono HO383.out (fun _ hk => ⟨hk.1.2, hk.2⟩)⟩, ⟨by (with_reducible repeat (first | apply Kd.R_alloc | apply Kd.R_drewN | apply Kd.R_drew)); exact Kd.R_mono HO387.out (fun _ hk => ⟨hk.1.2, hk.2⟩)⟩, ⟨beQ HB⟩⟩
   ·replace c15 := Bool.eq_false_iff.mpr c15
    subst c15
    have H1 : (laws_FnExactMaximalCliques.j0 k l0 t377 t378 t381 t384 t385 true) = some r := by rw [if_neg (show ¬ (false = true) by decide)] at H; exact H
    clear H; have H := H1; clear H1
    have H' := Aside0.mk H
    clear H; obtain ⟨Ao18, co18, eo18⟩ := Kd.R_slice HO387.out; subst eo18; obtain ⟨Ao19, co19, eo19⟩ := Kd.R_slice HO380.out; subst eo19
    go_wp2_with (first | ((with_reducible refine gate_callee (f := 11) rfl ?_); refine goesL_ (some 31) rfl rfl Tryd.func11 (by kernel_rfl) rfl #[.slice Ao18 t384.length co18, .slice Ao19 t377.length co19] rfl lz ?_; (with_reducible refine (laws_eqInt64S.calls k _ _ t384 _ _ t377 false _ ?side1 ?side2 ?side3 ?side4 A14.out).mono ?_); (case side1 => have q_ := Aside0.mk (Kd.R_reads' HO387.out).2.2; exact cQ q_); (case side2 => exact (Kd.R_reads' HO387.out).2.1); (case side3 => have q_ := Aside0.mk (Kd.R_reads' HO380.out).2.2; exact cQ q_); (case side4 => exact (Kd.R_reads' HO380.out).2.1); rintro e w' ⟨rfl, ⟨nd, rfl⟩⟩; refine ⟨_, rfl, ?_⟩))
    go_meet
    case rel => exact ⟨_, (true), sz, H', ⟨by first | omega | exact Nat.le_refl _⟩, ⟨by (with_reducible repeat (first | apply Kd.R_alloc | apply Kd.R_drewN | apply Kd.R_drew)); exact Kd.R_mono HO380.out (fun _ hk => ⟨hk.1.2, hk.2⟩)⟩, ⟨by (with_reducible repeat (first | apply Kd.R_alloc | apply Kd.R_drewN | apply Kd.R_drew)); exact Kd.R_mono HO383.out (fun _ hk => ⟨hk.1.2, hk.2⟩)⟩, ⟨by (with_reducible repeat (first | apply Kd.R_alloc | apply Kd.R_drewN | apply Kd.R_drew)); exact Kd.R_mono HO387.out (fun _ hk => ⟨hk.1.2, hk.2⟩)⟩, ⟨beQ HB⟩⟩
  case rest =>
   clear HC7
   try clear c1
   try clear c2
   try clear c2b0
   try clear c2b1
   try clear p2
   try clear c4
   try clear c9
   try clear c11
   try clear c14
   try clear c15
   obtain ⟨kq, x37_6, rfl, HA, HJ6, HO_3, HO_5, HO_6, HB⟩ := hcut
   cases kq with
   | zero => exact absurd HA.out (by simp [laws_FnExactMaximalCliques.j0])
   | succ kj6 =>
    have H := HA.out; clear HA
    simp only [laws_FnExactMaximalCliques.j0] at H
    by_cases c20 : x37_6 = true
    ·subst c20
     have H1 : (some false) = some r := by rw [if_pos rfl] at H; exact H
     clear H; have H := H1; clear H1
     obtain rfl := Option.some.inj H
     go_wp2
     go_ret
     exact ⟨rz, beQ HB⟩
    ·replace c20 := Bool.eq_false_iff.mpr c20
     subst c20
     have H1 : ((laws_toInt64S.f kj6 l0).bind fun t389 => ((laws_eqInt64S.f kj6 t381 t389).bind fun t392 => (if t392 = true then ((laws_markInt64S.f kj6 t381 1).bind fun bt393 => (if bt393.1 < 0 then (laws_FnExactMaximalCliques.j1 kj6 l0 t377 t378 t384 true) else ((laws_eqInt64S.f kj6 t384 t377).bind fun t395 => (if t395 = true then (laws_FnExactMaximalCliques.j1 kj6 l0 t377 t378 t384 (t385 != t378)) else (laws_FnExactMaximalCliques.j1 kj6 l0 t377 t378 t384 true))))) else (some false)))) = some r := by rw [if_neg (show ¬ (false = true) by decide)] at H; exact H
     clear H; have H := H1; clear H1; replace H := Option.bind_eq_some_iff.mp H; obtain ⟨t389, A210, H⟩ := H
     replace H : ((laws_eqInt64S.f kj6 t381 t389).bind fun t392 => (if t392 = true then ((laws_markInt64S.f kj6 t381 1).bind fun bt393 => (if bt393.1 < 0 then (laws_FnExactMaximalCliques.j1 kj6 l0 t377 t378 t384 true) else ((laws_eqInt64S.f kj6 t384 t377).bind fun t395 => (if t395 = true then (laws_FnExactMaximalCliques.j1 kj6 l0 t377 t378 t384 (t385 != t378)) else (laws_FnExactMaximalCliques.j1 kj6 l0 t377 t378 t384 true))))) else (some false))) = some r := H
     have A21 := Aside0.mk A210; clear A210; replace H := Option.bind_eq_some_iff.mp H; obtain ⟨t392, A220, H⟩ := H
     replace H : (if t392 = true then ((laws_markInt64S.f kj6 t381 1).bind fun bt393 => (if bt393.1 < 0 then (laws_FnExactMaximalCliques.j1 kj6 l0 t377 t378 t384 true) else ((laws_eqInt64S.f kj6 t384 t377).bind fun t395 => (if t395 = true then (laws_FnExactMaximalCliques.j1 kj6 l0 t377 t378 t384 (t385 != t378)) else (laws_FnExactMaximalCliques.j1 kj6 l0 t377 t378 t384 true))))) else (some false)) = some r := H
     have A22 := Aside0.mk A220; clear A220
     by_cases c23 : t392 = true
     ·subst c23
      have H1 : ((laws_markInt64S.f kj6 t381 1).bind fun bt393 => (if bt393.1 < 0 then (laws_FnExactMaximalCliques.j1 kj6 l0 t377 t378 t384 true) else ((laws_eqInt64S.f kj6 t384 t377).bind fun t395 => (if t395 = true then (laws_FnExactMaximalCliques.j1 kj6 l0 t377 t378 t384 (t385 != t378)) else (laws_FnExactMaximalCliques.j1 kj6 l0 t377 t378 t384 true))))) = some r := by rw [if_pos rfl] at H; exact H
      clear H; have H := H1; clear H1; replace H := Option.bind_eq_some_iff.mp H
      obtain ⟨⟨t393, t394⟩, A240, H⟩ := H
      replace H : (if t393 < 0 then (laws_FnExactMaximalCliques.j1 kj6 l0 t377 t378 t384 true) else ((laws_eqInt64S.f kj6 t384 t377).bind fun t395 => (if t395 = true then (laws_FnExactMaximalCliques.j1 kj6 l0 t377 t378 t384 (t385 != t378)) else (laws_FnExactMaximalCliques.j1 kj6 l0 t377 t378 t384 true)))) = some r := H
      have A24 := Aside0.mk A240; clear A240; have HC25 := Aside0.mk H; clear H
      go_upto_region 12 with (first | ((with_reducible refine gate_callee (f := 9) rfl ?_); refine goesL_ (some 40) rfl rfl Tryd.func9 (by kernel_rfl) rfl #[.slice A0 l0.length c0] rfl lz ?_; (with_reducible refine (laws_toInt64S.calls kj6 _ _ l0 t389 _ ?side1 ?side2 A21.out).mono ?_); (case side1 => have q_ := Aside0.mk (Kd.C_below HR0.out HB.out); exact cQ q_); (case side2 => exact HC0.out); rintro e w26 ⟨v390, rfl, ho0, hb⟩; refine ⟨_, rfl, ?_⟩; have HO391 := Aside0.mk (Kd.R_lower (Kd.R_new' (Kd.R_new' (Kd.R_new' ho0 (Kd.R_lt (kdQ HO_3))) (Kd.R_lt (kdQ HO_5))) (Kd.R_lt (kdQ HO_6))) (below_size (beQ HB))); replace HO_3 := Aside0.mk (Kd.R_elder' (kdQ HO_3) (Kd.R_base ho0) hb); replace HO_5 := Aside0.mk (Kd.R_elder' (kdQ HO_5) (Kd.R_base ho0) hb); replace HO_6 := Aside0.mk (Kd.R_elder' (kdQ HO_6) (Kd.R_base ho0) hb); replace HB := Aside0.mk (below_step (beQ HB) hb); (try clear hb); (try clear hb2); (try clear hk); (try clear hi); (try clear hgw_); (try clear ho0); obtain ⟨Ao27, co27, eo27⟩ := Kd.R_slice HO391.out; subst eo27) | ((with_reducible refine gate_callee (f := 11) rfl ?_); refine goesL_ (some 41) rfl rfl Tryd.func11 (by kernel_rfl) rfl #[.slice Ao12 t381.length co12, .slice Ao27 t389.length co27] rfl lz ?_; (with_reducible refine (laws_eqInt64S.calls kj6 _ _ t381 _ _ t389 true _ ?side1 ?side2 ?side3 ?side4 A22.out).mono ?_); (case side1 => have q_ := Aside0.mk (Kd.R_reads' HO_5.out).2.2; exact cQ q_); (case side2 => exact (Kd.R_reads' HO_5.out).2.1); (case side3 => have q_ := Aside0.mk (Kd.R_reads' HO391.out).2.2; exact cQ q_); (case side4 => exact (Kd.R_reads' HO391.out).2.1); rintro e w' ⟨rfl, ⟨nd, rfl⟩⟩; refine ⟨_, rfl, ?_⟩) | ((with_reducible refine gate_callee (f := 12) rfl ?_); refine goesL_ (some 45) rfl rfl Tryd.func12 (by kernel_rfl) rfl #[.slice Ao12 t381.length co12, .int .i64 1] rfl lz ?_; (with_reducible refine (laws_markInt64S.calls kj6 (fun k_ => some k_ = (.slice Ao12 t381.length co12 : Value).ownBlock) (.slice Ao12 t381.length co12) t381 1 t393 t394 w _ ?side1 ?side2 A24.out).mono ?_); (case side1 => repeat (first | (with_reducible first | exact HB.out | apply below_alloc | apply pw_below_drewN | apply below_drew1) | exact HB.out)); (case side2 => exact Kd.R_tight rfl HO_5.out); rintro e w28 ⟨rfl, hy0, hb, hkp⟩; refine ⟨_, rfl, ?_⟩; replace HO_3 := Aside0.mk (Kd.R_mono (ok' := fun k_ => some k_ ≠ (.slice Ao12 t381.length co12 : Value).ownBlock ∧ some k_ ≠ (v386 : Value).ownBlock ∧ some k_ ≠ (.slice Ao27 t389.length co27 : Value).ownBlock) (Kd.R_keptB (HO_3.out) hkp (fun k_ hk_ hs_ => (hk_.1.1) hs_)) (fun k_ hk_ => ⟨hk_.1.1.1, hk_.1.1.2, hk_.1.2⟩)); replace HO_5 := Aside0.mk (Kd.R_reok rfl hy0 (fun k_ e_ => HO_5.out.1 k_ e_)); replace HO_6 := Aside0.mk (Kd.R_mono (ok' := fun k_ => some k_ ≠ (v379 : Value).ownBlock ∧ some k_ ≠ (.slice Ao12 t381.length co12 : Value).ownBlock ∧ some k_ ≠ (.slice Ao27 t389.length co27 : Value).ownBlock) (Kd.R_keptB (HO_6.out) hkp (fun k_ hk_ hs_ => (hk_.1.2) hs_)) (fun k_ hk_ => ⟨hk_.1.1.1, hk_.1.1.2, hk_.1.2⟩)); replace HO391 := Aside0.mk (Kd.R_mono (ok' := fun k_ => some k_ ≠ (v379 : Value).ownBlock ∧ some k_ ≠ (.slice Ao12 t381.length co12 : Value).ownBlock ∧ some k_ ≠ (v386 : Value).ownBlock) (Kd.R_keptB (HO391.out) hkp (fun k_ hk_ hs_ => (hk_.1.2) hs_)) (fun k_ hk_ => ⟨hk_.1.1.1.2, hk_.1.1.2, hk_.1.2⟩)); replace HB := Aside0.mk (hb); (try clear hb); (try clear hkp); (try clear hy0)))
      (try simp only [Act.put, List.setIfInBounds_toArray, List.set_cons_zero, List.set_cons_succ])
      go_cut [58] (fun v58 wc => ∃ (kq : Nat) (x58_24 : Bool), v58 = .bool x58_24 ∧ Aside0 (laws_FnExactMaximalCliques.j1 kq l0 t377 t378 t384 x58_24 = some r) ∧ Aside0 (kq ≤ kj6) ∧ Aside0 (Kd.R (Kd.int .i64) 2 wc w.heap.size (fun k_ => some k_ ≠ (v386 : Value).ownBlock) v379 t377) ∧ Aside0 (Kd.R (Kd.int .i64) 2 wc w.heap.size (fun k_ => some k_ ≠ (v379 : Value).ownBlock) v386 t384) ∧ Aside0 (Below w.heap.size w wc))
      case first =>
       have H := HC25.out; clear HC25
       by_cases c29 : t393 < 0
       ·rw [if_pos c29] at H
        have c29b0 : decide (t393 < 0) = true := decide_eq_true c29
        clear c29
        (first | rw [c29b0] | (simp only [i64_w, i32_w]; rw [c29b0]) | skip)
        have H' := Aside0.mk H
        clear H
        go_wp2
        go_meet
        case rel => exact ⟨_, (true), sz, H', ⟨by have := HJ6.out; first | omega | exact Nat.le_refl _⟩, ⟨by (with_reducible repeat (first | apply Kd.R_alloc | apply Kd.R_drewN | apply Kd.R_drew)); exact Kd.R_mono HO_3.out (fun _ hk => hk.2.1)⟩, ⟨by (with_reducible repeat (first | apply Kd.R_alloc | apply Kd.R_drewN | apply Kd.R_drew)); exact Kd.R_mono HO_6.out (fun _ hk => hk.1)⟩, ⟨beQ HB⟩⟩
       ·rw [if_neg c29] at H
        have c29b0 : decide (t393 < 0) = false := decide_eq_false c29
        clear c29
        (first | rw [c29b0] | (simp only [i64_w, i32_w]; rw [c29b0]) | skip)
        replace H := Option.bind_eq_some_iff.mp H; obtain ⟨t395, A300, H⟩ := H
        replace H : (if t395 = true then (laws_FnExactMaximalCliques.j1 kj6 l0 t377 t378 t384 (t385 != t378)) else (laws_FnExactMaximalCliques.j1 kj6 l0 t377 t378 t384 true)) = some r := H
        have A30 := Aside0.mk A300; clear A300
        by_cases c31 : t395 = true
        ·subst c31
         have H1 : (laws_FnExactMaximalCliques.j1 kj6 l0 t377 t378 t384 (t385 != t378)) = some r := by rw [if_pos rfl] at H; exact H
         clear H; have H := H1; clear H1
         have H' := Aside0.mk H
         clear H; obtain ⟨Ao32, co32, eo32⟩ := Kd.R_slice HO_6.out; subst eo32; obtain ⟨Ao33, co33, eo33⟩ := Kd.R_slice HO_3.out; subst eo33
         go_wp2_with (first | (go_at_call 11; (with_reducible refine (laws_eqInt64S.calls kj6 _ _ t384 _ _ t377 true _ ?side1 ?side2 ?side3 ?side4 A30.out).mono ?_); (case side1 => have q_ := Aside0.mk (Kd.R_reads' HO_6.out).2.2; exact cQ q_); (case side2 => exact (Kd.R_reads' HO_6.out).2.1); (case side3 => have q_ := Aside0.mk (Kd.R_reads' HO_3.out).2.2; exact cQ q_); (case side4 => exact (Kd.R_reads' HO_3.out).2.1); rintro e w' ⟨rfl, ⟨nd, rfl⟩⟩))
         go_meet
         case rel => exact ⟨_, ((t385 != t378)), sz, H', ⟨by have := HJ6.out; first | omega | exact Nat.le_refl _⟩, ⟨by (with_reducible repeat (first | apply Kd.R_alloc | apply Kd.R_drewN | apply Kd.R_drew)); exact Kd.R_mono HO_3.out (fun _ hk => hk.2.1)⟩, ⟨by (with_reducible repeat (first | apply Kd.R_alloc | apply Kd.R_drewN | apply Kd.R_drew)); exact Kd.R_mono HO_6.out (fun _ hk => hk.1)⟩, ⟨beQ HB⟩⟩
        ·replace c31 := Bool.eq_false_iff.mpr c31
         subst c31
         have H1 : (laws_FnExactMaximalCliques.j1 kj6 l0 t377 t378 t384 true) = some r := by rw [if_neg (show ¬ (false = true) by decide)] at H; exact H
         clear H; have H := H1; clear H1
         have H' := Aside0.mk H
         clear H; obtain ⟨Ao34, co34, eo34⟩ := Kd.R_slice HO_6.out; subst eo34; obtain ⟨Ao35, co35, eo35⟩ := Kd.R_slice HO_3.out; subst eo35
         go_wp2_with (first | (go_at_call 11; (with_reducible refine (laws_eqInt64S.calls kj6 _ _ t384 _ _ t377 false _ ?side1 ?side2 ?side3 ?side4 A30.out).mono ?_); (case side1 => have q_ := Aside0.mk (Kd.R_reads' HO_6.out).2.2; exact cQ q_); (case side2 => exact (Kd.R_reads' HO_6.out).2.1); (case side3 => have q_ := Aside0.mk (Kd.R_reads' HO_3.out).2.2; exact cQ q_); (case side4 => exact (Kd.R_reads' HO_3.out).2.1); rintro e w' ⟨rfl, ⟨nd, rfl⟩⟩))
         go_meet
         case rel => exact ⟨_, (true), sz, H', ⟨by have := HJ6.out; first | omega | exact Nat.le_refl _⟩, ⟨by (with_reducible repeat (first | apply Kd.R_alloc | apply Kd.R_drewN | apply Kd.R_drew)); exact Kd.R_mono HO_3.out (fun _ hk => hk.2.1)⟩, ⟨by (with_reducible repeat (first | apply Kd.R_alloc | apply Kd.R_drewN | apply Kd.R_drew)); exact Kd.R_mono HO_6.out (fun _ hk => hk.1)⟩, ⟨beQ HB⟩⟩
      case rest =>
       clear HC25
       try clear c1
       try clear c2
       try clear c2b0
       try clear c2b1
       try clear p2
       try clear c3
       try clear c4
       try clear c9
       try clear c11
       try clear c12
       try clear c14
       try clear c15
       try clear c20
       try clear c23
       try clear c29
       try clear c29b0
       try clear c31
       try clear p2
       obtain ⟨kq, x58_24, rfl, HA, HJ24, HO_3, HO_6, HB⟩ := hcut
       cases kq with
       | zero => exact absurd HA.out (by simp [laws_FnExactMaximalCliques.j1])
       | succ kj24 =>
        have H := HA.out; clear HA
        simp only [laws_FnExactMaximalCliques.j1] at H
        by_cases c36 : x58_24 = true
        ·subst c36
         have H1 : (some false) = some r := by rw [if_pos rfl] at H; exact H
         clear H; have H := H1; clear H1
         obtain rfl := Option.some.inj H
         go_wp2
         go_ret
         exact ⟨rz, beQ HB⟩
        ·replace c36 := Bool.eq_false_iff.mpr c36
         subst c36
         have H1 : ((laws_markInt64S.f kj24 t384 1).bind fun bt396 => ((laws_heldInt64S.f kj24 bt396.2 1).bind fun t398 => (if t398 < 0 then (some false) else (if t398 = bt396.1 then ((laws_toInt64S.f kj24 l0).bind fun t399 => ((impl_MaximalCliques.f kj24 t399).bind fun bt402 => ((laws_eqInt64S.f kj24 bt402.1 t377).bind fun t406 => (if t406 = true then (laws_FnExactMaximalCliques.j2 kj24 bt396.2 bt396.1 (bt402.2 != t378)) else (laws_FnExactMaximalCliques.j2 kj24 bt396.2 bt396.1 true))))) else (some false))))) = some r := by rw [if_neg (show ¬ (false = true) by decide)] at H; exact H
         clear H; have H := H1; clear H1; replace H := Option.bind_eq_some_iff.mp H
         obtain ⟨⟨t396, t397⟩, A370, H⟩ := H
         replace H : ((laws_heldInt64S.f kj24 t397 1).bind fun t398 => (if t398 < 0 then (some false) else (if t398 = t396 then ((laws_toInt64S.f kj24 l0).bind fun t399 => ((impl_MaximalCliques.f kj24 t399).bind fun bt402 => ((laws_eqInt64S.f kj24 bt402.1 t377).bind fun t406 => (if t406 = true then (laws_FnExactMaximalCliques.j2 kj24 t397 t396 (bt402.2 != t378)) else (laws_FnExactMaximalCliques.j2 kj24 t397 t396 true))))) else (some false)))) = some r := H
         have A37 := Aside0.mk A370; clear A370; replace H := Option.bind_eq_some_iff.mp H; obtain ⟨t398, A380, H⟩ := H
         replace H : (if t398 < 0 then (some false) else (if t398 = t396 then ((laws_toInt64S.f kj24 l0).bind fun t399 => ((impl_MaximalCliques.f kj24 t399).bind fun bt402 => ((laws_eqInt64S.f kj24 bt402.1 t377).bind fun t406 => (if t406 = true then (laws_FnExactMaximalCliques.j2 kj24 t397 t396 (bt402.2 != t378)) else (laws_FnExactMaximalCliques.j2 kj24 t397 t396 true))))) else (some false))) = some r := H
         have A38 := Aside0.mk A380; clear A380
         by_cases c39 : t398 < 0
         ·rw [if_pos c39] at H
          have c39b0 : decide (t398 < 0) = true := decide_eq_true c39
          clear c39
          obtain rfl := Option.some.inj H
          obtain ⟨Ao40, co40, eo40⟩ := Kd.R_slice HO_6.out; subst eo40
          go_wp2_with (first | ((with_reducible refine gate_callee (f := 12) rfl ?_); refine goesL_ (some 61) rfl rfl Tryd.func12 (by kernel_rfl) rfl #[.slice Ao40 t384.length co40, .int .i64 1] rfl lz ?_; (with_reducible refine (laws_markInt64S.calls kj24 (fun k_ => some k_ = (.slice Ao40 t384.length co40 : Value).ownBlock) (.slice Ao40 t384.length co40) t384 1 t396 t397 w _ ?side1 ?side2 A37.out).mono ?_); (case side1 => repeat (first | (with_reducible first | exact HB.out | apply below_alloc | apply pw_below_drewN | apply below_drew1) | exact HB.out)); (case side2 => exact Kd.R_tight rfl HO_6.out); rintro e w41 ⟨rfl, hy0, hb, hkp⟩; refine ⟨_, rfl, ?_⟩; replace HO_3 := Aside0.mk (Kd.R_mono (ok' := fun k_ => some k_ ≠ (.slice Ao40 t384.length co40 : Value).ownBlock) (Kd.R_keptB (HO_3.out) hkp (fun k_ hk_ hs_ => (hk_) hs_)) (fun k_ hk_ => hk_.1)); replace HO_6 := Aside0.mk (Kd.R_reok rfl hy0 (fun k_ e_ => HO_6.out.1 k_ e_)); replace HB := Aside0.mk (hb); (try clear hb); (try clear hkp); (try clear hy0)) | ((with_reducible refine gate_callee (f := 13) rfl ?_); refine goesL_ (some 64) rfl rfl Tryd.func13 (by kernel_rfl) rfl #[.slice Ao40 t397.length co40, .int .i64 1] rfl (by (try simp only [List.map_toArray, List.map_cons, List.map_nil]); first | done | (rw [show t397.length = t384.length from (Kd.R_reads' HO_6.out).1.symm] <;> rfl) | rfl | (simp only [List.length_drop, List.length_take]; rfl)) ?_; (with_reducible refine (laws_heldInt64S.calls kj24 _ _ t397 1 t398 _ ?side1 ?side2 A38.out).mono ?_); (case side1 => have q_ := Aside0.mk (Kd.R_reads' HO_6.out).2.2; exact cQ q_); (case side2 => rw [show t397.length = t384.length from (Kd.R_reads' HO_6.out).1.symm]; exact (Kd.R_reads' HO_6.out).2.1); rintro e w' ⟨rfl, ⟨nd, rfl⟩⟩; refine ⟨_, rfl, ?_⟩))
          go_ret
          exact ⟨rz, beQ HB⟩
         ·rw [if_neg c39] at H
          have c39b0 : decide (t398 < 0) = false := decide_eq_false c39
          clear c39
          by_cases c42 : t398 = t396
          ·rw [if_pos c42] at H
           have c42b0 : (t398 == t396) = true := beq_iff_eq.mpr c42
           have c42b1 : (t398 != t396) = false := bne_eq_false_iff_eq.mpr c42
           clear c42; replace H := Option.bind_eq_some_iff.mp H; obtain ⟨t399, A430, H⟩ := H
           replace H : ((impl_MaximalCliques.f kj24 t399).bind fun bt402 => ((laws_eqInt64S.f kj24 bt402.1 t377).bind fun t406 => (if t406 = true then (laws_FnExactMaximalCliques.j2 kj24 t397 t396 (bt402.2 != t378)) else (laws_FnExactMaximalCliques.j2 kj24 t397 t396 true)))) = some r := H
           have A43 := Aside0.mk A430; clear A430; replace H := Option.bind_eq_some_iff.mp H
           obtain ⟨⟨t402, t403⟩, A440, H⟩ := H
           replace H : ((laws_eqInt64S.f kj24 t402 t377).bind fun t406 => (if t406 = true then (laws_FnExactMaximalCliques.j2 kj24 t397 t396 (t403 != t378)) else (laws_FnExactMaximalCliques.j2 kj24 t397 t396 true))) = some r := H
           have A44 := Aside0.mk A440; clear A440; have HC45 := Aside0.mk H; clear H; obtain ⟨Ao46, co46, eo46⟩ := Kd.R_slice HO_6.out; subst eo46
           go_upto_region 23 with (first | ((with_reducible refine gate_callee (f := 12) rfl ?_); refine goesL_ (some 61) rfl rfl Tryd.func12 (by kernel_rfl) rfl #[.slice Ao46 t384.length co46, .int .i64 1] rfl lz ?_; (with_reducible refine (laws_markInt64S.calls kj24 (fun k_ => some k_ = (.slice Ao46 t384.length co46 : Value).ownBlock) (.slice Ao46 t384.length co46) t384 1 t396 t397 w _ ?side1 ?side2 A37.out).mono ?_); (case side1 => repeat (first | (with_reducible first | exact HB.out | apply below_alloc | apply pw_below_drewN | apply below_drew1) | exact HB.out)); (case side2 => exact Kd.R_tight rfl HO_6.out); rintro e w47 ⟨rfl, hy0, hb, hkp⟩; refine ⟨_, rfl, ?_⟩; replace HO_3 := Aside0.mk (Kd.R_mono (ok' := fun k_ => some k_ ≠ (.slice Ao46 t384.length co46 : Value).ownBlock) (Kd.R_keptB (HO_3.out) hkp (fun k_ hk_ hs_ => (hk_) hs_)) (fun k_ hk_ => hk_.1)); replace HO_6 := Aside0.mk (Kd.R_reok rfl hy0 (fun k_ e_ => HO_6.out.1 k_ e_)); replace HB := Aside0.mk (hb); (try clear hb); (try clear hkp); (try clear hy0)) | ((with_reducible refine gate_callee (f := 13) rfl ?_); refine goesL_ (some 64) rfl rfl Tryd.func13 (by kernel_rfl) rfl #[.slice Ao46 t397.length co46, .int .i64 1] rfl (by (try simp only [List.map_toArray, List.map_cons, List.map_nil]); first | done | (rw [show t397.length = t384.length from (Kd.R_reads' HO_6.out).1.symm] <;> rfl) | rfl | (simp only [List.length_drop, List.length_take]; rfl)) ?_; (with_reducible refine (laws_heldInt64S.calls kj24 _ _ t397 1 t398 _ ?side1 ?side2 A38.out).mono ?_); (case side1 => have q_ := Aside0.mk (Kd.R_reads' HO_6.out).2.2; exact cQ q_); (case side2 => rw [show t397.length = t384.length from (Kd.R_reads' HO_6.out).1.symm]; exact (Kd.R_reads' HO_6.out).2.1); rintro e w' ⟨rfl, ⟨nd, rfl⟩⟩; refine ⟨_, rfl, ?_⟩) | ((with_reducible refine gate_callee (f := 9) rfl ?_); refine goesL_ (some 72) rfl rfl Tryd.func9 (by kernel_rfl) rfl #[.slice A0 l0.length c0] rfl lz ?_; (with_reducible refine (laws_toInt64S.calls kj24 _ _ l0 t399 _ ?side1 ?side2 A43.out).mono ?_); (case side1 => have q_ := Aside0.mk (Kd.C_below HR0.out (beQ HB)); exact cQ q_); (case side2 => exact HC0.out); rintro e w48 ⟨v400, rfl, ho0, hb⟩; refine ⟨_, rfl, ?_⟩; have HO401 := Aside0.mk (Kd.R_lower (Kd.R_new' (Kd.R_new' ho0 (Kd.R_lt (kdQ HO_3))) (Kd.R_lt (kdQ HO_6))) (below_size (beQ HB))); replace HO_3 := Aside0.mk (Kd.R_elder' (kdQ HO_3) (Kd.R_base ho0) hb); replace HO_6 := Aside0.mk (Kd.R_elder' (kdQ HO_6) (Kd.R_base ho0) hb); replace HB := Aside0.mk (below_step (beQ HB) hb); (try clear hb); (try clear hb2); (try clear hk); (try clear hi); (try clear hgw_); (try clear ho0); obtain ⟨Ao49, co49, eo49⟩ := Kd.R_slice HO401.out; subst eo49) | ((with_reducible refine gate_callee (f := 15) rfl ?_); refine goesL_ (some 73) rfl rfl Tryd.func15 (by kernel_rfl) rfl #[.slice Ao49 t399.length co49] rfl lz ?_; (with_reducible refine (impl_MaximalCliques.calls kj24 _ _ t399 t402 t403 _ ?side1 ?side2 ?side3 A44.out).mono ?_); (case side1 => have q_ := Aside0.mk (Kd.R_reads' HO401.out).2.2; exact cQ q_); (case side2 => exact (Kd.R_reads' HO401.out).2.1); (case side3 => exact TabW.below HT.out (beQ HB)); rintro e w50 ⟨v404, rfl, ho0, hb⟩; refine ⟨_, rfl, ?_⟩; have HO405 := Aside0.mk (Kd.R_lower (Kd.R_new' (Kd.R_new' (Kd.R_new' ho0 (Kd.R_lt (kdQ HO_3))) (Kd.R_lt (kdQ HO_6))) (Kd.R_lt (kdQ HO401))) (below_size (beQ HB))); replace HO_3 := Aside0.mk (Kd.R_elder' (kdQ HO_3) (Kd.R_base ho0) hb); replace HO_6 := Aside0.mk (Kd.R_elder' (kdQ HO_6) (Kd.R_base ho0) hb); replace HO401 := Aside0.mk (Kd.R_elder' (kdQ HO401) (Kd.R_base ho0) hb); replace HB := Aside0.mk (below_step (beQ HB) hb); (try clear hb); (try clear hb2); (try clear hk); (try clear hi); (try clear hgw_); (try clear ho0)))
           (try simp only [Act.put, List.setIfInBounds_toArray, List.set_cons_zero, List.set_cons_succ])
           go_cut [84] (fun v84 wc => ∃ (kq : Nat) (x84_44 : Bool), v84 = .bool x84_44 ∧ Aside0 (laws_FnExactMaximalCliques.j2 kq t397 t396 x84_44 = some r) ∧ Aside0 (kq ≤ kj24) ∧ Aside0 (Kd.R (Kd.int .i64) 2 wc w.heap.size (fun _ => True) (.slice Ao46 t384.length co46) t397) ∧ Aside0 (Below w.heap.size w wc))
           case first =>
            have H := HC45.out; clear HC45; replace H := Option.bind_eq_some_iff.mp H; obtain ⟨t406, A510, H⟩ := H
            replace H : (if t406 = true then (laws_FnExactMaximalCliques.j2 kj24 t397 t396 (t403 != t378)) else (laws_FnExactMaximalCliques.j2 kj24 t397 t396 true)) = some r := H
            have A51 := Aside0.mk A510; clear A510
            by_cases c52 : t406 = true
            ·subst c52
             have H1 : (laws_FnExactMaximalCliques.j2 kj24 t397 t396 (t403 != t378)) = some r := by rw [if_pos rfl] at H; exact H
             clear H; have H := H1; clear H1
             have H' := Aside0.mk H
             clear H; obtain ⟨Ao53, co53, eo53⟩ := Kd.R_slice HO405.out; subst eo53; obtain ⟨Ao54, co54, eo54⟩ := Kd.R_slice HO_3.out; subst eo54
             go_wp2_with (first | ((with_reducible refine gate_callee (f := 11) rfl ?_); refine goesL_ (some 78) rfl rfl Tryd.func11 (by kernel_rfl) rfl #[.slice Ao53 t402.length co53, .slice Ao54 t377.length co54] rfl lz ?_; (with_reducible refine (laws_eqInt64S.calls kj24 _ _ t402 _ _ t377 true _ ?side1 ?side2 ?side3 ?side4 A51.out).mono ?_); (case side1 => have q_ := Aside0.mk (Kd.R_reads' HO405.out).2.2; exact cQ q_); (case side2 => exact (Kd.R_reads' HO405.out).2.1); (case side3 => have q_ := Aside0.mk (Kd.R_reads' HO_3.out).2.2; exact cQ q_); (case side4 => exact (Kd.R_reads' HO_3.out).2.1); rintro e w' ⟨rfl, ⟨nd, rfl⟩⟩; refine ⟨_, rfl, ?_⟩))
             go_meet
             case rel => exact ⟨_, ((t403 != t378)), sz, H', ⟨by have := HJ6.out; have := HJ24.out; first | omega | exact Nat.le_refl _⟩, ⟨by (with_reducible repeat (first | apply Kd.R_alloc | apply Kd.R_drewN | apply Kd.R_drew)); exact Kd.R_mono HO_6.out (fun _ hk => trivial)⟩, ⟨beQ HB⟩⟩
            ·replace c52 := Bool.eq_false_iff.mpr c52
             subst c52
             have H1 : (laws_FnExactMaximalCliques.j2 kj24 t397 t396 true) = some r := by rw [if_neg (show ¬ (false = true) by decide)] at H; exact H
             clear H; have H := H1; clear H1
             have H' := Aside0.mk H
             clear H; obtain ⟨Ao55, co55, eo55⟩ := Kd.R_slice HO405.out; subst eo55; obtain ⟨Ao56, co56, eo56⟩ := Kd.R_slice HO_3.out; subst eo56
             go_wp2_with (first | ((with_reducible refine gate_callee (f := 11) rfl ?_); refine goesL_ (some 78) rfl rfl Tryd.func11 (by kernel_rfl) rfl #[.slice Ao55 t402.length co55, .slice Ao56 t377.length co56] rfl lz ?_; (with_reducible refine (laws_eqInt64S.calls kj24 _ _ t402 _ _ t377 false _ ?side1 ?side2 ?side3 ?side4 A51.out).mono ?_); (case side1 => have q_ := Aside0.mk (Kd.R_reads' HO405.out).2.2; exact cQ q_); (case side2 => exact (Kd.R_reads' HO405.out).2.1); (case side3 => have q_ := Aside0.mk (Kd.R_reads' HO_3.out).2.2; exact cQ q_); (case side4 => exact (Kd.R_reads' HO_3.out).2.1); rintro e w' ⟨rfl, ⟨nd, rfl⟩⟩; refine ⟨_, rfl, ?_⟩))
             go_meet
             case rel => exact ⟨_, (true), sz, H', ⟨by have := HJ6.out; have := HJ24.out; first | omega | exact Nat.le_refl _⟩, ⟨by (with_reducible repeat (first | apply Kd.R_alloc | apply Kd.R_drewN | apply Kd.R_drew)); exact Kd.R_mono HO_6.out (fun _ hk => trivial)⟩, ⟨beQ HB⟩⟩
           case rest =>
            clear HC45
            try clear c1
            try clear c2
            try clear c2b0
            try clear c2b1
            try clear p2
            try clear c3
            try clear c4
            try clear c5
            try clear c9
            try clear c11
            try clear c12
            try clear c13
            try clear c14
            try clear c15
            try clear c20
            try clear c23
            try clear c29
            try clear c29b0
            try clear c31
            try clear c36
            try clear c39
            try clear c39b0
            try clear c42
            try clear c42b0
            try clear c42b1
            try clear c52
            try clear p2
            obtain ⟨kq, x84_44, rfl, HA, HJ44, HO_6, HB⟩ := hcut; have hl6_44 := (Kd.R_reads' HO_6.out).1; rw [hl6_44] at HO_6
            (try simp only [hl6_44])
            cases kq with
            | zero => exact absurd HA.out (by simp [laws_FnExactMaximalCliques.j2])
            | succ kj44 =>
             have H := HA.out; clear HA
             simp only [laws_FnExactMaximalCliques.j2] at H
             by_cases c57 : x84_44 = true
             ·subst c57
              have H1 : (some false) = some r := by rw [if_pos rfl] at H; exact H
              clear H; have H := H1; clear H1
              obtain rfl := Option.some.inj H
              go_wp2
              go_ret
              exact ⟨rz, beQ HB⟩
             ·replace c57 := Bool.eq_false_iff.mpr c57
              subst c57
              have H1 : ((laws_heldInt64S.f kj44 t397 1).bind fun t407 => (if t407 < 0 then (some false) else (if t407 = t396 then (some true) else (some false)))) = some r := by rw [if_neg (show ¬ (false = true) by decide)] at H; exact H
              clear H; have H := H1; clear H1; replace H := Option.bind_eq_some_iff.mp H; obtain ⟨t407, A580, H⟩ := H
              replace H : (if t407 < 0 then (some false) else (if t407 = t396 then (some true) else (some false))) = some r := H
              have A58 := Aside0.mk A580; clear A580
              by_cases c59 : t407 < 0
              ·rw [if_pos c59] at H
               have c59b0 : decide (t407 < 0) = true := decide_eq_true c59
               clear c59
               obtain rfl := Option.some.inj H
               go_wp2_with (first | ((with_reducible refine gate_callee (f := 13) rfl ?_); refine goesL_ (some 87) rfl rfl Tryd.func13 (by kernel_rfl) rfl #[.slice Ao46 t397.length co46, .int .i64 1] rfl lz ?_; (with_reducible refine (laws_heldInt64S.calls kj44 _ _ t397 1 t407 _ ?side1 ?side2 A58.out).mono ?_); (case side1 => have q_ := Aside0.mk (Kd.R_reads' HO_6.out).2.2; exact cQ q_); (case side2 => exact (Kd.R_reads' HO_6.out).2.1); rintro e w' ⟨rfl, ⟨nd, rfl⟩⟩; refine ⟨_, rfl, ?_⟩))
               go_ret
               exact ⟨rz, beQ HB⟩
              ·rw [if_neg c59] at H
               have c59b0 : decide (t407 < 0) = false := decide_eq_false c59
               clear c59
               by_cases c60 : t407 = t396
               ·rw [if_pos c60] at H
                have c60b0 : (t407 == t396) = true := beq_iff_eq.mpr c60
                have c60b1 : (t407 != t396) = false := bne_eq_false_iff_eq.mpr c60
                clear c60
                obtain rfl := Option.some.inj H
                go_wp2_with (first | ((with_reducible refine gate_callee (f := 13) rfl ?_); refine goesL_ (some 87) rfl rfl Tryd.func13 (by kernel_rfl) rfl #[.slice Ao46 t397.length co46, .int .i64 1] rfl lz ?_; (with_reducible refine (laws_heldInt64S.calls kj44 _ _ t397 1 t407 _ ?side1 ?side2 A58.out).mono ?_); (case side1 => have q_ := Aside0.mk (Kd.R_reads' HO_6.out).2.2; exact cQ q_); (case side2 => exact (Kd.R_reads' HO_6.out).2.1); rintro e w' ⟨rfl, ⟨nd, rfl⟩⟩; refine ⟨_, rfl, ?_⟩))
                go_ret
                exact ⟨rz, beQ HB⟩
               ·rw [if_neg c60] at H
                have c60b0 : (t407 == t396) = false := beq_eq_false_iff_ne.mpr c60
                have c60b1 : (t407 != t396) = true := bne_iff_ne.mpr c60
                obtain rfl := Option.some.inj H
                go_wp2_with (first | ((with_reducible refine gate_callee (f := 13) rfl ?_); refine goesL_ (some 87) rfl rfl Tryd.func13 (by kernel_rfl) rfl #[.slice Ao46 t397.length co46, .int .i64 1] rfl lz ?_; (with_reducible refine (laws_heldInt64S.calls kj44 _ _ t397 1 t407 _ ?side1 ?side2 A58.out).mono ?_); (case side1 => have q_ := Aside0.mk (Kd.R_reads' HO_6.out).2.2; exact cQ q_); (case side2 => exact (Kd.R_reads' HO_6.out).2.1); rintro e w' ⟨rfl, ⟨nd, rfl⟩⟩; refine ⟨_, rfl, ?_⟩))
                go_ret
                exact ⟨rz, beQ HB⟩
          ·rw [if_neg c42] at H
           have c42b0 : (t398 == t396) = false := beq_eq_false_iff_ne.mpr c42
           have c42b1 : (t398 != t396) = true := bne_iff_ne.mpr c42
           obtain rfl := Option.some.inj H
           obtain ⟨Ao61, co61, eo61⟩ := Kd.R_slice HO_6.out; subst eo61
           go_wp2_with (first | ((with_reducible refine gate_callee (f := 12) rfl ?_); refine goesL_ (some 61) rfl rfl Tryd.func12 (by kernel_rfl) rfl #[.slice Ao61 t384.length co61, .int .i64 1] rfl lz ?_; (with_reducible refine (laws_markInt64S.calls kj24 (fun k_ => some k_ = (.slice Ao61 t384.length co61 : Value).ownBlock) (.slice Ao61 t384.length co61) t384 1 t396 t397 w _ ?side1 ?side2 A37.out).mono ?_); (case side1 => repeat (first | (with_reducible first | exact HB.out | apply below_alloc | apply pw_below_drewN | apply below_drew1) | exact HB.out)); (case side2 => exact Kd.R_tight rfl HO_6.out); rintro e w62 ⟨rfl, hy0, hb, hkp⟩; refine ⟨_, rfl, ?_⟩; replace HO_3 := Aside0.mk (Kd.R_mono (ok' := fun k_ => some k_ ≠ (.slice Ao61 t384.length co61 : Value).ownBlock) (Kd.R_keptB (HO_3.out) hkp (fun k_ hk_ hs_ => (hk_) hs_)) (fun k_ hk_ => hk_.1)); replace HO_6 := Aside0.mk (Kd.R_reok rfl hy0 (fun k_ e_ => HO_6.out.1 k_ e_)); replace HB := Aside0.mk (hb); (try clear hb); (try clear hkp); (try clear hy0)) | ((with_reducible refine gate_callee (f := 13) rfl ?_); refine goesL_ (some 64) rfl rfl Tryd.func13 (by kernel_rfl) rfl #[.slice Ao61 t397.length co61, .int .i64 1] rfl (by (try simp only [List.map_toArray, List.map_cons, List.map_nil]); first | done | (rw [show t397.length = t384.length from (Kd.R_reads' HO_6.out).1.symm] <;> rfl) | rfl | (simp only [List.length_drop, List.length_take]; rfl)) ?_; (with_reducible refine (laws_heldInt64S.calls kj24 _ _ t397 1 t398 _ ?side1 ?side2 A38.out).mono ?_); (case side1 => have q_ := Aside0.mk (Kd.R_reads' HO_6.out).2.2; exact cQ q_); (case side2 => rw [show t397.length = t384.length from (Kd.R_reads' HO_6.out).1.symm]; exact (Kd.R_reads' HO_6.out).2.1); rintro e w' ⟨rfl, ⟨nd, rfl⟩⟩; refine ⟨_, rfl, ?_⟩))
           go_ret
           exact ⟨rz, beQ HB⟩
     ·replace c23 := Bool.eq_false_iff.mpr c23
      subst c23
      have H1 : (some false) = some r := by rw [if_neg (show ¬ (false = true) by decide)] at H; exact H
      clear H; have H := H1; clear H1
      obtain rfl := Option.some.inj H
      go_wp2_with (first | ((with_reducible refine gate_callee (f := 9) rfl ?_); refine goesL_ (some 40) rfl rfl Tryd.func9 (by kernel_rfl) rfl #[.slice A0 l0.length c0] rfl lz ?_; (with_reducible refine (laws_toInt64S.calls kj6 _ _ l0 t389 _ ?side1 ?side2 A21.out).mono ?_); (case side1 => have q_ := Aside0.mk (Kd.C_below HR0.out HB.out); exact cQ q_); (case side2 => exact HC0.out); rintro e w63 ⟨v390, rfl, ho0, hb⟩; refine ⟨_, rfl, ?_⟩; have HO391 := Aside0.mk (Kd.R_lower (Kd.R_new' (Kd.R_new' (Kd.R_new' ho0 (Kd.R_lt (kdQ HO_3))) (Kd.R_lt (kdQ HO_5))) (Kd.R_lt (kdQ HO_6))) (below_size (beQ HB))); replace HO_3 := Aside0.mk (Kd.R_elder' (kdQ HO_3) (Kd.R_base ho0) hb); replace HO_5 := Aside0.mk (Kd.R_elder' (kdQ HO_5) (Kd.R_base ho0) hb); replace HO_6 := Aside0.mk (Kd.R_elder' (kdQ HO_6) (Kd.R_base ho0) hb); replace HB := Aside0.mk (below_step (beQ HB) hb); (try clear hb); (try clear hb2); (try clear hk); (try clear hi); (try clear hgw_); (try clear ho0); obtain ⟨Ao64, co64, eo64⟩ := Kd.R_slice HO391.out; subst eo64) | ((with_reducible refine gate_callee (f := 11) rfl ?_); refine goesL_ (some 41) rfl rfl Tryd.func11 (by kernel_rfl) rfl #[.slice Ao12 t381.length co12, .slice Ao64 t389.length co64] rfl lz ?_; (with_reducible refine (laws_eqInt64S.calls kj6 _ _ t381 _ _ t389 false _ ?side1 ?side2 ?side3 ?side4 A22.out).mono ?_); (case side1 => have q_ := Aside0.mk (Kd.R_reads' HO_5.out).2.2; exact cQ q_); (case side2 => exact (Kd.R_reads' HO_5.out).2.1); (case side3 => have q_ := Aside0.mk (Kd.R_reads' HO391.out).2.2; exact cQ q_); (case side4 => exact (Kd.R_reads' HO391.out).2.1); rintro e w' ⟨rfl, ⟨nd, rfl⟩⟩; refine ⟨_, rfl, ?_⟩))
      go_ret
      exact ⟨rz, beQ HB⟩

end Go.Proofs.YtjckfnaohikmbaaDoor.G
