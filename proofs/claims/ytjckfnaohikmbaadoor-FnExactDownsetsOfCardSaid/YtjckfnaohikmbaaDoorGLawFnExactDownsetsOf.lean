/- How the program's functions compute, function by function: each is told by a plain Lean function of the same answers, under the condition that this one answers. Written by a program of this project over the seat's translation; Lean checks it. -/
import Derived.Test.YtjckfnaohikmbaaDoorG0
import Derived.Test.YtjckfnaohikmbaaDoorGQ02
import Derived.Test.YtjckfnaohikmbaaDoorGQ08a
import Derived.Test.YtjckfnaohikmbaaDoorGQ08d
namespace Go.Proofs.YtjckfnaohikmbaaDoor.G
open Go.RowKit Go.Proofs.YtjckfnaohikmbaaDoorW.PrintWords Go.Proofs.YtjckfnaohikmbaaDoorW.PrintLast Go.Proofs.YtjckfnaohikmbaaDoorW.PrintMore
attribute [local go_sem] max2_int min2_int max_two min_two max_three min_three max_four min_four   -- for this text's walks alone
set_option linter.unusedVariables false
set_option linter.unusedSimpArgs false

/-! ### laws_FnExactDownsetsOf: function 6 -/
mutual
def laws_FnExactDownsetsOf.j0 : Nat → List Int → List Int → Int → List Int → List Int → Int → Bool → Option (Bool)
 | 0, _, _, _, _, _, _, _ => none
 | k + 1, x0, x3, x4, x5, x6, x7, x37 => if x37 = true then (some false) else ((laws_toInt64S.f k x0).bind fun t616 => ((laws_eqInt64S.f k x5 t616).bind fun t619 => (if t619 = true then ((laws_markInt64S.f k x5 1).bind fun bt620 => (if bt620.1 < 0 then (laws_FnExactDownsetsOf.j1 k x0 x3 x4 x6 true) else ((laws_eqInt64S.f k x6 x3).bind fun t622 => (if t622 = true then (laws_FnExactDownsetsOf.j1 k x0 x3 x4 x6 (x7 != x4)) else (laws_FnExactDownsetsOf.j1 k x0 x3 x4 x6 true))))) else (some false))))
def laws_FnExactDownsetsOf.j1 : Nat → List Int → List Int → Int → List Int → Bool → Option (Bool)
 | 0, _, _, _, _, _ => none
 | k + 1, x0, x3, x4, x6, x58 => if x58 = true then (some false) else ((laws_markInt64S.f k x6 1).bind fun bt623 => ((laws_heldInt64S.f k bt623.2 1).bind fun t625 => (if t625 < 0 then (some false) else (if t625 = bt623.1 then ((laws_toInt64S.f k x0).bind fun t626 => ((impl_DownsetsOf.f k t626).bind fun bt629 => ((laws_eqInt64S.f k bt629.1 x3).bind fun t633 => (if t633 = true then (laws_FnExactDownsetsOf.j2 k bt623.2 bt623.1 (bt629.2 != x4)) else (laws_FnExactDownsetsOf.j2 k bt623.2 bt623.1 true))))) else (some false)))))
def laws_FnExactDownsetsOf.j2 : Nat → List Int → Int → Bool → Option (Bool)
 | 0, _, _, _ => none
 | k + 1, x6, x9, x84 => if x84 = true then (some false) else ((laws_heldInt64S.f k x6 1).bind fun t634 => (if t634 < 0 then (some false) else (if t634 = x9 then (some true) else (some false))))
end
def laws_FnExactDownsetsOf.f (k : Nat) (l0 : List Int) : Option (Bool) := if (l0.length : Int) > 1048576 then (some true) else ((laws_toInt64S.f k l0).bind fun t601 => ((spec_DownsetsOf.f k t601).bind fun bt604 => ((laws_toInt64S.f k l0).bind fun t608 => ((impl_DownsetsOf.f k t608).bind fun bt611 => ((laws_eqInt64S.f k bt611.1 bt604.1).bind fun t615 => (if t615 = true then (laws_FnExactDownsetsOf.j0 k l0 bt604.1 bt604.2 t608 bt611.1 bt611.2 (bt611.2 != bt604.2)) else (laws_FnExactDownsetsOf.j0 k l0 bt604.1 bt604.2 t608 bt611.1 bt611.2 true)))))))
theorem laws_FnExactDownsetsOf.mono_l : ∀ k, (∀ y0 y1 y2 y3 y4 y5 y6, LeO (laws_FnExactDownsetsOf.j0 k y0 y1 y2 y3 y4 y5 y6) (laws_FnExactDownsetsOf.j0 (k + 1) y0 y1 y2 y3 y4 y5 y6)) ∧ (∀ y0 y1 y2 y3 y4, LeO (laws_FnExactDownsetsOf.j1 k y0 y1 y2 y3 y4) (laws_FnExactDownsetsOf.j1 (k + 1) y0 y1 y2 y3 y4)) ∧ (∀ y0 y1 y2, LeO (laws_FnExactDownsetsOf.j2 k y0 y1 y2) (laws_FnExactDownsetsOf.j2 (k + 1) y0 y1 y2))
 | 0 => ⟨fun _ _ _ _ _ _ _ r h => by simp [laws_FnExactDownsetsOf.j0] at h, fun _ _ _ _ _ r h => by simp [laws_FnExactDownsetsOf.j1] at h, fun _ _ _ r h => by simp [laws_FnExactDownsetsOf.j2] at h⟩
 | k + 1 => by
  obtain ⟨ih0, ih1, ih2⟩ := laws_FnExactDownsetsOf.mono_l k
  refine ⟨?_, ?_, ?_⟩
  ·intro y0 y1 y2 y3 y4 y5 y6
   unfold laws_FnExactDownsetsOf.j0
   repeat' first
   | (with_reducible exact ih0 _ _ _ _ _ _ _)
   | (with_reducible exact ih1 _ _ _ _ _)
   | (with_reducible exact ih2 _ _ _)
   | (with_reducible exact impl_DownsetsOf.mono _ _)
   | (with_reducible exact laws_eqInt64S.mono _ _ _)
   | (with_reducible exact laws_heldInt64S.mono _ _ _)
   | (with_reducible exact laws_markInt64S.mono _ _ _)
   | (with_reducible exact laws_toInt64S.mono _ _)
   | (with_reducible exact spec_DownsetsOf.mono _ _)
   | (with_reducible exact LeO.refl _)
   | (with_reducible exact LeO.none _)
   | (with_reducible refine LeO.ite ?_ ?_)
   | (with_reducible refine LeO.bind ?_ (fun _ => ?_))
   | exact ih0 _ _ _ _ _ _ _
   | exact ih1 _ _ _ _ _
   | exact ih2 _ _ _
   | exact impl_DownsetsOf.mono _ _
   | exact laws_eqInt64S.mono _ _ _
   | exact laws_heldInt64S.mono _ _ _
   | exact laws_markInt64S.mono _ _ _
   | exact laws_toInt64S.mono _ _
   | exact spec_DownsetsOf.mono _ _
   | exact LeO.none _
   | refine LeO.ite ?_ ?_
   | refine LeO.bind ?_ (fun _ => ?_)
  ·intro y0 y1 y2 y3 y4
   unfold laws_FnExactDownsetsOf.j1
   repeat' first
   | (with_reducible exact ih0 _ _ _ _ _ _ _)
   | (with_reducible exact ih1 _ _ _ _ _)
   | (with_reducible exact ih2 _ _ _)
   | (with_reducible exact impl_DownsetsOf.mono _ _)
   | (with_reducible exact laws_eqInt64S.mono _ _ _)
   | (with_reducible exact laws_heldInt64S.mono _ _ _)
   | (with_reducible exact laws_markInt64S.mono _ _ _)
   | (with_reducible exact laws_toInt64S.mono _ _)
   | (with_reducible exact spec_DownsetsOf.mono _ _)
   | (with_reducible exact LeO.refl _)
   | (with_reducible exact LeO.none _)
   | (with_reducible refine LeO.ite ?_ ?_)
   | (with_reducible refine LeO.bind ?_ (fun _ => ?_))
   | exact ih0 _ _ _ _ _ _ _
   | exact ih1 _ _ _ _ _
   | exact ih2 _ _ _
   | exact impl_DownsetsOf.mono _ _
   | exact laws_eqInt64S.mono _ _ _
   | exact laws_heldInt64S.mono _ _ _
   | exact laws_markInt64S.mono _ _ _
   | exact laws_toInt64S.mono _ _
   | exact spec_DownsetsOf.mono _ _
   | exact LeO.none _
   | refine LeO.ite ?_ ?_
   | refine LeO.bind ?_ (fun _ => ?_)
  ·intro y0 y1 y2
   unfold laws_FnExactDownsetsOf.j2
   repeat' first
   | (with_reducible exact ih0 _ _ _ _ _ _ _)
   | (with_reducible exact ih1 _ _ _ _ _)
   | (with_reducible exact ih2 _ _ _)
   | (with_reducible exact impl_DownsetsOf.mono _ _)
   | (with_reducible exact laws_eqInt64S.mono _ _ _)
   | (with_reducible exact laws_heldInt64S.mono _ _ _)
   | (with_reducible exact laws_markInt64S.mono _ _ _)
   | (with_reducible exact laws_toInt64S.mono _ _)
   | (with_reducible exact spec_DownsetsOf.mono _ _)
   | (with_reducible exact LeO.refl _)
   | (with_reducible exact LeO.none _)
   | (with_reducible refine LeO.ite ?_ ?_)
   | (with_reducible refine LeO.bind ?_ (fun _ => ?_))
   | exact ih0 _ _ _ _ _ _ _
   | exact ih1 _ _ _ _ _
   | exact ih2 _ _ _
   | exact impl_DownsetsOf.mono _ _
   | exact laws_eqInt64S.mono _ _ _
   | exact laws_heldInt64S.mono _ _ _
   | exact laws_markInt64S.mono _ _ _
   | exact laws_toInt64S.mono _ _
   | exact spec_DownsetsOf.mono _ _
   | exact LeO.none _
   | refine LeO.ite ?_ ?_
   | refine LeO.bind ?_ (fun _ => ?_)
theorem laws_FnExactDownsetsOf.mono : ∀ a0 k, LeO (laws_FnExactDownsetsOf.f k a0) (laws_FnExactDownsetsOf.f (k + 1) a0) := by
 intro a0 k
 obtain ⟨ih0, ih1, ih2⟩ := laws_FnExactDownsetsOf.mono_l k
 unfold laws_FnExactDownsetsOf.f
 repeat' first
   | (with_reducible exact ih0 _ _ _ _ _ _ _)
   | (with_reducible exact ih1 _ _ _ _ _)
   | (with_reducible exact ih2 _ _ _)
   | (with_reducible exact impl_DownsetsOf.mono _ _)
   | (with_reducible exact laws_eqInt64S.mono _ _ _)
   | (with_reducible exact laws_heldInt64S.mono _ _ _)
   | (with_reducible exact laws_markInt64S.mono _ _ _)
   | (with_reducible exact laws_toInt64S.mono _ _)
   | (with_reducible exact spec_DownsetsOf.mono _ _)
   | (with_reducible exact LeO.refl _)
   | (with_reducible exact LeO.none _)
   | (with_reducible refine LeO.ite ?_ ?_)
   | (with_reducible refine LeO.bind ?_ (fun _ => ?_))
   | exact ih0 _ _ _ _ _ _ _
   | exact ih1 _ _ _ _ _
   | exact ih2 _ _ _
   | exact impl_DownsetsOf.mono _ _
   | exact laws_eqInt64S.mono _ _ _
   | exact laws_heldInt64S.mono _ _ _
   | exact laws_markInt64S.mono _ _ _
   | exact laws_toInt64S.mono _ _
   | exact spec_DownsetsOf.mono _ _
   | exact LeO.none _
   | refine LeO.ite ?_ ?_
   | refine LeO.bind ?_ (fun _ => ?_)
set_option maxHeartbeats 8000000 in
set_option maxRecDepth 100000 in
theorem laws_FnExactDownsetsOf.calls (k : Nat) (A0 : Option Addr) (c0 : Nat) (l0 : List Int) (r : Bool) (w : World) (hr0 : Kd.C (Kd.int .i64) w A0 l0.length l0) (hc0 : l0.length ≤ c0) (hT : TabW w) (h : laws_FnExactDownsetsOf.f k l0 = some r) :
  Calls Tryd.prog 6 #[.slice A0 l0.length c0] w fun e w' => e = .returned (.bool r) ∧ Below w.heap.size w w' := by
 have HT := Aside0.mk hT; clear hT; have HR0 := Aside0.mk hr0; have HC0 := Aside0.mk hc0; clear hr0 hc0; have HB := Aside0.mk (Below.refl w.heap.size w)
 have H : (if (l0.length : Int) > 1048576 then (some true) else ((laws_toInt64S.f k l0).bind fun t601 => ((spec_DownsetsOf.f k t601).bind fun bt604 => ((laws_toInt64S.f k l0).bind fun t608 => ((impl_DownsetsOf.f k t608).bind fun bt611 => ((laws_eqInt64S.f k bt611.1 bt604.1).bind fun t615 => (if t615 = true then (laws_FnExactDownsetsOf.j0 k l0 bt604.1 bt604.2 t608 bt611.1 bt611.2 (bt611.2 != bt604.2)) else (laws_FnExactDownsetsOf.j0 k l0 bt604.1 bt604.2 t608 bt611.1 bt611.2 true)))))))) = some r := h
 clear h
 by_cases c2 : (l0.length : Int) > 1048576
 ·rw [if_pos c2] at H
  have c2b0 : decide (1048576 < (l0.length : Int)) = true := decide_eq_true c2
  have c2b1 : decide (1048576 < l0.length) = true := decide_eq_true (by omega)
  clear c2
  obtain rfl := Option.some.inj H
  go_enter Tryd.func6, Tryd.ntmps6
  go_wp2
  go_ret
  exact ⟨rz, beQ HB⟩
 ·rw [if_neg c2] at H
  have c2b0 : decide (1048576 < (l0.length : Int)) = false := decide_eq_false c2
  have c2b1 : decide (1048576 < l0.length) = false := decide_eq_false (by omega)
  clear c2; replace H := Option.bind_eq_some_iff.mp H; obtain ⟨t601, A30, H⟩ := H
  replace H : ((spec_DownsetsOf.f k t601).bind fun bt604 => ((laws_toInt64S.f k l0).bind fun t608 => ((impl_DownsetsOf.f k t608).bind fun bt611 => ((laws_eqInt64S.f k bt611.1 bt604.1).bind fun t615 => (if t615 = true then (laws_FnExactDownsetsOf.j0 k l0 bt604.1 bt604.2 t608 bt611.1 bt611.2 (bt611.2 != bt604.2)) else (laws_FnExactDownsetsOf.j0 k l0 bt604.1 bt604.2 t608 bt611.1 bt611.2 true)))))) = some r := H
  have A3 := Aside0.mk A30; clear A30; replace H := Option.bind_eq_some_iff.mp H
  obtain ⟨⟨t604, t605⟩, A40, H⟩ := H
  replace H : ((laws_toInt64S.f k l0).bind fun t608 => ((impl_DownsetsOf.f k t608).bind fun bt611 => ((laws_eqInt64S.f k bt611.1 t604).bind fun t615 => (if t615 = true then (laws_FnExactDownsetsOf.j0 k l0 t604 t605 t608 bt611.1 bt611.2 (bt611.2 != t605)) else (laws_FnExactDownsetsOf.j0 k l0 t604 t605 t608 bt611.1 bt611.2 true))))) = some r := H
  have A4 := Aside0.mk A40; clear A40; replace H := Option.bind_eq_some_iff.mp H; obtain ⟨t608, A50, H⟩ := H
  replace H : ((impl_DownsetsOf.f k t608).bind fun bt611 => ((laws_eqInt64S.f k bt611.1 t604).bind fun t615 => (if t615 = true then (laws_FnExactDownsetsOf.j0 k l0 t604 t605 t608 bt611.1 bt611.2 (bt611.2 != t605)) else (laws_FnExactDownsetsOf.j0 k l0 t604 t605 t608 bt611.1 bt611.2 true)))) = some r := H
  have A5 := Aside0.mk A50; clear A50; replace H := Option.bind_eq_some_iff.mp H
  obtain ⟨⟨t611, t612⟩, A60, H⟩ := H
  replace H : ((laws_eqInt64S.f k t611 t604).bind fun t615 => (if t615 = true then (laws_FnExactDownsetsOf.j0 k l0 t604 t605 t608 t611 t612 (t612 != t605)) else (laws_FnExactDownsetsOf.j0 k l0 t604 t605 t608 t611 t612 true))) = some r := H
  have A6 := Aside0.mk A60; clear A60; have HC7 := Aside0.mk H; clear H
  go_enter Tryd.func6, Tryd.ntmps6
  go_upto_region 6 with (first | ((with_reducible refine gate_callee (f := 9) rfl ?_); refine goesL_ (some 18) rfl rfl Tryd.func9 (by kernel_rfl) rfl #[.slice A0 l0.length c0] rfl lz ?_; (with_reducible refine (laws_toInt64S.calls k _ _ l0 t601 _ ?side1 ?side2 A3.out).mono ?_); (case side1 => have q_ := Aside0.mk HR0.out; exact cQ q_); (case side2 => exact HC0.out); rintro e w8 ⟨v602, rfl, ho0, hb⟩; refine ⟨_, rfl, ?_⟩; have HO603 := Aside0.mk (Kd.R_lower ho0 (below_size (beQ HB))); replace HB := Aside0.mk (below_step (beQ HB) hb); (try clear hb); (try clear hb2); (try clear hk); (try clear hi); (try clear hgw_); (try clear ho0); obtain ⟨Ao9, co9, eo9⟩ := Kd.R_slice HO603.out; subst eo9) | ((with_reducible refine gate_callee (f := 21) rfl ?_); refine goesL_ (some 19) rfl rfl Tryd.func21 (by kernel_rfl) rfl #[.slice Ao9 t601.length co9] rfl lz ?_; (with_reducible refine (spec_DownsetsOf.calls k _ _ t601 t604 t605 _ ?side1 ?side2 A4.out).mono ?_); (case side1 => have q_ := Aside0.mk (Kd.R_reads' HO603.out).2.2; exact cQ q_); (case side2 => exact (Kd.R_reads' HO603.out).2.1); rintro e w10 ⟨v606, rfl, ho0, hb⟩; refine ⟨_, rfl, ?_⟩; have HO607 := Aside0.mk (Kd.R_lower (Kd.R_new' ho0 (Kd.R_lt (kdQ HO603))) (below_size (beQ HB))); replace HO603 := Aside0.mk (Kd.R_elder' (kdQ HO603) (Kd.R_base ho0) hb); replace HB := Aside0.mk (below_step (beQ HB) hb); (try clear hb); (try clear hb2); (try clear hk); (try clear hi); (try clear hgw_); (try clear ho0)) | ((with_reducible refine gate_callee (f := 9) rfl ?_); refine goesL_ (some 23) rfl rfl Tryd.func9 (by kernel_rfl) rfl #[.slice A0 l0.length c0] rfl lz ?_; (with_reducible refine (laws_toInt64S.calls k _ _ l0 t608 _ ?side1 ?side2 A5.out).mono ?_); (case side1 => have q_ := Aside0.mk (Kd.C_below HR0.out HB.out); exact cQ q_); (case side2 => exact HC0.out); rintro e w11 ⟨v609, rfl, ho0, hb⟩; refine ⟨_, rfl, ?_⟩; have HO610 := Aside0.mk (Kd.R_lower (Kd.R_new' (Kd.R_new' ho0 (Kd.R_lt (kdQ HO603))) (Kd.R_lt (kdQ HO607))) (below_size (beQ HB))); replace HO603 := Aside0.mk (Kd.R_elder' (kdQ HO603) (Kd.R_base ho0) hb); replace HO607 := Aside0.mk (Kd.R_elder' (kdQ HO607) (Kd.R_base ho0) hb); replace HB := Aside0.mk (below_step (beQ HB) hb); (try clear hb); (try clear hb2); (try clear hk); (try clear hi); (try clear hgw_); (try clear ho0); obtain ⟨Ao12, co12, eo12⟩ := Kd.R_slice HO610.out; subst eo12) | ((with_reducible refine gate_callee (f := 22) rfl ?_); refine goesL_ (some 26) rfl rfl Tryd.func22 (by kernel_rfl) rfl #[.slice Ao12 t608.length co12] rfl lz ?_; (with_reducible refine (impl_DownsetsOf.calls k _ _ t608 t611 t612 _ ?side1 ?side2 ?side3 A6.out).mono ?_); (case side1 => have q_ := Aside0.mk (Kd.R_reads' HO610.out).2.2; exact cQ q_); (case side2 => exact (Kd.R_reads' HO610.out).2.1); (case side3 => exact TabW.below HT.out (beQ HB)); rintro e w13 ⟨v613, rfl, ho0, hb⟩; refine ⟨_, rfl, ?_⟩; have HO614 := Aside0.mk (Kd.R_lower (Kd.R_new' (Kd.R_new' (Kd.R_new' ho0 (Kd.R_lt (kdQ HO603))) (Kd.R_lt (kdQ HO607))) (Kd.R_lt (kdQ HO610))) (below_size (beQ HB))); replace HO603 := Aside0.mk (Kd.R_elder' (kdQ HO603) (Kd.R_base ho0) hb); replace HO607 := Aside0.mk (Kd.R_elder' (kdQ HO607) (Kd.R_base ho0) hb); replace HO610 := Aside0.mk (Kd.R_elder' (kdQ HO610) (Kd.R_base ho0) hb); replace HB := Aside0.mk (below_step (beQ HB) hb); (try clear hb); (try clear hb2); (try clear hk); (try clear hi); (try clear hgw_); (try clear ho0)))
  (try simp only [Act.put, List.setIfInBounds_toArray, List.set_cons_zero, List.set_cons_succ])
  go_cut [37] (fun v37 wc => ∃ (kq : Nat) (x37_6 : Bool), v37 = .bool x37_6 ∧ Aside0 (laws_FnExactDownsetsOf.j0 kq l0 t604 t605 t608 t611 t612 x37_6 = some r) ∧ Aside0 (kq ≤ k) ∧ Aside0 (Kd.R (Kd.int .i64) 2 wc w.heap.size (fun k_ => some k_ ≠ ((.slice Ao12 t608.length co12) : Value).ownBlock ∧ some k_ ≠ (v613 : Value).ownBlock) v606 t604) ∧ Aside0 (Kd.R (Kd.int .i64) 2 wc w.heap.size (fun k_ => some k_ ≠ (v606 : Value).ownBlock ∧ some k_ ≠ (v613 : Value).ownBlock) (.slice Ao12 t608.length co12) t608) ∧ Aside0 (Kd.R (Kd.int .i64) 2 wc w.heap.size (fun k_ => some k_ ≠ (v606 : Value).ownBlock ∧ some k_ ≠ ((.slice Ao12 t608.length co12) : Value).ownBlock) v613 t611) ∧ Aside0 (Below w.heap.size w wc))
  case first =>
   have H := HC7.out; clear HC7; replace H := Option.bind_eq_some_iff.mp H; obtain ⟨t615, A140, H⟩ := H
   replace H : (if t615 = true then (laws_FnExactDownsetsOf.j0 k l0 t604 t605 t608 t611 t612 (t612 != t605)) else (laws_FnExactDownsetsOf.j0 k l0 t604 t605 t608 t611 t612 true)) = some r := H
   have A14 := Aside0.mk A140; clear A140
   by_cases c15 : t615 = true
   ·subst c15
    have H1 : (laws_FnExactDownsetsOf.j0 k l0 t604 t605 t608 t611 t612 (t612 != t605)) = some r := by rw [if_pos rfl] at H; exact H
    clear H; have H := H1; clear H1
    have H' := Aside0.mk H
    clear H; obtain ⟨Ao16, co16, eo16⟩ := Kd.R_slice HO614.out; subst eo16; obtain ⟨Ao17, co17, eo17⟩ := Kd.R_slice HO607.out; subst eo17
    go_wp2_with (first | ((with_reducible refine gate_callee (f := 11) rfl ?_); refine goesL_ (some 31) rfl rfl Tryd.func11 (by kernel_rfl) rfl #[.slice Ao16 t611.length co16, .slice Ao17 t604.length co17] rfl lz ?_; (with_reducible refine (laws_eqInt64S.calls k _ _ t611 _ _ t604 true _ ?side1 ?side2 ?side3 ?side4 A14.out).mono ?_); (case side1 => have q_ := Aside0.mk (Kd.R_reads' HO614.out).2.2; exact cQ q_); (case side2 => exact (Kd.R_reads' HO614.out).2.1); (case side3 => have q_ := Aside0.mk (Kd.R_reads' HO607.out).2.2; exact cQ q_); (case side4 => exact (Kd.R_reads' HO607.out).2.1); rintro e w' ⟨rfl, ⟨nd, rfl⟩⟩; refine ⟨_, rfl, ?_⟩))
    go_meet
    case rel => exact ⟨_, ((t612 != t605)), sz, H', ⟨by first | omega | exact Nat.le_refl _⟩, ⟨by (with_reducible repeat (first | apply Kd.R_alloc | apply Kd.R_drewN | apply Kd.R_drew)); exact Kd.R_mono HO607.out (fun _ hk => ⟨hk.1.2, hk.2⟩)⟩, ⟨by (with_reducible repeat (first | apply Kd.R_alloc | apply Kd.R_drewN | apply Kd.R_drew)); exact Kd.R_mono HO610.out (fun _ hk => ⟨hk.1.2, hk.2⟩)⟩, ⟨by (with_reducible repeat (first | apply Kd.R_alloc | apply Kd.R_drewN | apply Kd.R_drew)); exact Kd.R_mono HO614.out (fun _ hk => ⟨hk.1.2, hk.2⟩)⟩, ⟨beQ HB⟩⟩
   ·replace c15 := Bool.eq_false_iff.mpr c15
    subst c15
    have H1 : (laws_FnExactDownsetsOf.j0 k l0 t604 t605 t608 t611 t612 true) = some r := by rw [if_neg (show ¬ (false = true) by decide)] at H; exact H
    clear H; have H := H1; clear H1
    have H' := Aside0.mk H
    clear H; obtain ⟨Ao18, co18, eo18⟩ := Kd.R_slice HO614.out; subst eo18; obtain ⟨Ao19, co19, eo19⟩ := Kd.R_slice HO607.out; subst eo19
    go_wp2_with (first | ((with_reducible refine gate_callee (f := 11) rfl ?_); refine goesL_ (some 31) rfl rfl Tryd.func11 (by kernel_rfl) rfl #[.slice Ao18 t611.length co18, .slice Ao19 t604.length co19] rfl lz ?_; (with_reducible refine (laws_eqInt64S.calls k _ _ t611 _ _ t604 false _ ?side1 ?side2 ?side3 ?side4 A14.out).mono ?_); (case side1 => have q_ := Aside0.mk (Kd.R_reads' HO614.out).2.2; exact cQ q_); (case side2 => exact (Kd.R_reads' HO614.out).2.1); (case side3 => have q_ := Aside0.mk (Kd.R_reads' HO607.out).2.2; exact cQ q_); (case side4 => exact (Kd.R_reads' HO607.out).2.1); rintro e w' ⟨rfl, ⟨nd, rfl⟩⟩; refine ⟨_, rfl, ?_⟩))
    go_meet
    case rel => exact ⟨_, (true), sz, H', ⟨by first | omega | exact Nat.le_refl _⟩, ⟨by (with_reducible repeat (first | apply Kd.R_alloc | apply Kd.R_drewN | apply Kd.R_drew)); exact Kd.R_mono HO607.out (fun _ hk => ⟨hk.1.2, hk.2⟩)⟩, ⟨by (with_reducible repeat (first | apply Kd.R_alloc | apply Kd.R_drewN | apply Kd.R_drew)); exact Kd.R_mono HO610.out (fun _ hk => ⟨hk.1.2, hk.2⟩)⟩, ⟨by (with_reducible repeat (first | apply Kd.R_alloc | apply Kd.R_drewN | apply Kd.R_drew)); exact Kd.R_mono HO614.out (fun _ hk => ⟨hk.1.2, hk.2⟩)⟩, ⟨beQ HB⟩⟩
  case rest =>
   clear HC7
   try clear c1
   try clear c2
   try clear c2b0
   try clear c2b1
   try clear p2
   try clear c6
   try clear c9
   try clear c11
   try clear c15
   obtain ⟨kq, x37_6, rfl, HA, HJ6, HO_3, HO_5, HO_6, HB⟩ := hcut
   cases kq with
   | zero => exact absurd HA.out (by simp [laws_FnExactDownsetsOf.j0])
   | succ kj6 =>
    have H := HA.out; clear HA
    simp only [laws_FnExactDownsetsOf.j0] at H
    by_cases c20 : x37_6 = true
    ·subst c20
     have H1 : (some false) = some r := by rw [if_pos rfl] at H; exact H
     clear H; have H := H1; clear H1
     obtain rfl := Option.some.inj H
     go_wp2
     go_ret
     exact ⟨rz, beQ HB⟩
    ·replace c20 := Bool.eq_false_iff.mpr c20
     subst c20
     have H1 : ((laws_toInt64S.f kj6 l0).bind fun t616 => ((laws_eqInt64S.f kj6 t608 t616).bind fun t619 => (if t619 = true then ((laws_markInt64S.f kj6 t608 1).bind fun bt620 => (if bt620.1 < 0 then (laws_FnExactDownsetsOf.j1 kj6 l0 t604 t605 t611 true) else ((laws_eqInt64S.f kj6 t611 t604).bind fun t622 => (if t622 = true then (laws_FnExactDownsetsOf.j1 kj6 l0 t604 t605 t611 (t612 != t605)) else (laws_FnExactDownsetsOf.j1 kj6 l0 t604 t605 t611 true))))) else (some false)))) = some r := by rw [if_neg (show ¬ (false = true) by decide)] at H; exact H
     clear H; have H := H1; clear H1; replace H := Option.bind_eq_some_iff.mp H; obtain ⟨t616, A210, H⟩ := H
     replace H : ((laws_eqInt64S.f kj6 t608 t616).bind fun t619 => (if t619 = true then ((laws_markInt64S.f kj6 t608 1).bind fun bt620 => (if bt620.1 < 0 then (laws_FnExactDownsetsOf.j1 kj6 l0 t604 t605 t611 true) else ((laws_eqInt64S.f kj6 t611 t604).bind fun t622 => (if t622 = true then (laws_FnExactDownsetsOf.j1 kj6 l0 t604 t605 t611 (t612 != t605)) else (laws_FnExactDownsetsOf.j1 kj6 l0 t604 t605 t611 true))))) else (some false))) = some r := H
     have A21 := Aside0.mk A210; clear A210; replace H := Option.bind_eq_some_iff.mp H; obtain ⟨t619, A220, H⟩ := H
     replace H : (if t619 = true then ((laws_markInt64S.f kj6 t608 1).bind fun bt620 => (if bt620.1 < 0 then (laws_FnExactDownsetsOf.j1 kj6 l0 t604 t605 t611 true) else ((laws_eqInt64S.f kj6 t611 t604).bind fun t622 => (if t622 = true then (laws_FnExactDownsetsOf.j1 kj6 l0 t604 t605 t611 (t612 != t605)) else (laws_FnExactDownsetsOf.j1 kj6 l0 t604 t605 t611 true))))) else (some false)) = some r := H
     have A22 := Aside0.mk A220; clear A220
     by_cases c23 : t619 = true
     ·subst c23
      have H1 : ((laws_markInt64S.f kj6 t608 1).bind fun bt620 => (if bt620.1 < 0 then (laws_FnExactDownsetsOf.j1 kj6 l0 t604 t605 t611 true) else ((laws_eqInt64S.f kj6 t611 t604).bind fun t622 => (if t622 = true then (laws_FnExactDownsetsOf.j1 kj6 l0 t604 t605 t611 (t612 != t605)) else (laws_FnExactDownsetsOf.j1 kj6 l0 t604 t605 t611 true))))) = some r := by rw [if_pos rfl] at H; exact H
      clear H; have H := H1; clear H1; replace H := Option.bind_eq_some_iff.mp H
      obtain ⟨⟨t620, t621⟩, A240, H⟩ := H
      replace H : (if t620 < 0 then (laws_FnExactDownsetsOf.j1 kj6 l0 t604 t605 t611 true) else ((laws_eqInt64S.f kj6 t611 t604).bind fun t622 => (if t622 = true then (laws_FnExactDownsetsOf.j1 kj6 l0 t604 t605 t611 (t612 != t605)) else (laws_FnExactDownsetsOf.j1 kj6 l0 t604 t605 t611 true)))) = some r := H
      have A24 := Aside0.mk A240; clear A240; have HC25 := Aside0.mk H; clear H
      go_upto_region 12 with (first | ((with_reducible refine gate_callee (f := 9) rfl ?_); refine goesL_ (some 40) rfl rfl Tryd.func9 (by kernel_rfl) rfl #[.slice A0 l0.length c0] rfl lz ?_; (with_reducible refine (laws_toInt64S.calls kj6 _ _ l0 t616 _ ?side1 ?side2 A21.out).mono ?_); (case side1 => have q_ := Aside0.mk (Kd.C_below HR0.out HB.out); exact cQ q_); (case side2 => exact HC0.out); rintro e w26 ⟨v617, rfl, ho0, hb⟩; refine ⟨_, rfl, ?_⟩; have HO618 := Aside0.mk (Kd.R_lower (Kd.R_new' (Kd.R_new' (Kd.R_new' ho0 (Kd.R_lt (kdQ HO_3))) (Kd.R_lt (kdQ HO_5))) (Kd.R_lt (kdQ HO_6))) (below_size (beQ HB))); replace HO_3 := Aside0.mk (Kd.R_elder' (kdQ HO_3) (Kd.R_base ho0) hb); replace HO_5 := Aside0.mk (Kd.R_elder' (kdQ HO_5) (Kd.R_base ho0) hb); replace HO_6 := Aside0.mk (Kd.R_elder' (kdQ HO_6) (Kd.R_base ho0) hb); replace HB := Aside0.mk (below_step (beQ HB) hb); (try clear hb); (try clear hb2); (try clear hk); (try clear hi); (try clear hgw_); (try clear ho0); obtain ⟨Ao27, co27, eo27⟩ := Kd.R_slice HO618.out; subst eo27) | ((with_reducible refine gate_callee (f := 11) rfl ?_); refine goesL_ (some 41) rfl rfl Tryd.func11 (by kernel_rfl) rfl #[.slice Ao12 t608.length co12, .slice Ao27 t616.length co27] rfl lz ?_; (with_reducible refine (laws_eqInt64S.calls kj6 _ _ t608 _ _ t616 true _ ?side1 ?side2 ?side3 ?side4 A22.out).mono ?_); (case side1 => have q_ := Aside0.mk (Kd.R_reads' HO_5.out).2.2; exact cQ q_); (case side2 => exact (Kd.R_reads' HO_5.out).2.1); (case side3 => have q_ := Aside0.mk (Kd.R_reads' HO618.out).2.2; exact cQ q_); (case side4 => exact (Kd.R_reads' HO618.out).2.1); rintro e w' ⟨rfl, ⟨nd, rfl⟩⟩; refine ⟨_, rfl, ?_⟩) | ((with_reducible refine gate_callee (f := 12) rfl ?_); refine goesL_ (some 45) rfl rfl Tryd.func12 (by kernel_rfl) rfl #[.slice Ao12 t608.length co12, .int .i64 1] rfl lz ?_; (with_reducible refine (laws_markInt64S.calls kj6 (fun k_ => some k_ = (.slice Ao12 t608.length co12 : Value).ownBlock) (.slice Ao12 t608.length co12) t608 1 t620 t621 w _ ?side1 ?side2 A24.out).mono ?_); (case side1 => repeat (first | (with_reducible first | exact HB.out | apply below_alloc | apply pw_below_drewN | apply below_drew1) | exact HB.out)); (case side2 => exact Kd.R_tight rfl HO_5.out); rintro e w28 ⟨rfl, hy0, hb, hkp⟩; refine ⟨_, rfl, ?_⟩; replace HO_3 := Aside0.mk (Kd.R_mono (ok' := fun k_ => some k_ ≠ (.slice Ao12 t608.length co12 : Value).ownBlock ∧ some k_ ≠ (v613 : Value).ownBlock ∧ some k_ ≠ (.slice Ao27 t616.length co27 : Value).ownBlock) (Kd.R_keptB (HO_3.out) hkp (fun k_ hk_ hs_ => (hk_.1.1) hs_)) (fun k_ hk_ => ⟨hk_.1.1.1, hk_.1.1.2, hk_.1.2⟩)); replace HO_5 := Aside0.mk (Kd.R_reok rfl hy0 (fun k_ e_ => HO_5.out.1 k_ e_)); replace HO_6 := Aside0.mk (Kd.R_mono (ok' := fun k_ => some k_ ≠ (v606 : Value).ownBlock ∧ some k_ ≠ (.slice Ao12 t608.length co12 : Value).ownBlock ∧ some k_ ≠ (.slice Ao27 t616.length co27 : Value).ownBlock) (Kd.R_keptB (HO_6.out) hkp (fun k_ hk_ hs_ => (hk_.1.2) hs_)) (fun k_ hk_ => ⟨hk_.1.1.1, hk_.1.1.2, hk_.1.2⟩)); replace HO618 := Aside0.mk (Kd.R_mono (ok' := fun k_ => some k_ ≠ (v606 : Value).ownBlock ∧ some k_ ≠ (.slice Ao12 t608.length co12 : Value).ownBlock ∧ some k_ ≠ (v613 : Value).ownBlock) (Kd.R_keptB (HO618.out) hkp (fun k_ hk_ hs_ => (hk_.1.2) hs_)) (fun k_ hk_ => ⟨hk_.1.1.1.2, hk_.1.1.2, hk_.1.2⟩)); replace HB := Aside0.mk (hb); (try clear hb); (try clear hkp); (try clear hy0)))
      (try simp only [Act.put, List.setIfInBounds_toArray, List.set_cons_zero, List.set_cons_succ])
      go_cut [58] (fun v58 wc => ∃ (kq : Nat) (x58_24 : Bool), v58 = .bool x58_24 ∧ Aside0 (laws_FnExactDownsetsOf.j1 kq l0 t604 t605 t611 x58_24 = some r) ∧ Aside0 (kq ≤ kj6) ∧ Aside0 (Kd.R (Kd.int .i64) 2 wc w.heap.size (fun k_ => some k_ ≠ (v613 : Value).ownBlock) v606 t604) ∧ Aside0 (Kd.R (Kd.int .i64) 2 wc w.heap.size (fun k_ => some k_ ≠ (v606 : Value).ownBlock) v613 t611) ∧ Aside0 (Below w.heap.size w wc))
      case first =>
       have H := HC25.out; clear HC25
       by_cases c29 : t620 < 0
       ·rw [if_pos c29] at H
        have c29b0 : decide (t620 < 0) = true := decide_eq_true c29
        clear c29
        (first | rw [c29b0] | (simp only [i64_w, i32_w]; rw [c29b0]) | skip)
        have H' := Aside0.mk H
        clear H
        go_wp2
        go_meet
        case rel => exact ⟨_, (true), sz, H', ⟨by have := HJ6.out; first | omega | exact Nat.le_refl _⟩, ⟨by (with_reducible repeat (first | apply Kd.R_alloc | apply Kd.R_drewN | apply Kd.R_drew)); exact Kd.R_mono HO_3.out (fun _ hk => hk.2.1)⟩, ⟨by (with_reducible repeat (first | apply Kd.R_alloc | apply Kd.R_drewN | apply Kd.R_drew)); exact Kd.R_mono HO_6.out (fun _ hk => hk.1)⟩, ⟨beQ HB⟩⟩
       ·rw [if_neg c29] at H
        have c29b0 : decide (t620 < 0) = false := decide_eq_false c29
        clear c29
        (first | rw [c29b0] | (simp only [i64_w, i32_w]; rw [c29b0]) | skip)
        replace H := Option.bind_eq_some_iff.mp H; obtain ⟨t622, A300, H⟩ := H
        replace H : (if t622 = true then (laws_FnExactDownsetsOf.j1 kj6 l0 t604 t605 t611 (t612 != t605)) else (laws_FnExactDownsetsOf.j1 kj6 l0 t604 t605 t611 true)) = some r := H
        have A30 := Aside0.mk A300; clear A300
        by_cases c31 : t622 = true
        ·subst c31
         have H1 : (laws_FnExactDownsetsOf.j1 kj6 l0 t604 t605 t611 (t612 != t605)) = some r := by rw [if_pos rfl] at H; exact H
         clear H; have H := H1; clear H1
         have H' := Aside0.mk H
         clear H; obtain ⟨Ao32, co32, eo32⟩ := Kd.R_slice HO_6.out; subst eo32; obtain ⟨Ao33, co33, eo33⟩ := Kd.R_slice HO_3.out; subst eo33
         go_wp2_with (first | (go_at_call 11; (with_reducible refine (laws_eqInt64S.calls kj6 _ _ t611 _ _ t604 true _ ?side1 ?side2 ?side3 ?side4 A30.out).mono ?_); (case side1 => have q_ := Aside0.mk (Kd.R_reads' HO_6.out).2.2; exact cQ q_); (case side2 => exact (Kd.R_reads' HO_6.out).2.1); (case side3 => have q_ := Aside0.mk (Kd.R_reads' HO_3.out).2.2; exact cQ q_); (case side4 => exact (Kd.R_reads' HO_3.out).2.1); rintro e w' ⟨rfl, ⟨nd, rfl⟩⟩))
         go_meet
         case rel => exact ⟨_, ((t612 != t605)), sz, H', ⟨by have := HJ6.out; first | omega | exact Nat.le_refl _⟩, ⟨by (with_reducible repeat (first | apply Kd.R_alloc | apply Kd.R_drewN | apply Kd.R_drew)); exact Kd.R_mono HO_3.out (fun _ hk => hk.2.1)⟩, ⟨by (with_reducible repeat (first | apply Kd.R_alloc | apply Kd.R_drewN | apply Kd.R_drew)); exact Kd.R_mono HO_6.out (fun _ hk => hk.1)⟩, ⟨beQ HB⟩⟩
        ·replace c31 := Bool.eq_false_iff.mpr c31
         subst c31
         have H1 : (laws_FnExactDownsetsOf.j1 kj6 l0 t604 t605 t611 true) = some r := by rw [if_neg (show ¬ (false = true) by decide)] at H; exact H
         clear H; have H := H1; clear H1
         have H' := Aside0.mk H
         clear H; obtain ⟨Ao34, co34, eo34⟩ := Kd.R_slice HO_6.out; subst eo34; obtain ⟨Ao35, co35, eo35⟩ := Kd.R_slice HO_3.out; subst eo35
         go_wp2_with (first | (go_at_call 11; (with_reducible refine (laws_eqInt64S.calls kj6 _ _ t611 _ _ t604 false _ ?side1 ?side2 ?side3 ?side4 A30.out).mono ?_); (case side1 => have q_ := Aside0.mk (Kd.R_reads' HO_6.out).2.2; exact cQ q_); (case side2 => exact (Kd.R_reads' HO_6.out).2.1); (case side3 => have q_ := Aside0.mk (Kd.R_reads' HO_3.out).2.2; exact cQ q_); (case side4 => exact (Kd.R_reads' HO_3.out).2.1); rintro e w' ⟨rfl, ⟨nd, rfl⟩⟩))
         go_meet
         case rel => exact ⟨_, (true), sz, H', ⟨by have := HJ6.out; first | omega | exact Nat.le_refl _⟩, ⟨by (with_reducible repeat (first | apply Kd.R_alloc | apply Kd.R_drewN | apply Kd.R_drew)); exact Kd.R_mono HO_3.out (fun _ hk => hk.2.1)⟩, ⟨by (with_reducible repeat (first | apply Kd.R_alloc | apply Kd.R_drewN | apply Kd.R_drew)); exact Kd.R_mono HO_6.out (fun _ hk => hk.1)⟩, ⟨beQ HB⟩⟩
      case rest =>
       clear HC25
       try clear c1
       try clear c2
       try clear c2b0
       try clear c2b1
       try clear p2
       try clear c3
       try clear c6
       try clear c9
       try clear c11
       try clear c12
       try clear c15
       try clear c20
       try clear c21
       try clear c22
       try clear c23
       try clear c29
       try clear c29b0
       try clear c31
       try clear p2
       obtain ⟨kq, x58_24, rfl, HA, HJ24, HO_3, HO_6, HB⟩ := hcut
       cases kq with
       | zero => exact absurd HA.out (by simp [laws_FnExactDownsetsOf.j1])
       | succ kj24 =>
        have H := HA.out; clear HA
        simp only [laws_FnExactDownsetsOf.j1] at H
        by_cases c36 : x58_24 = true
        ·subst c36
         have H1 : (some false) = some r := by rw [if_pos rfl] at H; exact H
         clear H; have H := H1; clear H1
         obtain rfl := Option.some.inj H
         go_wp2
         go_ret
         exact ⟨rz, beQ HB⟩
        ·replace c36 := Bool.eq_false_iff.mpr c36
         subst c36
         have H1 : ((laws_markInt64S.f kj24 t611 1).bind fun bt623 => ((laws_heldInt64S.f kj24 bt623.2 1).bind fun t625 => (if t625 < 0 then (some false) else (if t625 = bt623.1 then ((laws_toInt64S.f kj24 l0).bind fun t626 => ((impl_DownsetsOf.f kj24 t626).bind fun bt629 => ((laws_eqInt64S.f kj24 bt629.1 t604).bind fun t633 => (if t633 = true then (laws_FnExactDownsetsOf.j2 kj24 bt623.2 bt623.1 (bt629.2 != t605)) else (laws_FnExactDownsetsOf.j2 kj24 bt623.2 bt623.1 true))))) else (some false))))) = some r := by rw [if_neg (show ¬ (false = true) by decide)] at H; exact H
         clear H; have H := H1; clear H1; replace H := Option.bind_eq_some_iff.mp H
         obtain ⟨⟨t623, t624⟩, A370, H⟩ := H
         replace H : ((laws_heldInt64S.f kj24 t624 1).bind fun t625 => (if t625 < 0 then (some false) else (if t625 = t623 then ((laws_toInt64S.f kj24 l0).bind fun t626 => ((impl_DownsetsOf.f kj24 t626).bind fun bt629 => ((laws_eqInt64S.f kj24 bt629.1 t604).bind fun t633 => (if t633 = true then (laws_FnExactDownsetsOf.j2 kj24 t624 t623 (bt629.2 != t605)) else (laws_FnExactDownsetsOf.j2 kj24 t624 t623 true))))) else (some false)))) = some r := H
         have A37 := Aside0.mk A370; clear A370; replace H := Option.bind_eq_some_iff.mp H; obtain ⟨t625, A380, H⟩ := H
         replace H : (if t625 < 0 then (some false) else (if t625 = t623 then ((laws_toInt64S.f kj24 l0).bind fun t626 => ((impl_DownsetsOf.f kj24 t626).bind fun bt629 => ((laws_eqInt64S.f kj24 bt629.1 t604).bind fun t633 => (if t633 = true then (laws_FnExactDownsetsOf.j2 kj24 t624 t623 (bt629.2 != t605)) else (laws_FnExactDownsetsOf.j2 kj24 t624 t623 true))))) else (some false))) = some r := H
         have A38 := Aside0.mk A380; clear A380
         by_cases c39 : t625 < 0
         ·rw [if_pos c39] at H
          have c39b0 : decide (t625 < 0) = true := decide_eq_true c39
          clear c39
          obtain rfl := Option.some.inj H
          obtain ⟨Ao40, co40, eo40⟩ := Kd.R_slice HO_6.out; subst eo40
          go_wp2_with (first | ((with_reducible refine gate_callee (f := 12) rfl ?_); refine goesL_ (some 61) rfl rfl Tryd.func12 (by kernel_rfl) rfl #[.slice Ao40 t611.length co40, .int .i64 1] rfl lz ?_; (with_reducible refine (laws_markInt64S.calls kj24 (fun k_ => some k_ = (.slice Ao40 t611.length co40 : Value).ownBlock) (.slice Ao40 t611.length co40) t611 1 t623 t624 w _ ?side1 ?side2 A37.out).mono ?_); (case side1 => repeat (first | (with_reducible first | exact HB.out | apply below_alloc | apply pw_below_drewN | apply below_drew1) | exact HB.out)); (case side2 => exact Kd.R_tight rfl HO_6.out); rintro e w41 ⟨rfl, hy0, hb, hkp⟩; refine ⟨_, rfl, ?_⟩; replace HO_3 := Aside0.mk (Kd.R_mono (ok' := fun k_ => some k_ ≠ (.slice Ao40 t611.length co40 : Value).ownBlock) (Kd.R_keptB (HO_3.out) hkp (fun k_ hk_ hs_ => (hk_) hs_)) (fun k_ hk_ => hk_.1)); replace HO_6 := Aside0.mk (Kd.R_reok rfl hy0 (fun k_ e_ => HO_6.out.1 k_ e_)); replace HB := Aside0.mk (hb); (try clear hb); (try clear hkp); (try clear hy0)) | ((with_reducible refine gate_callee (f := 13) rfl ?_); refine goesL_ (some 64) rfl rfl Tryd.func13 (by kernel_rfl) rfl #[.slice Ao40 t624.length co40, .int .i64 1] rfl (by (try simp only [List.map_toArray, List.map_cons, List.map_nil]); first | done | (rw [show t624.length = t611.length from (Kd.R_reads' HO_6.out).1.symm] <;> rfl) | rfl | (simp only [List.length_drop, List.length_take]; rfl)) ?_; (with_reducible refine (laws_heldInt64S.calls kj24 _ _ t624 1 t625 _ ?side1 ?side2 A38.out).mono ?_); (case side1 => have q_ := Aside0.mk (Kd.R_reads' HO_6.out).2.2; exact cQ q_); (case side2 => rw [show t624.length = t611.length from (Kd.R_reads' HO_6.out).1.symm]; exact (Kd.R_reads' HO_6.out).2.1); rintro e w' ⟨rfl, ⟨nd, rfl⟩⟩; refine ⟨_, rfl, ?_⟩))
          go_ret
          exact ⟨rz, beQ HB⟩
         ·rw [if_neg c39] at H
          have c39b0 : decide (t625 < 0) = false := decide_eq_false c39
          clear c39
          by_cases c42 : t625 = t623
          ·rw [if_pos c42] at H
           have c42b0 : (t625 == t623) = true := beq_iff_eq.mpr c42
           have c42b1 : (t625 != t623) = false := bne_eq_false_iff_eq.mpr c42
           clear c42; replace H := Option.bind_eq_some_iff.mp H; obtain ⟨t626, A430, H⟩ := H
           replace H : ((impl_DownsetsOf.f kj24 t626).bind fun bt629 => ((laws_eqInt64S.f kj24 bt629.1 t604).bind fun t633 => (if t633 = true then (laws_FnExactDownsetsOf.j2 kj24 t624 t623 (bt629.2 != t605)) else (laws_FnExactDownsetsOf.j2 kj24 t624 t623 true)))) = some r := H
           have A43 := Aside0.mk A430; clear A430; replace H := Option.bind_eq_some_iff.mp H
           obtain ⟨⟨t629, t630⟩, A440, H⟩ := H
           replace H : ((laws_eqInt64S.f kj24 t629 t604).bind fun t633 => (if t633 = true then (laws_FnExactDownsetsOf.j2 kj24 t624 t623 (t630 != t605)) else (laws_FnExactDownsetsOf.j2 kj24 t624 t623 true))) = some r := H
           have A44 := Aside0.mk A440; clear A440; have HC45 := Aside0.mk H; clear H; obtain ⟨Ao46, co46, eo46⟩ := Kd.R_slice HO_6.out; subst eo46
           go_upto_region 23 with (first | ((with_reducible refine gate_callee (f := 12) rfl ?_); refine goesL_ (some 61) rfl rfl Tryd.func12 (by kernel_rfl) rfl #[.slice Ao46 t611.length co46, .int .i64 1] rfl lz ?_; (with_reducible refine (laws_markInt64S.calls kj24 (fun k_ => some k_ = (.slice Ao46 t611.length co46 : Value).ownBlock) (.slice Ao46 t611.length co46) t611 1 t623 t624 w _ ?side1 ?side2 A37.out).mono ?_); (case side1 => repeat (first | (with_reducible first | exact HB.out | apply below_alloc | apply pw_below_drewN | apply below_drew1) | exact HB.out)); (case side2 => exact Kd.R_tight rfl HO_6.out); rintro e w47 ⟨rfl, hy0, hb, hkp⟩; refine ⟨_, rfl, ?_⟩; replace HO_3 := Aside0.mk (Kd.R_mono (ok' := fun k_ => some k_ ≠ (.slice Ao46 t611.length co46 : Value).ownBlock) (Kd.R_keptB (HO_3.out) hkp (fun k_ hk_ hs_ => (hk_) hs_)) (fun k_ hk_ => hk_.1)); replace HO_6 := Aside0.mk (Kd.R_reok rfl hy0 (fun k_ e_ => HO_6.out.1 k_ e_)); replace HB := Aside0.mk (hb); (try clear hb); (try clear hkp); (try clear hy0)) | ((with_reducible refine gate_callee (f := 13) rfl ?_); refine goesL_ (some 64) rfl rfl Tryd.func13 (by kernel_rfl) rfl #[.slice Ao46 t624.length co46, .int .i64 1] rfl (by (try simp only [List.map_toArray, List.map_cons, List.map_nil]); first | done | (rw [show t624.length = t611.length from (Kd.R_reads' HO_6.out).1.symm] <;> rfl) | rfl | (simp only [List.length_drop, List.length_take]; rfl)) ?_; (with_reducible refine (laws_heldInt64S.calls kj24 _ _ t624 1 t625 _ ?side1 ?side2 A38.out).mono ?_); (case side1 => have q_ := Aside0.mk (Kd.R_reads' HO_6.out).2.2; exact cQ q_); (case side2 => rw [show t624.length = t611.length from (Kd.R_reads' HO_6.out).1.symm]; exact (Kd.R_reads' HO_6.out).2.1); rintro e w' ⟨rfl, ⟨nd, rfl⟩⟩; refine ⟨_, rfl, ?_⟩) | ((with_reducible refine gate_callee (f := 9) rfl ?_); refine goesL_ (some 72) rfl rfl Tryd.func9 (by kernel_rfl) rfl #[.slice A0 l0.length c0] rfl lz ?_; (with_reducible refine (laws_toInt64S.calls kj24 _ _ l0 t626 _ ?side1 ?side2 A43.out).mono ?_); (case side1 => have q_ := Aside0.mk (Kd.C_below HR0.out (beQ HB)); exact cQ q_); (case side2 => exact HC0.out); rintro e w48 ⟨v627, rfl, ho0, hb⟩; refine ⟨_, rfl, ?_⟩; have HO628 := Aside0.mk (Kd.R_lower (Kd.R_new' (Kd.R_new' ho0 (Kd.R_lt (kdQ HO_3))) (Kd.R_lt (kdQ HO_6))) (below_size (beQ HB))); replace HO_3 := Aside0.mk (Kd.R_elder' (kdQ HO_3) (Kd.R_base ho0) hb); replace HO_6 := Aside0.mk (Kd.R_elder' (kdQ HO_6) (Kd.R_base ho0) hb); replace HB := Aside0.mk (below_step (beQ HB) hb); (try clear hb); (try clear hb2); (try clear hk); (try clear hi); (try clear hgw_); (try clear ho0); obtain ⟨Ao49, co49, eo49⟩ := Kd.R_slice HO628.out; subst eo49) | ((with_reducible refine gate_callee (f := 22) rfl ?_); refine goesL_ (some 73) rfl rfl Tryd.func22 (by kernel_rfl) rfl #[.slice Ao49 t626.length co49] rfl lz ?_; (with_reducible refine (impl_DownsetsOf.calls kj24 _ _ t626 t629 t630 _ ?side1 ?side2 ?side3 A44.out).mono ?_); (case side1 => have q_ := Aside0.mk (Kd.R_reads' HO628.out).2.2; exact cQ q_); (case side2 => exact (Kd.R_reads' HO628.out).2.1); (case side3 => exact TabW.below HT.out (beQ HB)); rintro e w50 ⟨v631, rfl, ho0, hb⟩; refine ⟨_, rfl, ?_⟩; have HO632 := Aside0.mk (Kd.R_lower (Kd.R_new' (Kd.R_new' (Kd.R_new' ho0 (Kd.R_lt (kdQ HO_3))) (Kd.R_lt (kdQ HO_6))) (Kd.R_lt (kdQ HO628))) (below_size (beQ HB))); replace HO_3 := Aside0.mk (Kd.R_elder' (kdQ HO_3) (Kd.R_base ho0) hb); replace HO_6 := Aside0.mk (Kd.R_elder' (kdQ HO_6) (Kd.R_base ho0) hb); replace HO628 := Aside0.mk (Kd.R_elder' (kdQ HO628) (Kd.R_base ho0) hb); replace HB := Aside0.mk (below_step (beQ HB) hb); (try clear hb); (try clear hb2); (try clear hk); (try clear hi); (try clear hgw_); (try clear ho0)))
           (try simp only [Act.put, List.setIfInBounds_toArray, List.set_cons_zero, List.set_cons_succ])
           go_cut [84] (fun v84 wc => ∃ (kq : Nat) (x84_44 : Bool), v84 = .bool x84_44 ∧ Aside0 (laws_FnExactDownsetsOf.j2 kq t624 t623 x84_44 = some r) ∧ Aside0 (kq ≤ kj24) ∧ Aside0 (Kd.R (Kd.int .i64) 2 wc w.heap.size (fun _ => True) (.slice Ao46 t611.length co46) t624) ∧ Aside0 (Below w.heap.size w wc))
           case first =>
            have H := HC45.out; clear HC45; replace H := Option.bind_eq_some_iff.mp H; obtain ⟨t633, A510, H⟩ := H
            replace H : (if t633 = true then (laws_FnExactDownsetsOf.j2 kj24 t624 t623 (t630 != t605)) else (laws_FnExactDownsetsOf.j2 kj24 t624 t623 true)) = some r := H
            have A51 := Aside0.mk A510; clear A510
            by_cases c52 : t633 = true
            ·subst c52
             have H1 : (laws_FnExactDownsetsOf.j2 kj24 t624 t623 (t630 != t605)) = some r := by rw [if_pos rfl] at H; exact H
             clear H; have H := H1; clear H1
             have H' := Aside0.mk H
             clear H; obtain ⟨Ao53, co53, eo53⟩ := Kd.R_slice HO632.out; subst eo53; obtain ⟨Ao54, co54, eo54⟩ := Kd.R_slice HO_3.out; subst eo54
             go_wp2_with (first | ((with_reducible refine gate_callee (f := 11) rfl ?_); refine goesL_ (some 78) rfl rfl Tryd.func11 (by kernel_rfl) rfl #[.slice Ao53 t629.length co53, .slice Ao54 t604.length co54] rfl lz ?_; (with_reducible refine (laws_eqInt64S.calls kj24 _ _ t629 _ _ t604 true _ ?side1 ?side2 ?side3 ?side4 A51.out).mono ?_); (case side1 => have q_ := Aside0.mk (Kd.R_reads' HO632.out).2.2; exact cQ q_); (case side2 => exact (Kd.R_reads' HO632.out).2.1); (case side3 => have q_ := Aside0.mk (Kd.R_reads' HO_3.out).2.2; exact cQ q_); (case side4 => exact (Kd.R_reads' HO_3.out).2.1); rintro e w' ⟨rfl, ⟨nd, rfl⟩⟩; refine ⟨_, rfl, ?_⟩))
             go_meet
             case rel => exact ⟨_, ((t630 != t605)), sz, H', ⟨by have := HJ6.out; have := HJ24.out; first | omega | exact Nat.le_refl _⟩, ⟨by (with_reducible repeat (first | apply Kd.R_alloc | apply Kd.R_drewN | apply Kd.R_drew)); exact Kd.R_mono HO_6.out (fun _ hk => trivial)⟩, ⟨beQ HB⟩⟩
            ·replace c52 := Bool.eq_false_iff.mpr c52
             subst c52
             have H1 : (laws_FnExactDownsetsOf.j2 kj24 t624 t623 true) = some r := by rw [if_neg (show ¬ (false = true) by decide)] at H; exact H
             clear H; have H := H1; clear H1
             have H' := Aside0.mk H
             clear H; obtain ⟨Ao55, co55, eo55⟩ := Kd.R_slice HO632.out; subst eo55; obtain ⟨Ao56, co56, eo56⟩ := Kd.R_slice HO_3.out; subst eo56
             go_wp2_with (first | ((with_reducible refine gate_callee (f := 11) rfl ?_); refine goesL_ (some 78) rfl rfl Tryd.func11 (by kernel_rfl) rfl #[.slice Ao55 t629.length co55, .slice Ao56 t604.length co56] rfl lz ?_; (with_reducible refine (laws_eqInt64S.calls kj24 _ _ t629 _ _ t604 false _ ?side1 ?side2 ?side3 ?side4 A51.out).mono ?_); (case side1 => have q_ := Aside0.mk (Kd.R_reads' HO632.out).2.2; exact cQ q_); (case side2 => exact (Kd.R_reads' HO632.out).2.1); (case side3 => have q_ := Aside0.mk (Kd.R_reads' HO_3.out).2.2; exact cQ q_); (case side4 => exact (Kd.R_reads' HO_3.out).2.1); rintro e w' ⟨rfl, ⟨nd, rfl⟩⟩; refine ⟨_, rfl, ?_⟩))
             go_meet
             case rel => exact ⟨_, (true), sz, H', ⟨by have := HJ6.out; have := HJ24.out; first | omega | exact Nat.le_refl _⟩, ⟨by (with_reducible repeat (first | apply Kd.R_alloc | apply Kd.R_drewN | apply Kd.R_drew)); exact Kd.R_mono HO_6.out (fun _ hk => trivial)⟩, ⟨beQ HB⟩⟩
           case rest =>
            clear HC45
            try clear c1
            try clear c2
            try clear c2b0
            try clear c2b1
            try clear p2
            try clear c3
            try clear c4
            try clear c5
            try clear c6
            try clear c9
            try clear c11
            try clear c12
            try clear c13
            try clear c15
            try clear c20
            try clear c21
            try clear c22
            try clear c23
            try clear c29
            try clear c29b0
            try clear c31
            try clear c36
            try clear c39
            try clear c39b0
            try clear c42
            try clear c42b0
            try clear c42b1
            try clear c52
            try clear p2
            obtain ⟨kq, x84_44, rfl, HA, HJ44, HO_6, HB⟩ := hcut; have hl6_44 := (Kd.R_reads' HO_6.out).1; rw [hl6_44] at HO_6
            (try simp only [hl6_44])
            cases kq with
            | zero => exact absurd HA.out (by simp [laws_FnExactDownsetsOf.j2])
            | succ kj44 =>
             have H := HA.out; clear HA
             simp only [laws_FnExactDownsetsOf.j2] at H
             by_cases c57 : x84_44 = true
             ·subst c57
              have H1 : (some false) = some r := by rw [if_pos rfl] at H; exact H
              clear H; have H := H1; clear H1
              obtain rfl := Option.some.inj H
              go_wp2
              go_ret
              exact ⟨rz, beQ HB⟩
             ·replace c57 := Bool.eq_false_iff.mpr c57
              subst c57
              have H1 : ((laws_heldInt64S.f kj44 t624 1).bind fun t634 => (if t634 < 0 then (some false) else (if t634 = t623 then (some true) else (some false)))) = some r := by rw [if_neg (show ¬ (false = true) by decide)] at H; exact H
              clear H; have H := H1; clear H1; replace H := Option.bind_eq_some_iff.mp H; obtain ⟨t634, A580, H⟩ := H
              replace H : (if t634 < 0 then (some false) else (if t634 = t623 then (some true) else (some false))) = some r := H
              have A58 := Aside0.mk A580; clear A580
              by_cases c59 : t634 < 0
              ·rw [if_pos c59] at H
               have c59b0 : decide (t634 < 0) = true := decide_eq_true c59
               clear c59
               obtain rfl := Option.some.inj H
               go_wp2_with (first | ((with_reducible refine gate_callee (f := 13) rfl ?_); refine goesL_ (some 87) rfl rfl Tryd.func13 (by kernel_rfl) rfl #[.slice Ao46 t624.length co46, .int .i64 1] rfl lz ?_; (with_reducible refine (laws_heldInt64S.calls kj44 _ _ t624 1 t634 _ ?side1 ?side2 A58.out).mono ?_); (case side1 => have q_ := Aside0.mk (Kd.R_reads' HO_6.out).2.2; exact cQ q_); (case side2 => exact (Kd.R_reads' HO_6.out).2.1); rintro e w' ⟨rfl, ⟨nd, rfl⟩⟩; refine ⟨_, rfl, ?_⟩))
               go_ret
               exact ⟨rz, beQ HB⟩
              ·rw [if_neg c59] at H
               have c59b0 : decide (t634 < 0) = false := decide_eq_false c59
               clear c59
               by_cases c60 : t634 = t623
               ·rw [if_pos c60] at H
                have c60b0 : (t634 == t623) = true := beq_iff_eq.mpr c60
                have c60b1 : (t634 != t623) = false := bne_eq_false_iff_eq.mpr c60
                clear c60
                obtain rfl := Option.some.inj H
                go_wp2_with (first | ((with_reducible refine gate_callee (f := 13) rfl ?_); refine goesL_ (some 87) rfl rfl Tryd.func13 (by kernel_rfl) rfl #[.slice Ao46 t624.length co46, .int .i64 1] rfl lz ?_; (with_reducible refine (laws_heldInt64S.calls kj44 _ _ t624 1 t634 _ ?side1 ?side2 A58.out).mono ?_); (case side1 => have q_ := Aside0.mk (Kd.R_reads' HO_6.out).2.2; exact cQ q_); (case side2 => exact (Kd.R_reads' HO_6.out).2.1); rintro e w' ⟨rfl, ⟨nd, rfl⟩⟩; refine ⟨_, rfl, ?_⟩))
                go_ret
                exact ⟨rz, beQ HB⟩
               ·rw [if_neg c60] at H
                have c60b0 : (t634 == t623) = false := beq_eq_false_iff_ne.mpr c60
                have c60b1 : (t634 != t623) = true := bne_iff_ne.mpr c60
                obtain rfl := Option.some.inj H
                go_wp2_with (first | ((with_reducible refine gate_callee (f := 13) rfl ?_); refine goesL_ (some 87) rfl rfl Tryd.func13 (by kernel_rfl) rfl #[.slice Ao46 t624.length co46, .int .i64 1] rfl lz ?_; (with_reducible refine (laws_heldInt64S.calls kj44 _ _ t624 1 t634 _ ?side1 ?side2 A58.out).mono ?_); (case side1 => have q_ := Aside0.mk (Kd.R_reads' HO_6.out).2.2; exact cQ q_); (case side2 => exact (Kd.R_reads' HO_6.out).2.1); rintro e w' ⟨rfl, ⟨nd, rfl⟩⟩; refine ⟨_, rfl, ?_⟩))
                go_ret
                exact ⟨rz, beQ HB⟩
          ·rw [if_neg c42] at H
           have c42b0 : (t625 == t623) = false := beq_eq_false_iff_ne.mpr c42
           have c42b1 : (t625 != t623) = true := bne_iff_ne.mpr c42
           obtain rfl := Option.some.inj H
           obtain ⟨Ao61, co61, eo61⟩ := Kd.R_slice HO_6.out; subst eo61
           go_wp2_with (first | ((with_reducible refine gate_callee (f := 12) rfl ?_); refine goesL_ (some 61) rfl rfl Tryd.func12 (by kernel_rfl) rfl #[.slice Ao61 t611.length co61, .int .i64 1] rfl lz ?_; (with_reducible refine (laws_markInt64S.calls kj24 (fun k_ => some k_ = (.slice Ao61 t611.length co61 : Value).ownBlock) (.slice Ao61 t611.length co61) t611 1 t623 t624 w _ ?side1 ?side2 A37.out).mono ?_); (case side1 => repeat (first | (with_reducible first | exact HB.out | apply below_alloc | apply pw_below_drewN | apply below_drew1) | exact HB.out)); (case side2 => exact Kd.R_tight rfl HO_6.out); rintro e w62 ⟨rfl, hy0, hb, hkp⟩; refine ⟨_, rfl, ?_⟩; replace HO_3 := Aside0.mk (Kd.R_mono (ok' := fun k_ => some k_ ≠ (.slice Ao61 t611.length co61 : Value).ownBlock) (Kd.R_keptB (HO_3.out) hkp (fun k_ hk_ hs_ => (hk_) hs_)) (fun k_ hk_ => hk_.1)); replace HO_6 := Aside0.mk (Kd.R_reok rfl hy0 (fun k_ e_ => HO_6.out.1 k_ e_)); replace HB := Aside0.mk (hb); (try clear hb); (try clear hkp); (try clear hy0)) | ((with_reducible refine gate_callee (f := 13) rfl ?_); refine goesL_ (some 64) rfl rfl Tryd.func13 (by kernel_rfl) rfl #[.slice Ao61 t624.length co61, .int .i64 1] rfl (by (try simp only [List.map_toArray, List.map_cons, List.map_nil]); first | done | (rw [show t624.length = t611.length from (Kd.R_reads' HO_6.out).1.symm] <;> rfl) | rfl | (simp only [List.length_drop, List.length_take]; rfl)) ?_; (with_reducible refine (laws_heldInt64S.calls kj24 _ _ t624 1 t625 _ ?side1 ?side2 A38.out).mono ?_); (case side1 => have q_ := Aside0.mk (Kd.R_reads' HO_6.out).2.2; exact cQ q_); (case side2 => rw [show t624.length = t611.length from (Kd.R_reads' HO_6.out).1.symm]; exact (Kd.R_reads' HO_6.out).2.1); rintro e w' ⟨rfl, ⟨nd, rfl⟩⟩; refine ⟨_, rfl, ?_⟩))
           go_ret
           exact ⟨rz, beQ HB⟩
     ·replace c23 := Bool.eq_false_iff.mpr c23
      subst c23
      have H1 : (some false) = some r := by rw [if_neg (show ¬ (false = true) by decide)] at H; exact H
      clear H; have H := H1; clear H1
      obtain rfl := Option.some.inj H
      go_wp2_with (first | ((with_reducible refine gate_callee (f := 9) rfl ?_); refine goesL_ (some 40) rfl rfl Tryd.func9 (by kernel_rfl) rfl #[.slice A0 l0.length c0] rfl lz ?_; (with_reducible refine (laws_toInt64S.calls kj6 _ _ l0 t616 _ ?side1 ?side2 A21.out).mono ?_); (case side1 => have q_ := Aside0.mk (Kd.C_below HR0.out HB.out); exact cQ q_); (case side2 => exact HC0.out); rintro e w63 ⟨v617, rfl, ho0, hb⟩; refine ⟨_, rfl, ?_⟩; have HO618 := Aside0.mk (Kd.R_lower (Kd.R_new' (Kd.R_new' (Kd.R_new' ho0 (Kd.R_lt (kdQ HO_3))) (Kd.R_lt (kdQ HO_5))) (Kd.R_lt (kdQ HO_6))) (below_size (beQ HB))); replace HO_3 := Aside0.mk (Kd.R_elder' (kdQ HO_3) (Kd.R_base ho0) hb); replace HO_5 := Aside0.mk (Kd.R_elder' (kdQ HO_5) (Kd.R_base ho0) hb); replace HO_6 := Aside0.mk (Kd.R_elder' (kdQ HO_6) (Kd.R_base ho0) hb); replace HB := Aside0.mk (below_step (beQ HB) hb); (try clear hb); (try clear hb2); (try clear hk); (try clear hi); (try clear hgw_); (try clear ho0); obtain ⟨Ao64, co64, eo64⟩ := Kd.R_slice HO618.out; subst eo64) | ((with_reducible refine gate_callee (f := 11) rfl ?_); refine goesL_ (some 41) rfl rfl Tryd.func11 (by kernel_rfl) rfl #[.slice Ao12 t608.length co12, .slice Ao64 t616.length co64] rfl lz ?_; (with_reducible refine (laws_eqInt64S.calls kj6 _ _ t608 _ _ t616 false _ ?side1 ?side2 ?side3 ?side4 A22.out).mono ?_); (case side1 => have q_ := Aside0.mk (Kd.R_reads' HO_5.out).2.2; exact cQ q_); (case side2 => exact (Kd.R_reads' HO_5.out).2.1); (case side3 => have q_ := Aside0.mk (Kd.R_reads' HO618.out).2.2; exact cQ q_); (case side4 => exact (Kd.R_reads' HO618.out).2.1); rintro e w' ⟨rfl, ⟨nd, rfl⟩⟩; refine ⟨_, rfl, ?_⟩))
      go_ret
      exact ⟨rz, beQ HB⟩

end Go.Proofs.YtjckfnaohikmbaaDoor.G
