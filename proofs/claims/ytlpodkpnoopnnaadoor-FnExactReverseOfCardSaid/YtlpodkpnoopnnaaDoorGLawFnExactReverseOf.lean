/- How the program's functions compute, function by function: each is told by a plain Lean function of the same answers, under the condition that this one answers. Written by a program of this project over the seat's translation; Lean checks it. -/
import Derived.Test.YtlpodkpnoopnnaaDoorG0
import Derived.Test.YtlpodkpnoopnnaaDoorGQ00
import Derived.Test.YtlpodkpnoopnnaaDoorGQ08
import Derived.Test.YtlpodkpnoopnnaaDoorGQ27
namespace Go.Proofs.YtlpodkpnoopnnaaDoor.G
open Go.RowKit Go.Proofs.YtlpodkpnoopnnaaDoorW.PrintWords Go.Proofs.YtlpodkpnoopnnaaDoorW.PrintLast Go.Proofs.YtlpodkpnoopnnaaDoorW.PrintMore
attribute [local go_sem] max2_int min2_int max_two min_two max_three min_three max_four min_four   -- for this text's walks alone
set_option linter.unusedVariables false
set_option linter.unusedSimpArgs false

/-! ### laws_FnExactReverseOf: function 10 -/
mutual
def laws_FnExactReverseOf.j0 : Nat → List Int → List Int → Int → List Int → List Int → Int → Bool → Int → List Int → Int → List Int → Option (Bool)
 | 0, _, _, _, _, _, _, _, _, _, _, _ => none
 | k + 1, x1, x6, x7, x9, x10, x11, x51, x855000, x855001, x872000, x872001 => if x51 = true then (some false) else ((laws_toAlphabet.f k x855000 x855001).bind fun bt880 => ((laws_eqAlphabet.f k x872000 x872001 bt880.1 bt880.2).bind fun t884 => (if t884 = true then ((laws_toInt64S.f k x1).bind fun t885 => ((laws_eqInt64S.f k x9 t885).bind fun t888 => (if t888 = true then ((laws_markAlphabet.f k x872000 x872001 1).bind fun bt889 => ((laws_markInt64S.f k x9 bt889.1).bind fun bt891 => (if bt891.1 < 0 then (laws_FnExactReverseOf.j1 k x1 x6 x7 x10 true x855000 x855001) else ((laws_eqInt64S.f k x10 x6).bind fun t893 => (if t893 = true then (laws_FnExactReverseOf.j1 k x1 x6 x7 x10 (x11 != x7) x855000 x855001) else (laws_FnExactReverseOf.j1 k x1 x6 x7 x10 true x855000 x855001)))))) else (some false)))) else (some false))))
def laws_FnExactReverseOf.j1 : Nat → List Int → List Int → Int → List Int → Bool → Int → List Int → Option (Bool)
 | 0, _, _, _, _, _, _, _ => none
 | k + 1, x1, x6, x7, x10, x80, x855000, x855001 => if x80 = true then (some false) else ((laws_markInt64S.f k x10 1).bind fun bt894 => ((laws_heldInt64S.f k bt894.2 1).bind fun t896 => (if t896 < 0 then (some false) else (if t896 = bt894.1 then ((laws_toAlphabet.f k x855000 x855001).bind fun bt897 => ((laws_toInt64S.f k x1).bind fun t901 => ((impl_ReverseOf.f k bt897.1 bt897.2 t901).bind fun bt904 => ((laws_eqInt64S.f k bt904.1 x6).bind fun t908 => (if t908 = true then (laws_FnExactReverseOf.j2 k bt894.2 bt894.1 (bt904.2 != x7)) else (laws_FnExactReverseOf.j2 k bt894.2 bt894.1 true)))))) else (some false)))))
def laws_FnExactReverseOf.j2 : Nat → List Int → Int → Bool → Option (Bool)
 | 0, _, _, _ => none
 | k + 1, x10, x13, x108 => if x108 = true then (some false) else ((laws_heldInt64S.f k x10 1).bind fun t909 => (if t909 < 0 then (some false) else (if t909 = x13 then (some true) else (some false))))
end
def laws_FnExactReverseOf.f (k : Nat) (a0_0 : Int) (l0_1 : List Int) (l1 : List Int) : Option (Bool) := if (l1.length : Int) > 1048576 then (some true) else ((laws_szAlphabet.f a0_0 l0_1 1048576).bind fun t855 => (if t855 < 0 then (some true) else ((laws_toAlphabet.f k a0_0 l0_1).bind fun bt856 => ((laws_toInt64S.f k l1).bind fun t860 => ((spec_ReverseOf.f k bt856.1 bt856.2 t860).bind fun bt863 => ((laws_toAlphabet.f k a0_0 l0_1).bind fun bt867 => ((laws_toInt64S.f k l1).bind fun t872 => ((impl_ReverseOf.f k bt867.1 bt867.2 t872).bind fun bt875 => ((laws_eqInt64S.f k bt875.1 bt863.1).bind fun t879 => (if t879 = true then (laws_FnExactReverseOf.j0 k l1 bt863.1 bt863.2 t872 bt875.1 bt875.2 (bt875.2 != bt863.2) a0_0 l0_1 bt867.1 bt867.2) else (laws_FnExactReverseOf.j0 k l1 bt863.1 bt863.2 t872 bt875.1 bt875.2 true a0_0 l0_1 bt867.1 bt867.2)))))))))))
theorem laws_FnExactReverseOf.mono_l : ∀ k, (∀ y0 y1 y2 y3 y4 y5 y6 y7 y8 y9 y10, LeO (laws_FnExactReverseOf.j0 k y0 y1 y2 y3 y4 y5 y6 y7 y8 y9 y10) (laws_FnExactReverseOf.j0 (k + 1) y0 y1 y2 y3 y4 y5 y6 y7 y8 y9 y10)) ∧ (∀ y0 y1 y2 y3 y4 y5 y6, LeO (laws_FnExactReverseOf.j1 k y0 y1 y2 y3 y4 y5 y6) (laws_FnExactReverseOf.j1 (k + 1) y0 y1 y2 y3 y4 y5 y6)) ∧ (∀ y0 y1 y2, LeO (laws_FnExactReverseOf.j2 k y0 y1 y2) (laws_FnExactReverseOf.j2 (k + 1) y0 y1 y2))
 | 0 => ⟨fun _ _ _ _ _ _ _ _ _ _ _ r h => by simp [laws_FnExactReverseOf.j0] at h, fun _ _ _ _ _ _ _ r h => by simp [laws_FnExactReverseOf.j1] at h, fun _ _ _ r h => by simp [laws_FnExactReverseOf.j2] at h⟩
 | k + 1 => by
  obtain ⟨ih0, ih1, ih2⟩ := laws_FnExactReverseOf.mono_l k
  refine ⟨?_, ?_, ?_⟩
  ·intro y0 y1 y2 y3 y4 y5 y6 y7 y8 y9 y10
   unfold laws_FnExactReverseOf.j0
   repeat' first
   | (with_reducible exact ih0 _ _ _ _ _ _ _ _ _ _ _)
   | (with_reducible exact ih1 _ _ _ _ _ _ _)
   | (with_reducible exact ih2 _ _ _)
   | (with_reducible exact impl_ReverseOf.mono _ _ _ _)
   | (with_reducible exact laws_eqAlphabet.mono _ _ _ _ _)
   | (with_reducible exact laws_eqInt64S.mono _ _ _)
   | (with_reducible exact laws_heldInt64S.mono _ _ _)
   | (with_reducible exact laws_markAlphabet.mono _ _ _ _)
   | (with_reducible exact laws_markInt64S.mono _ _ _)
   | (with_reducible exact laws_toAlphabet.mono _ _ _)
   | (with_reducible exact laws_toInt64S.mono _ _)
   | (with_reducible exact spec_ReverseOf.mono _ _ _ _)
   | (with_reducible exact LeO.refl _)
   | (with_reducible exact LeO.none _)
   | (with_reducible refine LeO.ite ?_ ?_)
   | (with_reducible refine LeO.bind ?_ (fun _ => ?_))
   | exact ih0 _ _ _ _ _ _ _ _ _ _ _
   | exact ih1 _ _ _ _ _ _ _
   | exact ih2 _ _ _
   | exact impl_ReverseOf.mono _ _ _ _
   | exact laws_eqAlphabet.mono _ _ _ _ _
   | exact laws_eqInt64S.mono _ _ _
   | exact laws_heldInt64S.mono _ _ _
   | exact laws_markAlphabet.mono _ _ _ _
   | exact laws_markInt64S.mono _ _ _
   | exact laws_toAlphabet.mono _ _ _
   | exact laws_toInt64S.mono _ _
   | exact spec_ReverseOf.mono _ _ _ _
   | exact LeO.none _
   | refine LeO.ite ?_ ?_
   | refine LeO.bind ?_ (fun _ => ?_)
  ·intro y0 y1 y2 y3 y4 y5 y6
   unfold laws_FnExactReverseOf.j1
   repeat' first
   | (with_reducible exact ih0 _ _ _ _ _ _ _ _ _ _ _)
   | (with_reducible exact ih1 _ _ _ _ _ _ _)
   | (with_reducible exact ih2 _ _ _)
   | (with_reducible exact impl_ReverseOf.mono _ _ _ _)
   | (with_reducible exact laws_eqAlphabet.mono _ _ _ _ _)
   | (with_reducible exact laws_eqInt64S.mono _ _ _)
   | (with_reducible exact laws_heldInt64S.mono _ _ _)
   | (with_reducible exact laws_markAlphabet.mono _ _ _ _)
   | (with_reducible exact laws_markInt64S.mono _ _ _)
   | (with_reducible exact laws_toAlphabet.mono _ _ _)
   | (with_reducible exact laws_toInt64S.mono _ _)
   | (with_reducible exact spec_ReverseOf.mono _ _ _ _)
   | (with_reducible exact LeO.refl _)
   | (with_reducible exact LeO.none _)
   | (with_reducible refine LeO.ite ?_ ?_)
   | (with_reducible refine LeO.bind ?_ (fun _ => ?_))
   | exact ih0 _ _ _ _ _ _ _ _ _ _ _
   | exact ih1 _ _ _ _ _ _ _
   | exact ih2 _ _ _
   | exact impl_ReverseOf.mono _ _ _ _
   | exact laws_eqAlphabet.mono _ _ _ _ _
   | exact laws_eqInt64S.mono _ _ _
   | exact laws_heldInt64S.mono _ _ _
   | exact laws_markAlphabet.mono _ _ _ _
   | exact laws_markInt64S.mono _ _ _
   | exact laws_toAlphabet.mono _ _ _
   | exact laws_toInt64S.mono _ _
   | exact spec_ReverseOf.mono _ _ _ _
   | exact LeO.none _
   | refine LeO.ite ?_ ?_
   | refine LeO.bind ?_ (fun _ => ?_)
  ·intro y0 y1 y2
   unfold laws_FnExactReverseOf.j2
   repeat' first
   | (with_reducible exact ih0 _ _ _ _ _ _ _ _ _ _ _)
   | (with_reducible exact ih1 _ _ _ _ _ _ _)
   | (with_reducible exact ih2 _ _ _)
   | (with_reducible exact impl_ReverseOf.mono _ _ _ _)
   | (with_reducible exact laws_eqAlphabet.mono _ _ _ _ _)
   | (with_reducible exact laws_eqInt64S.mono _ _ _)
   | (with_reducible exact laws_heldInt64S.mono _ _ _)
   | (with_reducible exact laws_markAlphabet.mono _ _ _ _)
   | (with_reducible exact laws_markInt64S.mono _ _ _)
   | (with_reducible exact laws_toAlphabet.mono _ _ _)
   | (with_reducible exact laws_toInt64S.mono _ _)
   | (with_reducible exact spec_ReverseOf.mono _ _ _ _)
   | (with_reducible exact LeO.refl _)
   | (with_reducible exact LeO.none _)
   | (with_reducible refine LeO.ite ?_ ?_)
   | (with_reducible refine LeO.bind ?_ (fun _ => ?_))
   | exact ih0 _ _ _ _ _ _ _ _ _ _ _
   | exact ih1 _ _ _ _ _ _ _
   | exact ih2 _ _ _
   | exact impl_ReverseOf.mono _ _ _ _
   | exact laws_eqAlphabet.mono _ _ _ _ _
   | exact laws_eqInt64S.mono _ _ _
   | exact laws_heldInt64S.mono _ _ _
   | exact laws_markAlphabet.mono _ _ _ _
   | exact laws_markInt64S.mono _ _ _
   | exact laws_toAlphabet.mono _ _ _
   | exact laws_toInt64S.mono _ _
   | exact spec_ReverseOf.mono _ _ _ _
   | exact LeO.none _
   | refine LeO.ite ?_ ?_
   | refine LeO.bind ?_ (fun _ => ?_)
theorem laws_FnExactReverseOf.mono : ∀ a0 a1 a2 k, LeO (laws_FnExactReverseOf.f k a0 a1 a2) (laws_FnExactReverseOf.f (k + 1) a0 a1 a2) := by
 intro a0 a1 a2 k
 obtain ⟨ih0, ih1, ih2⟩ := laws_FnExactReverseOf.mono_l k
 unfold laws_FnExactReverseOf.f
 repeat' first
   | (with_reducible exact ih0 _ _ _ _ _ _ _ _ _ _ _)
   | (with_reducible exact ih1 _ _ _ _ _ _ _)
   | (with_reducible exact ih2 _ _ _)
   | (with_reducible exact impl_ReverseOf.mono _ _ _ _)
   | (with_reducible exact laws_eqAlphabet.mono _ _ _ _ _)
   | (with_reducible exact laws_eqInt64S.mono _ _ _)
   | (with_reducible exact laws_heldInt64S.mono _ _ _)
   | (with_reducible exact laws_markAlphabet.mono _ _ _ _)
   | (with_reducible exact laws_markInt64S.mono _ _ _)
   | (with_reducible exact laws_toAlphabet.mono _ _ _)
   | (with_reducible exact laws_toInt64S.mono _ _)
   | (with_reducible exact spec_ReverseOf.mono _ _ _ _)
   | (with_reducible exact LeO.refl _)
   | (with_reducible exact LeO.none _)
   | (with_reducible refine LeO.ite ?_ ?_)
   | (with_reducible refine LeO.bind ?_ (fun _ => ?_))
   | exact ih0 _ _ _ _ _ _ _ _ _ _ _
   | exact ih1 _ _ _ _ _ _ _
   | exact ih2 _ _ _
   | exact impl_ReverseOf.mono _ _ _ _
   | exact laws_eqAlphabet.mono _ _ _ _ _
   | exact laws_eqInt64S.mono _ _ _
   | exact laws_heldInt64S.mono _ _ _
   | exact laws_markAlphabet.mono _ _ _ _
   | exact laws_markInt64S.mono _ _ _
   | exact laws_toAlphabet.mono _ _ _
   | exact laws_toInt64S.mono _ _
   | exact spec_ReverseOf.mono _ _ _ _
   | exact LeO.none _
   | refine LeO.ite ?_ ?_
   | refine LeO.bind ?_ (fun _ => ?_)
set_option maxHeartbeats 8000000 in
set_option maxRecDepth 100000 in
theorem laws_FnExactReverseOf.calls (k : Nat) (a0_0 : Int) (A0_1 : Option Addr) (c0_1 : Nat) (l0_1 : List Int) (A1 : Option Addr) (c1 : Nat) (l1 : List Int) (r : Bool) (w : World) (hr0_1 : Kd.C (Kd.int .i64) w A0_1 l0_1.length l0_1) (hc0_1 : l0_1.length ≤ c0_1) (hr1 : Kd.C (Kd.int .i64) w A1 l1.length l1) (hc1 : l1.length ≤ c1) (hT : TabW w) (h : laws_FnExactReverseOf.f k a0_0 l0_1 l1 = some r) :
  Calls Tryd.prog 10 #[.agg #[.int .i64 a0_0, .slice A0_1 l0_1.length c0_1], .slice A1 l1.length c1] w fun e w' => e = .returned (.bool r) ∧ Below w.heap.size w w' := by
 have hu24 := Tryd.underlying24; have hu28 := Tryd.underlying28; have HT := Aside0.mk hT; clear hT; have HR0_1 := Aside0.mk hr0_1; have HC0_1 := Aside0.mk hc0_1; clear hr0_1 hc0_1; have HR1 := Aside0.mk hr1; have HC1 := Aside0.mk hc1; clear hr1 hc1; have HB := Aside0.mk (Below.refl w.heap.size w)
 have H : (if (l1.length : Int) > 1048576 then (some true) else ((laws_szAlphabet.f a0_0 l0_1 1048576).bind fun t855 => (if t855 < 0 then (some true) else ((laws_toAlphabet.f k a0_0 l0_1).bind fun bt856 => ((laws_toInt64S.f k l1).bind fun t860 => ((spec_ReverseOf.f k bt856.1 bt856.2 t860).bind fun bt863 => ((laws_toAlphabet.f k a0_0 l0_1).bind fun bt867 => ((laws_toInt64S.f k l1).bind fun t872 => ((impl_ReverseOf.f k bt867.1 bt867.2 t872).bind fun bt875 => ((laws_eqInt64S.f k bt875.1 bt863.1).bind fun t879 => (if t879 = true then (laws_FnExactReverseOf.j0 k l1 bt863.1 bt863.2 t872 bt875.1 bt875.2 (bt875.2 != bt863.2) a0_0 l0_1 bt867.1 bt867.2) else (laws_FnExactReverseOf.j0 k l1 bt863.1 bt863.2 t872 bt875.1 bt875.2 true a0_0 l0_1 bt867.1 bt867.2)))))))))))) = some r := h
 clear h
 by_cases c3 : (l1.length : Int) > 1048576
 ·rw [if_pos c3] at H
  have c3b0 : decide (1048576 < (l1.length : Int)) = true := decide_eq_true c3
  have c3b1 : decide (1048576 < l1.length) = true := decide_eq_true (by omega)
  clear c3
  obtain rfl := Option.some.inj H
  go_enter Tryd.func10, Tryd.ntmps10
  go_wp2_with (first | ((with_reducible refine gate_dst (N := 2) rfl ?_); refine box_event ?hg (N := 2) ?hd (cs := #[.int .i64 a0_0, .slice A0_1 l0_1.length c0_1]) (t := 24) ?hr ?_; (case hd => rfl); (case hg => rfl); (case hr => first | (go_simp; done) | (go_simp; rfl)); intro gb854 hg w4 hbox hb; have BK854 := Aside0.mk (hbox); have GW854 := Aside0.mk ((by rw [hg]; exact (below_size (beQ HB)) : w.heap.size ≤ gb854)); have GE854 := Aside0.mk ((by rw [hg]; exact (below_size (beQ HB)) : w.heap.size ≤ gb854)); replace HB := Aside0.mk (below_step (beQ HB) hb); clear hb hbox hg))
  go_ret
  exact ⟨rz, beQ HB⟩
 ·rw [if_neg c3] at H
  have c3b0 : decide (1048576 < (l1.length : Int)) = false := decide_eq_false c3
  have c3b1 : decide (1048576 < l1.length) = false := decide_eq_false (by omega)
  clear c3; replace H := Option.bind_eq_some_iff.mp H; obtain ⟨t855, A50, H⟩ := H
  replace H : (if t855 < 0 then (some true) else ((laws_toAlphabet.f k a0_0 l0_1).bind fun bt856 => ((laws_toInt64S.f k l1).bind fun t860 => ((spec_ReverseOf.f k bt856.1 bt856.2 t860).bind fun bt863 => ((laws_toAlphabet.f k a0_0 l0_1).bind fun bt867 => ((laws_toInt64S.f k l1).bind fun t872 => ((impl_ReverseOf.f k bt867.1 bt867.2 t872).bind fun bt875 => ((laws_eqInt64S.f k bt875.1 bt863.1).bind fun t879 => (if t879 = true then (laws_FnExactReverseOf.j0 k l1 bt863.1 bt863.2 t872 bt875.1 bt875.2 (bt875.2 != bt863.2) a0_0 l0_1 bt867.1 bt867.2) else (laws_FnExactReverseOf.j0 k l1 bt863.1 bt863.2 t872 bt875.1 bt875.2 true a0_0 l0_1 bt867.1 bt867.2)))))))))) = some r := H
  have A5 := Aside0.mk A50; clear A50
  by_cases c6 : t855 < 0
  ·rw [if_pos c6] at H
   have c6b0 : decide (t855 < 0) = true := decide_eq_true c6
   clear c6
   obtain rfl := Option.some.inj H
   go_enter Tryd.func10, Tryd.ntmps10
   go_wp2_with (first | ((with_reducible refine gate_dst (N := 2) rfl ?_); refine box_event ?hg (N := 2) ?hd (cs := #[.int .i64 a0_0, .slice A0_1 l0_1.length c0_1]) (t := 24) ?hr ?_; (case hd => rfl); (case hg => rfl); (case hr => first | (go_simp; done) | (go_simp; rfl)); intro gb854 hg w7 hbox hb; have BK854 := Aside0.mk (hbox); have GW854 := Aside0.mk ((by rw [hg]; exact (below_size (beQ HB)) : w.heap.size ≤ gb854)); have GE854 := Aside0.mk ((by rw [hg]; exact (below_size (beQ HB)) : w.heap.size ≤ gb854)); replace HB := Aside0.mk (below_step (beQ HB) hb); clear hb hbox hg; have hcz8_0 : w7.cell? ⟨gb854, 0, none⟩ = some (.int .i64 a0_0) := bc BK854 0; have hcz8_1 : w7.cell? ⟨gb854, 1, none⟩ = some (.slice A0_1 l0_1.length c0_1) := bc BK854 1; have hfz8_0 := blk_frozen BK854.out 0; have hfz8_1 := blk_frozen BK854.out 1) | ((with_reducible refine gate_callee (f := 15) rfl ?_); refine goesL_ (some 22) rfl rfl Tryd.func15 (by kernel_rfl) rfl #[.agg #[.int .i64 a0_0, .slice A0_1 l0_1.length c0_1], .int .i64 1048576] rfl lz ?_; (with_reducible refine (laws_szAlphabet.calls a0_0 _ _ l0_1 1048576 t855 _ ?side1 ?side2 A5.out).mono ?_); (case side1 => have q_ := Aside0.mk (Kd.C_below HR0_1.out HB.out); exact cQ q_); (case side2 => exact HC0_1.out); rintro e w9 ⟨rfl, hb⟩; refine ⟨_, rfl, ?_⟩; replace BK854 := bb BK854 hb; replace HB := Aside0.mk (below_step (beQ HB) hb); (try clear hb); (try clear hb2); (try clear hk); (try clear hi)))
   go_ret
   exact ⟨rz, beQ HB⟩
  ·rw [if_neg c6] at H
   have c6b0 : decide (t855 < 0) = false := decide_eq_false c6
   clear c6; replace H := Option.bind_eq_some_iff.mp H
   obtain ⟨⟨t856, t857⟩, A100, H⟩ := H
   replace H : ((laws_toInt64S.f k l1).bind fun t860 => ((spec_ReverseOf.f k t856 t857 t860).bind fun bt863 => ((laws_toAlphabet.f k a0_0 l0_1).bind fun bt867 => ((laws_toInt64S.f k l1).bind fun t872 => ((impl_ReverseOf.f k bt867.1 bt867.2 t872).bind fun bt875 => ((laws_eqInt64S.f k bt875.1 bt863.1).bind fun t879 => (if t879 = true then (laws_FnExactReverseOf.j0 k l1 bt863.1 bt863.2 t872 bt875.1 bt875.2 (bt875.2 != bt863.2) a0_0 l0_1 bt867.1 bt867.2) else (laws_FnExactReverseOf.j0 k l1 bt863.1 bt863.2 t872 bt875.1 bt875.2 true a0_0 l0_1 bt867.1 bt867.2)))))))) = some r := H
   have A10 := Aside0.mk A100; clear A100; replace H := Option.bind_eq_some_iff.mp H; obtain ⟨t860, A110, H⟩ := H
   replace H : ((spec_ReverseOf.f k t856 t857 t860).bind fun bt863 => ((laws_toAlphabet.f k a0_0 l0_1).bind fun bt867 => ((laws_toInt64S.f k l1).bind fun t872 => ((impl_ReverseOf.f k bt867.1 bt867.2 t872).bind fun bt875 => ((laws_eqInt64S.f k bt875.1 bt863.1).bind fun t879 => (if t879 = true then (laws_FnExactReverseOf.j0 k l1 bt863.1 bt863.2 t872 bt875.1 bt875.2 (bt875.2 != bt863.2) a0_0 l0_1 bt867.1 bt867.2) else (laws_FnExactReverseOf.j0 k l1 bt863.1 bt863.2 t872 bt875.1 bt875.2 true a0_0 l0_1 bt867.1 bt867.2))))))) = some r := H
   have A11 := Aside0.mk A110; clear A110; replace H := Option.bind_eq_some_iff.mp H
   obtain ⟨⟨t863, t866⟩, A120, H⟩ := H
   replace H : ((laws_toAlphabet.f k a0_0 l0_1).bind fun bt867 => ((laws_toInt64S.f k l1).bind fun t872 => ((impl_ReverseOf.f k bt867.1 bt867.2 t872).bind fun bt875 => ((laws_eqInt64S.f k bt875.1 t863).bind fun t879 => (if t879 = true then (laws_FnExactReverseOf.j0 k l1 t863 t866 t872 bt875.1 bt875.2 (bt875.2 != t866) a0_0 l0_1 bt867.1 bt867.2) else (laws_FnExactReverseOf.j0 k l1 t863 t866 t872 bt875.1 bt875.2 true a0_0 l0_1 bt867.1 bt867.2)))))) = some r := H
   have A12 := Aside0.mk A120; clear A120; replace H := Option.bind_eq_some_iff.mp H
   obtain ⟨⟨t867, t868⟩, A130, H⟩ := H
   replace H : ((laws_toInt64S.f k l1).bind fun t872 => ((impl_ReverseOf.f k t867 t868 t872).bind fun bt875 => ((laws_eqInt64S.f k bt875.1 t863).bind fun t879 => (if t879 = true then (laws_FnExactReverseOf.j0 k l1 t863 t866 t872 bt875.1 bt875.2 (bt875.2 != t866) a0_0 l0_1 t867 t868) else (laws_FnExactReverseOf.j0 k l1 t863 t866 t872 bt875.1 bt875.2 true a0_0 l0_1 t867 t868))))) = some r := H
   have A13 := Aside0.mk A130; clear A130; replace H := Option.bind_eq_some_iff.mp H; obtain ⟨t872, A140, H⟩ := H
   replace H : ((impl_ReverseOf.f k t867 t868 t872).bind fun bt875 => ((laws_eqInt64S.f k bt875.1 t863).bind fun t879 => (if t879 = true then (laws_FnExactReverseOf.j0 k l1 t863 t866 t872 bt875.1 bt875.2 (bt875.2 != t866) a0_0 l0_1 t867 t868) else (laws_FnExactReverseOf.j0 k l1 t863 t866 t872 bt875.1 bt875.2 true a0_0 l0_1 t867 t868)))) = some r := H
   have A14 := Aside0.mk A140; clear A140; replace H := Option.bind_eq_some_iff.mp H
   obtain ⟨⟨t875, t878⟩, A150, H⟩ := H
   replace H : ((laws_eqInt64S.f k t875 t863).bind fun t879 => (if t879 = true then (laws_FnExactReverseOf.j0 k l1 t863 t866 t872 t875 t878 (t878 != t866) a0_0 l0_1 t867 t868) else (laws_FnExactReverseOf.j0 k l1 t863 t866 t872 t875 t878 true a0_0 l0_1 t867 t868))) = some r := H
   have A15 := Aside0.mk A150; clear A150; have HC16 := Aside0.mk H; clear H
   go_enter Tryd.func10, Tryd.ntmps10
   go_upto_region 11 with (first | ((with_reducible refine gate_dst (N := 2) rfl ?_); refine box_event ?hg (N := 2) ?hd (cs := #[.int .i64 a0_0, .slice A0_1 l0_1.length c0_1]) (t := 24) ?hr ?_; (case hd => rfl); (case hg => rfl); (case hr => first | (go_simp; done) | (go_simp; rfl)); intro gb854 hg w17 hbox hb; have BK854 := Aside0.mk (hbox); have GW854 := Aside0.mk ((by rw [hg]; exact (below_size (beQ HB)) : w.heap.size ≤ gb854)); have GE854 := Aside0.mk ((by rw [hg]; exact (below_size (beQ HB)) : w.heap.size ≤ gb854)); replace HB := Aside0.mk (below_step (beQ HB) hb); clear hb hbox hg; have hcz18_0 : w17.cell? ⟨gb854, 0, none⟩ = some (.int .i64 a0_0) := bc BK854 0; have hcz18_1 : w17.cell? ⟨gb854, 1, none⟩ = some (.slice A0_1 l0_1.length c0_1) := bc BK854 1; have hfz18_0 := blk_frozen BK854.out 0; have hfz18_1 := blk_frozen BK854.out 1) | ((with_reducible refine gate_callee (f := 15) rfl ?_); refine goesL_ (some 22) rfl rfl Tryd.func15 (by kernel_rfl) rfl #[.agg #[.int .i64 a0_0, .slice A0_1 l0_1.length c0_1], .int .i64 1048576] rfl lz ?_; (with_reducible refine (laws_szAlphabet.calls a0_0 _ _ l0_1 1048576 t855 _ ?side1 ?side2 A5.out).mono ?_); (case side1 => have q_ := Aside0.mk (Kd.C_below HR0_1.out HB.out); exact cQ q_); (case side2 => exact HC0_1.out); rintro e w19 ⟨rfl, hb⟩; refine ⟨_, rfl, ?_⟩; replace BK854 := bb BK854 hb; replace HB := Aside0.mk (below_step (beQ HB) hb); (try clear hb); (try clear hb2); (try clear hk); (try clear hi); have hcz20_0 : w19.cell? ⟨gb854, 0, none⟩ = some (.int .i64 a0_0) := bc BK854 0; have hcz20_1 : w19.cell? ⟨gb854, 1, none⟩ = some (.slice A0_1 l0_1.length c0_1) := bc BK854 1; have hfz20_0 := blk_frozen BK854.out 0; have hfz20_1 := blk_frozen BK854.out 1) | ((with_reducible refine gate_callee (f := 17) rfl ?_); refine goesL_ (some 27) rfl rfl Tryd.func17 (by kernel_rfl) rfl #[.agg #[.int .i64 a0_0, .slice A0_1 l0_1.length c0_1]] rfl lz ?_; (with_reducible refine (laws_toAlphabet.calls k a0_0 _ _ l0_1 t856 t857 _ ?side1 ?side2 A10.out).mono ?_); (case side1 => have q_ := Aside0.mk (Kd.C_below HR0_1.out HB.out); exact cQ q_); (case side2 => exact HC0_1.out); rintro e w21 ⟨v858, rfl, ho0, hb⟩; refine ⟨_, rfl, ?_⟩; have HO859 := Aside0.mk (Kd.R_lower ho0 (below_size (beQ HB))); replace BK854 := bb BK854 hb; replace HB := Aside0.mk (below_step (beQ HB) hb); (try clear hb); (try clear hb2); (try clear hk); (try clear hi); (try clear ho0)) | ((with_reducible refine gate_callee (f := 18) rfl ?_); refine goesL_ (some 29) rfl rfl Tryd.func18 (by kernel_rfl) rfl #[.slice A1 l1.length c1] rfl lz ?_; (with_reducible refine (laws_toInt64S.calls k _ _ l1 t860 _ ?side1 ?side2 A11.out).mono ?_); (case side1 => have q_ := Aside0.mk (Kd.C_below HR1.out HB.out); exact cQ q_); (case side2 => exact HC1.out); rintro e w22 ⟨v861, rfl, ho0, hb⟩; refine ⟨_, rfl, ?_⟩; have HO862 := Aside0.mk (Kd.R_lower (Kd.R_new' ho0 (Kd.R_lt (kdQ HO859))) (below_size (beQ HB))); replace HO859 := Aside0.mk (Kd.R_elder' (kdQ HO859) (Kd.R_base ho0) hb); replace BK854 := bb BK854 hb; replace HB := Aside0.mk (below_step (beQ HB) hb); (try clear hb); (try clear hb2); (try clear hk); (try clear hi); (try clear ho0); obtain ⟨Ao23, co23, eo23⟩ := Kd.R_slice HO859.out; subst eo23; obtain ⟨Ao24, co24, eo24⟩ := Kd.R_slice HO862.out; subst eo24) | ((with_reducible refine gate_callee (f := 40) rfl ?_); refine goesL_ (some 30) rfl rfl Tryd.func40 (by kernel_rfl) rfl #[.agg #[.int .i64 t856, .slice Ao23 t857.length co23], .slice Ao24 t860.length co24] rfl lz ?_; (with_reducible refine (spec_ReverseOf.calls k t856 _ _ t857 _ _ t860 t863 t866 _ ?side1 ?side2 ?side3 ?side4 A12.out).mono ?_); (case side1 => have q_ := Aside0.mk (Kd.R_reads' HO859.out).2.2; exact cQ q_); (case side2 => exact (Kd.R_reads' HO859.out).2.1); (case side3 => have q_ := Aside0.mk (Kd.R_reads' HO862.out).2.2; exact cQ q_); (case side4 => exact (Kd.R_reads' HO862.out).2.1); rintro e w25 ⟨v864, rfl, ho0, hb⟩; refine ⟨_, rfl, ?_⟩; have HO865 := Aside0.mk (Kd.R_lower (Kd.R_new' (Kd.R_new' ho0 (Kd.R_lt (kdQ HO859))) (Kd.R_lt (kdQ HO862))) (below_size (beQ HB))); replace HO859 := Aside0.mk (Kd.R_elder' (kdQ HO859) (Kd.R_base ho0) hb); replace HO862 := Aside0.mk (Kd.R_elder' (kdQ HO862) (Kd.R_base ho0) hb); replace BK854 := bb BK854 hb; replace HB := Aside0.mk (below_step (beQ HB) hb); (try clear hb); (try clear hb2); (try clear hk); (try clear hi); (try clear ho0); have hcz26_0 : w25.cell? ⟨gb854, 0, none⟩ = some (.int .i64 a0_0) := bc BK854 0; have hcz26_1 : w25.cell? ⟨gb854, 1, none⟩ = some (.slice A0_1 l0_1.length c0_1) := bc BK854 1; have hfz26_0 := blk_frozen BK854.out 0; have hfz26_1 := blk_frozen BK854.out 1) | ((with_reducible refine gate_callee (f := 17) rfl ?_); refine goesL_ (some 34) rfl rfl Tryd.func17 (by kernel_rfl) rfl #[.agg #[.int .i64 a0_0, .slice A0_1 l0_1.length c0_1]] rfl lz ?_; (with_reducible refine (laws_toAlphabet.calls k a0_0 _ _ l0_1 t867 t868 _ ?side1 ?side2 A13.out).mono ?_); (case side1 => have q_ := Aside0.mk (Kd.C_below HR0_1.out HB.out); exact cQ q_); (case side2 => exact HC0_1.out); rintro e w27 ⟨v869, rfl, ho0, hb⟩; refine ⟨_, rfl, ?_⟩; have HO870 := Aside0.mk (Kd.R_lower (Kd.R_new' (Kd.R_new' (Kd.R_new' ho0 (Kd.R_lt (kdQ HO859))) (Kd.R_lt (kdQ HO862))) (Kd.R_lt (kdQ HO865))) (below_size (beQ HB))); replace HO859 := Aside0.mk (Kd.R_elder' (kdQ HO859) (Kd.R_base ho0) hb); replace HO862 := Aside0.mk (Kd.R_elder' (kdQ HO862) (Kd.R_base ho0) hb); replace HO865 := Aside0.mk (Kd.R_elder' (kdQ HO865) (Kd.R_base ho0) hb); replace BK854 := bb BK854 hb; replace HB := Aside0.mk (below_step (beQ HB) hb); (try clear hb); (try clear hb2); (try clear hk); (try clear hi); (try clear ho0)) | ((with_reducible refine gate_dst (N := 8) rfl ?_); refine box_event ?hg (N := 8) ?hd (cs := #[.int .i64 0, .slice none 0 0]) (t := 28) ?hr ?_; (case hd => rfl); (case hg => rfl); (case hr => first | (go_simp; done) | (go_simp; rfl)); intro gb871 hg w28 hbox hb; replace HO859 := kb HO859 hb; replace HO862 := kb HO862 hb; replace HO865 := kb HO865 hb; replace HO870 := kb HO870 hb; have BK871 := Aside0.mk (hbox); have GW871 := Aside0.mk ((by rw [hg]; exact (below_size (beQ HB)) : w.heap.size ≤ gb871)); have GE871 := Aside0.mk ((by rw [hg]; exact (below_size (beQ HB)) : w.heap.size ≤ gb871)); replace HB := Aside0.mk (below_step (beQ HB) hb); have NB854_871 := Aside0.mk ((by rw [hg]; exact Nat.ne_of_lt (blk_lt (blkQ BK854)) : gb854 ≠ gb871)); have NB871_854 := Aside0.mk ((by rw [hg]; exact Nat.ne_of_gt (blk_lt (blkQ BK854)) : gb871 ≠ gb854)); replace BK854 := bb BK854 hb; clear hb hbox hg; have hnb29 := NB871_854.out; have hnc29 := NB854_871.out; have hcz30_0 : w28.cell? ⟨gb871, 0, none⟩ = some (.int .i64 0) := bc BK871 0; have hcz30_1 : w28.cell? ⟨gb871, 1, none⟩ = some (.slice none 0 0) := bc BK871 1; have hfz30_0 := blk_frozen BK871.out 0; have hfz30_1 := blk_frozen BK871.out 1; obtain ⟨Ao31, co31, eo31⟩ := Kd.R_slice HO870.out; subst eo31) | ((with_reducible refine gate_callee (f := 18) rfl ?_); refine goesL_ (some 36) rfl rfl Tryd.func18 (by kernel_rfl) rfl #[.slice A1 l1.length c1] rfl lz ?_; (with_reducible refine (laws_toInt64S.calls k _ _ l1 t872 _ ?side1 ?side2 A14.out).mono ?_); (case side1 => exact Kd.C_below HR1.out (beQ HB)); (case side2 => exact HC1.out); rintro e w32 ⟨v873, rfl, ho0, hb⟩; refine ⟨_, rfl, ?_⟩; have HO874 := Aside0.mk (Kd.R_lower (Kd.R_new' (Kd.R_new' (Kd.R_new' (Kd.R_new' ho0 (Kd.R_lt (by (with_reducible repeat (first | apply Kd.R_alloc | apply Kd.R_drewN | apply Kd.R_drew)); exact (Kd.R_mono (Kd.R_far (p := ⟨gb871, 1, none⟩) (Kd.R_far (p := ⟨gb871, 0, none⟩) (Kd.R_types HO859.out BK871.out (by decide)) (fun _ hk => hk.2) (.int .i64 t867)) (fun _ hk => hk.2) (.slice Ao31 t868.length co31)) (fun _ h_ => h_.1))))) (Kd.R_lt (by (with_reducible repeat (first | apply Kd.R_alloc | apply Kd.R_drewN | apply Kd.R_drew)); exact (Kd.R_mono (Kd.R_far (p := ⟨gb871, 1, none⟩) (Kd.R_far (p := ⟨gb871, 0, none⟩) (Kd.R_types HO862.out BK871.out (by decide)) (fun _ hk => hk.2) (.int .i64 t867)) (fun _ hk => hk.2) (.slice Ao31 t868.length co31)) (fun _ h_ => h_.1))))) (Kd.R_lt (by (with_reducible repeat (first | apply Kd.R_alloc | apply Kd.R_drewN | apply Kd.R_drew)); exact (Kd.R_mono (Kd.R_far (p := ⟨gb871, 1, none⟩) (Kd.R_far (p := ⟨gb871, 0, none⟩) (Kd.R_types HO865.out BK871.out (by decide)) (fun _ hk => hk.2) (.int .i64 t867)) (fun _ hk => hk.2) (.slice Ao31 t868.length co31)) (fun _ h_ => h_.1))))) (Kd.R_lt (by (with_reducible repeat (first | apply Kd.R_alloc | apply Kd.R_drewN | apply Kd.R_drew)); exact (Kd.R_mono (Kd.R_far (p := ⟨gb871, 1, none⟩) (Kd.R_far (p := ⟨gb871, 0, none⟩) (Kd.R_types HO870.out BK871.out (by decide)) (fun _ hk => hk.2) (.int .i64 t867)) (fun _ hk => hk.2) (.slice Ao31 t868.length co31)) (fun _ h_ => h_.1))))) (below_size (beQ HB))); replace HO859 := Aside0.mk (Kd.R_elder' (by (with_reducible repeat (first | apply Kd.R_alloc | apply Kd.R_drewN | apply Kd.R_drew)); exact (Kd.R_mono (Kd.R_far (p := ⟨gb871, 1, none⟩) (Kd.R_far (p := ⟨gb871, 0, none⟩) (Kd.R_types HO859.out BK871.out (by decide)) (fun _ hk => hk.2) (.int .i64 t867)) (fun _ hk => hk.2) (.slice Ao31 t868.length co31)) (fun _ h_ => h_.1))) (Kd.R_base ho0) hb); replace HO862 := Aside0.mk (Kd.R_elder' (by (with_reducible repeat (first | apply Kd.R_alloc | apply Kd.R_drewN | apply Kd.R_drew)); exact (Kd.R_mono (Kd.R_far (p := ⟨gb871, 1, none⟩) (Kd.R_far (p := ⟨gb871, 0, none⟩) (Kd.R_types HO862.out BK871.out (by decide)) (fun _ hk => hk.2) (.int .i64 t867)) (fun _ hk => hk.2) (.slice Ao31 t868.length co31)) (fun _ h_ => h_.1))) (Kd.R_base ho0) hb); replace HO865 := Aside0.mk (Kd.R_elder' (by (with_reducible repeat (first | apply Kd.R_alloc | apply Kd.R_drewN | apply Kd.R_drew)); exact (Kd.R_mono (Kd.R_far (p := ⟨gb871, 1, none⟩) (Kd.R_far (p := ⟨gb871, 0, none⟩) (Kd.R_types HO865.out BK871.out (by decide)) (fun _ hk => hk.2) (.int .i64 t867)) (fun _ hk => hk.2) (.slice Ao31 t868.length co31)) (fun _ h_ => h_.1))) (Kd.R_base ho0) hb); replace HO870 := Aside0.mk (Kd.R_elder' (by (with_reducible repeat (first | apply Kd.R_alloc | apply Kd.R_drewN | apply Kd.R_drew)); exact (Kd.R_mono (Kd.R_far (p := ⟨gb871, 1, none⟩) (Kd.R_far (p := ⟨gb871, 0, none⟩) (Kd.R_types HO870.out BK871.out (by decide)) (fun _ hk => hk.2) (.int .i64 t867)) (fun _ hk => hk.2) (.slice Ao31 t868.length co31)) (fun _ h_ => h_.1))) (Kd.R_base ho0) hb); replace BK854 := Aside0.mk (blk_below (blkF BK854) hb); replace BK871 := Aside0.mk (blk_below (g := gb871) (o := .cells #[.int .i64 t867, .slice Ao31 t868.length co31] 28 (0, 0)) (by (with_reducible repeat (first | refine blk_drewN ?_ _ | refine blk_drew ?_ | refine blk_alloc ?_ _)); refine blk_put (cs := #[.int .i64 t867, .slice none 0 0]) ?_ 1 _ rfl; (with_reducible repeat (first | refine blk_drewN ?_ _ | refine blk_drew ?_ | refine blk_alloc ?_ _)); refine blk_put (cs := #[.int .i64 0, .slice none 0 0]) ?_ 0 _ rfl; (with_reducible repeat (first | refine blk_drewN ?_ _ | refine blk_drew ?_ | refine blk_alloc ?_ _)); exact BK871.out) hb); replace HB := Aside0.mk (below_step (beQ HB) hb); (try clear hb); (try clear hb2); (try clear hk); (try clear hi); (try clear ho0); have hcz33_0 : w32.cell? ⟨gb871, 0, none⟩ = some (.int .i64 t867) := bc BK871 0; have hcz33_1 : w32.cell? ⟨gb871, 1, none⟩ = some (.slice Ao31 t868.length co31) := bc BK871 1; have hfz33_0 := blk_frozen BK871.out 0; have hfz33_1 := blk_frozen BK871.out 1; obtain ⟨Ao34, co34, eo34⟩ := Kd.R_slice HO874.out; subst eo34) | ((with_reducible refine gate_callee (f := 41) rfl ?_); refine goesL_ (some 40) rfl rfl Tryd.func41 (by kernel_rfl) rfl #[.agg #[.int .i64 t867, .slice Ao31 t868.length co31], .slice Ao34 t872.length co34] rfl lz ?_; (with_reducible refine (impl_ReverseOf.calls k t867 _ _ t868 (fun k_ => some k_ = (.slice Ao34 t872.length co34 : Value).ownBlock) _ _ t872 t875 t878 _ ?side1 ?side2 ?side3 ?side4 A15.out).mono ?_); (case side1 => have q_ := Aside0.mk (Kd.R_reads' HO870.out).2.2; exact cQ q_); (case side2 => exact (Kd.R_reads' HO870.out).2.1); (case side3 => exact Kd.R_V (Kd.R_tight rfl (Kd.R_types (Kd.R_types (HO874.out) BK854.out (by decide)) BK871.out (by decide)))); (case side4 => exact TabW.below HT.out (beQ HB)); rintro e w35 ⟨v876, rfl, ho0, hb⟩; refine ⟨_, rfl, ?_⟩; have HO877 := Aside0.mk (Kd.R_lower (Kd.R_new' (Kd.R_new' (Kd.R_new' (Kd.R_new' (Kd.R_new' (Kd.R_mono (ok' := fun k_ => True) ho0 (fun _ hk_ => trivial)) (Kd.R_lt (kdQ HO859))) (Kd.R_lt (kdQ HO862))) (Kd.R_lt (kdQ HO865))) (Kd.R_lt (kdQ HO870))) (Kd.R_lt (kdQ HO874))) (below_size (beQ HB))); replace HO859 := Aside0.mk (Kd.R_elder' (kdQ HO859) (Kd.R_base ho0) hb); replace HO862 := Aside0.mk (Kd.R_elder' (kdQ HO862) (Kd.R_base ho0) hb); replace HO865 := Aside0.mk (Kd.R_elder' (kdQ HO865) (Kd.R_base ho0) hb); replace HO870 := Aside0.mk (Kd.R_elder' (kdQ HO870) (Kd.R_base ho0) hb); replace HO874 := Aside0.mk (Kd.R_elder' (kdQ HO874) (Kd.R_base ho0) hb); replace BK854 := bb BK854 hb; replace BK871 := bb BK871 hb; replace HB := Aside0.mk (below_step (beQ HB) hb); (try clear hb); (try clear hb2); (try clear hk); (try clear hi); (try clear ho0)))
   (try simp only [Act.put, List.setIfInBounds_toArray, List.set_cons_zero, List.set_cons_succ])
   go_cut [51] (fun v51 wc => ∃ (kq : Nat) (x51_15 : Bool), v51 = .bool x51_15 ∧ Aside0 (laws_FnExactReverseOf.j0 kq l1 t863 t866 t872 t875 t878 x51_15 a0_0 l0_1 t867 t868 = some r) ∧ Aside0 (kq ≤ k) ∧ Aside0 (Kd.R (Kd.int .i64) 2 wc w.heap.size (fun k_ => some k_ ≠ ((.slice Ao34 t872.length co34) : Value).ownBlock ∧ some k_ ≠ (v876 : Value).ownBlock ∧ some k_ ≠ ((.slice Ao31 t868.length co31) : Value).ownBlock) v864 t863) ∧ Aside0 (Kd.R (Kd.int .i64) 2 wc w.heap.size (fun k_ => some k_ ≠ (v864 : Value).ownBlock ∧ some k_ ≠ (v876 : Value).ownBlock ∧ some k_ ≠ ((.slice Ao31 t868.length co31) : Value).ownBlock) (.slice Ao34 t872.length co34) t872) ∧ Aside0 (Kd.R (Kd.int .i64) 2 wc w.heap.size (fun k_ => some k_ ≠ (v864 : Value).ownBlock ∧ some k_ ≠ ((.slice Ao34 t872.length co34) : Value).ownBlock ∧ some k_ ≠ ((.slice Ao31 t868.length co31) : Value).ownBlock) v876 t875) ∧ Aside0 (Kd.R (Kd.int .i64) 2 wc w.heap.size (fun k_ => some k_ ≠ (v864 : Value).ownBlock ∧ some k_ ≠ ((.slice Ao34 t872.length co34) : Value).ownBlock ∧ some k_ ≠ (v876 : Value).ownBlock) (.slice Ao31 t868.length co31) t868) ∧ Aside0 (wc.heap[gb854]? = some (.cells #[.int .i64 a0_0, (.slice A0_1 l0_1.length c0_1)] 24 (0, 0))) ∧ Aside0 (wc.heap[gb871]? = some (.cells #[.int .i64 t867, (.slice Ao31 t868.length co31)] 28 (0, 0))) ∧ Aside0 (Below w.heap.size w wc))
   case first =>
    have H := HC16.out; clear HC16; replace H := Option.bind_eq_some_iff.mp H; obtain ⟨t879, A360, H⟩ := H
    replace H : (if t879 = true then (laws_FnExactReverseOf.j0 k l1 t863 t866 t872 t875 t878 (t878 != t866) a0_0 l0_1 t867 t868) else (laws_FnExactReverseOf.j0 k l1 t863 t866 t872 t875 t878 true a0_0 l0_1 t867 t868)) = some r := H
    have A36 := Aside0.mk A360; clear A360
    by_cases c37 : t879 = true
    ·subst c37
     have H1 : (laws_FnExactReverseOf.j0 k l1 t863 t866 t872 t875 t878 (t878 != t866) a0_0 l0_1 t867 t868) = some r := by rw [if_pos rfl] at H; exact H
     clear H; have H := H1; clear H1
     have H' := Aside0.mk H
     clear H; obtain ⟨Ao38, co38, eo38⟩ := Kd.R_slice HO877.out; subst eo38; obtain ⟨Ao39, co39, eo39⟩ := Kd.R_slice HO865.out; subst eo39
     go_wp2_with (first | ((with_reducible refine gate_callee (f := 21) rfl ?_); refine goesL_ (some 45) rfl rfl Tryd.func21 (by kernel_rfl) rfl #[.slice Ao38 t875.length co38, .slice Ao39 t863.length co39] rfl lz ?_; (with_reducible refine (laws_eqInt64S.calls k _ _ t875 _ _ t863 true _ ?side1 ?side2 ?side3 ?side4 A36.out).mono ?_); (case side1 => have q_ := Aside0.mk (Kd.R_reads' HO877.out).2.2; exact cQ q_); (case side2 => exact (Kd.R_reads' HO877.out).2.1); (case side3 => have q_ := Aside0.mk (Kd.R_reads' HO865.out).2.2; exact cQ q_); (case side4 => exact (Kd.R_reads' HO865.out).2.1); rintro e w' ⟨rfl, ⟨nd, rfl⟩⟩; refine ⟨_, rfl, ?_⟩))
     go_meet
     case rel => exact ⟨_, ((t878 != t866)), sz, H', ⟨by first | omega | exact Nat.le_refl _⟩, ⟨by (with_reducible repeat (first | apply Kd.R_alloc | apply Kd.R_drewN | apply Kd.R_drew)); exact Kd.R_mono HO865.out (fun _ hk => ⟨hk.1.2, ⟨hk.2, hk.1.1.2⟩⟩)⟩, ⟨by (with_reducible repeat (first | apply Kd.R_alloc | apply Kd.R_drewN | apply Kd.R_drew)); exact Kd.R_mono HO874.out (fun _ hk => ⟨hk.1.1.2, ⟨hk.2, hk.1.2⟩⟩)⟩, ⟨by (with_reducible repeat (first | apply Kd.R_alloc | apply Kd.R_drewN | apply Kd.R_drew)); exact Kd.R_mono HO877.out (fun _ hk => ⟨hk.1.1.2, ⟨hk.2, hk.1.2⟩⟩)⟩, ⟨by (with_reducible repeat (first | apply Kd.R_alloc | apply Kd.R_drewN | apply Kd.R_drew)); exact Kd.R_mono HO870.out (fun _ hk => ⟨hk.1.1.2, ⟨hk.1.2, hk.2⟩⟩)⟩, ⟨blkQ BK854⟩, ⟨blkQ BK871⟩, ⟨beQ HB⟩⟩
    ·replace c37 := Bool.eq_false_iff.mpr c37
     subst c37
     have H1 : (laws_FnExactReverseOf.j0 k l1 t863 t866 t872 t875 t878 true a0_0 l0_1 t867 t868) = some r := by rw [if_neg (show ¬ (false = true) by decide)] at H; exact H
     clear H; have H := H1; clear H1
     have H' := Aside0.mk H
     clear H; obtain ⟨Ao40, co40, eo40⟩ := Kd.R_slice HO877.out; subst eo40; obtain ⟨Ao41, co41, eo41⟩ := Kd.R_slice HO865.out; subst eo41
     go_wp2_with (first | ((with_reducible refine gate_callee (f := 21) rfl ?_); refine goesL_ (some 45) rfl rfl Tryd.func21 (by kernel_rfl) rfl #[.slice Ao40 t875.length co40, .slice Ao41 t863.length co41] rfl lz ?_; (with_reducible refine (laws_eqInt64S.calls k _ _ t875 _ _ t863 false _ ?side1 ?side2 ?side3 ?side4 A36.out).mono ?_); (case side1 => have q_ := Aside0.mk (Kd.R_reads' HO877.out).2.2; exact cQ q_); (case side2 => exact (Kd.R_reads' HO877.out).2.1); (case side3 => have q_ := Aside0.mk (Kd.R_reads' HO865.out).2.2; exact cQ q_); (case side4 => exact (Kd.R_reads' HO865.out).2.1); rintro e w' ⟨rfl, ⟨nd, rfl⟩⟩; refine ⟨_, rfl, ?_⟩))
     go_meet
     case rel => exact ⟨_, (true), sz, H', ⟨by first | omega | exact Nat.le_refl _⟩, ⟨by (with_reducible repeat (first | apply Kd.R_alloc | apply Kd.R_drewN | apply Kd.R_drew)); exact Kd.R_mono HO865.out (fun _ hk => ⟨hk.1.2, ⟨hk.2, hk.1.1.2⟩⟩)⟩, ⟨by (with_reducible repeat (first | apply Kd.R_alloc | apply Kd.R_drewN | apply Kd.R_drew)); exact Kd.R_mono HO874.out (fun _ hk => ⟨hk.1.1.2, ⟨hk.2, hk.1.2⟩⟩)⟩, ⟨by (with_reducible repeat (first | apply Kd.R_alloc | apply Kd.R_drewN | apply Kd.R_drew)); exact Kd.R_mono HO877.out (fun _ hk => ⟨hk.1.1.2, ⟨hk.2, hk.1.2⟩⟩)⟩, ⟨by (with_reducible repeat (first | apply Kd.R_alloc | apply Kd.R_drewN | apply Kd.R_drew)); exact Kd.R_mono HO870.out (fun _ hk => ⟨hk.1.1.2, ⟨hk.1.2, hk.2⟩⟩)⟩, ⟨blkQ BK854⟩, ⟨blkQ BK871⟩, ⟨beQ HB⟩⟩
   case rest =>
    clear HC16
    try clear c1
    try clear c2
    try clear p2
    try clear c3
    try clear c3b0
    try clear c3b1
    try clear c4
    try clear c6
    try clear c6b0
    try clear c10
    try clear c15
    try clear c17
    try clear c18
    try clear c21
    try clear c29
    try clear c37
    try clear c40
    try clear c41
    try clear hcz18_0
    try clear hcz18_1
    try clear hcz20_0
    try clear hcz20_1
    try clear hcz26_0
    try clear hcz26_1
    try clear hcz30_0
    try clear hcz30_1
    try clear hcz33_0
    try clear hcz33_1
    try clear hcz8_0
    try clear hcz8_1
    try clear hfz18_0
    try clear hfz18_1
    try clear hfz20_0
    try clear hfz20_1
    try clear hfz26_0
    try clear hfz26_1
    try clear hfz30_0
    try clear hfz30_1
    try clear hfz33_0
    try clear hfz33_1
    try clear hfz8_0
    try clear hfz8_1
    obtain ⟨kq, x51_15, rfl, HA, HJ15, HO_6, HO_9, HO_10, HO_872001, BK854, BK871, HB⟩ := hcut
    cases kq with
    | zero => exact absurd HA.out (by simp [laws_FnExactReverseOf.j0])
    | succ kj15 =>
     have H := HA.out; clear HA
     simp only [laws_FnExactReverseOf.j0] at H
     by_cases c42 : x51_15 = true
     ·subst c42
      have H1 : (some false) = some r := by rw [if_pos rfl] at H; exact H
      clear H; have H := H1; clear H1
      obtain rfl := Option.some.inj H
      go_wp2
      go_ret
      exact ⟨rz, beQ HB⟩
     ·replace c42 := Bool.eq_false_iff.mpr c42
      subst c42
      have H1 : ((laws_toAlphabet.f kj15 a0_0 l0_1).bind fun bt880 => ((laws_eqAlphabet.f kj15 t867 t868 bt880.1 bt880.2).bind fun t884 => (if t884 = true then ((laws_toInt64S.f kj15 l1).bind fun t885 => ((laws_eqInt64S.f kj15 t872 t885).bind fun t888 => (if t888 = true then ((laws_markAlphabet.f kj15 t867 t868 1).bind fun bt889 => ((laws_markInt64S.f kj15 t872 bt889.1).bind fun bt891 => (if bt891.1 < 0 then (laws_FnExactReverseOf.j1 kj15 l1 t863 t866 t875 true a0_0 l0_1) else ((laws_eqInt64S.f kj15 t875 t863).bind fun t893 => (if t893 = true then (laws_FnExactReverseOf.j1 kj15 l1 t863 t866 t875 (t878 != t866) a0_0 l0_1) else (laws_FnExactReverseOf.j1 kj15 l1 t863 t866 t875 true a0_0 l0_1)))))) else (some false)))) else (some false)))) = some r := by rw [if_neg (show ¬ (false = true) by decide)] at H; exact H
      clear H; have H := H1; clear H1; replace H := Option.bind_eq_some_iff.mp H
      obtain ⟨⟨t880, t881⟩, A430, H⟩ := H
      replace H : ((laws_eqAlphabet.f kj15 t867 t868 t880 t881).bind fun t884 => (if t884 = true then ((laws_toInt64S.f kj15 l1).bind fun t885 => ((laws_eqInt64S.f kj15 t872 t885).bind fun t888 => (if t888 = true then ((laws_markAlphabet.f kj15 t867 t868 1).bind fun bt889 => ((laws_markInt64S.f kj15 t872 bt889.1).bind fun bt891 => (if bt891.1 < 0 then (laws_FnExactReverseOf.j1 kj15 l1 t863 t866 t875 true a0_0 l0_1) else ((laws_eqInt64S.f kj15 t875 t863).bind fun t893 => (if t893 = true then (laws_FnExactReverseOf.j1 kj15 l1 t863 t866 t875 (t878 != t866) a0_0 l0_1) else (laws_FnExactReverseOf.j1 kj15 l1 t863 t866 t875 true a0_0 l0_1)))))) else (some false)))) else (some false))) = some r := H
      have A43 := Aside0.mk A430; clear A430; replace H := Option.bind_eq_some_iff.mp H; obtain ⟨t884, A440, H⟩ := H
      replace H : (if t884 = true then ((laws_toInt64S.f kj15 l1).bind fun t885 => ((laws_eqInt64S.f kj15 t872 t885).bind fun t888 => (if t888 = true then ((laws_markAlphabet.f kj15 t867 t868 1).bind fun bt889 => ((laws_markInt64S.f kj15 t872 bt889.1).bind fun bt891 => (if bt891.1 < 0 then (laws_FnExactReverseOf.j1 kj15 l1 t863 t866 t875 true a0_0 l0_1) else ((laws_eqInt64S.f kj15 t875 t863).bind fun t893 => (if t893 = true then (laws_FnExactReverseOf.j1 kj15 l1 t863 t866 t875 (t878 != t866) a0_0 l0_1) else (laws_FnExactReverseOf.j1 kj15 l1 t863 t866 t875 true a0_0 l0_1)))))) else (some false)))) else (some false)) = some r := H
      have A44 := Aside0.mk A440; clear A440
      by_cases c45 : t884 = true
      ·subst c45
       have H1 : ((laws_toInt64S.f kj15 l1).bind fun t885 => ((laws_eqInt64S.f kj15 t872 t885).bind fun t888 => (if t888 = true then ((laws_markAlphabet.f kj15 t867 t868 1).bind fun bt889 => ((laws_markInt64S.f kj15 t872 bt889.1).bind fun bt891 => (if bt891.1 < 0 then (laws_FnExactReverseOf.j1 kj15 l1 t863 t866 t875 true a0_0 l0_1) else ((laws_eqInt64S.f kj15 t875 t863).bind fun t893 => (if t893 = true then (laws_FnExactReverseOf.j1 kj15 l1 t863 t866 t875 (t878 != t866) a0_0 l0_1) else (laws_FnExactReverseOf.j1 kj15 l1 t863 t866 t875 true a0_0 l0_1)))))) else (some false)))) = some r := by rw [if_pos rfl] at H; exact H
       clear H; have H := H1; clear H1; replace H := Option.bind_eq_some_iff.mp H; obtain ⟨t885, A460, H⟩ := H
       replace H : ((laws_eqInt64S.f kj15 t872 t885).bind fun t888 => (if t888 = true then ((laws_markAlphabet.f kj15 t867 t868 1).bind fun bt889 => ((laws_markInt64S.f kj15 t872 bt889.1).bind fun bt891 => (if bt891.1 < 0 then (laws_FnExactReverseOf.j1 kj15 l1 t863 t866 t875 true a0_0 l0_1) else ((laws_eqInt64S.f kj15 t875 t863).bind fun t893 => (if t893 = true then (laws_FnExactReverseOf.j1 kj15 l1 t863 t866 t875 (t878 != t866) a0_0 l0_1) else (laws_FnExactReverseOf.j1 kj15 l1 t863 t866 t875 true a0_0 l0_1)))))) else (some false))) = some r := H
       have A46 := Aside0.mk A460; clear A460; replace H := Option.bind_eq_some_iff.mp H; obtain ⟨t888, A470, H⟩ := H
       replace H : (if t888 = true then ((laws_markAlphabet.f kj15 t867 t868 1).bind fun bt889 => ((laws_markInt64S.f kj15 t872 bt889.1).bind fun bt891 => (if bt891.1 < 0 then (laws_FnExactReverseOf.j1 kj15 l1 t863 t866 t875 true a0_0 l0_1) else ((laws_eqInt64S.f kj15 t875 t863).bind fun t893 => (if t893 = true then (laws_FnExactReverseOf.j1 kj15 l1 t863 t866 t875 (t878 != t866) a0_0 l0_1) else (laws_FnExactReverseOf.j1 kj15 l1 t863 t866 t875 true a0_0 l0_1)))))) else (some false)) = some r := H
       have A47 := Aside0.mk A470; clear A470
       by_cases c48 : t888 = true
       ·subst c48
        have H1 : ((laws_markAlphabet.f kj15 t867 t868 1).bind fun bt889 => ((laws_markInt64S.f kj15 t872 bt889.1).bind fun bt891 => (if bt891.1 < 0 then (laws_FnExactReverseOf.j1 kj15 l1 t863 t866 t875 true a0_0 l0_1) else ((laws_eqInt64S.f kj15 t875 t863).bind fun t893 => (if t893 = true then (laws_FnExactReverseOf.j1 kj15 l1 t863 t866 t875 (t878 != t866) a0_0 l0_1) else (laws_FnExactReverseOf.j1 kj15 l1 t863 t866 t875 true a0_0 l0_1)))))) = some r := by rw [if_pos rfl] at H; exact H
        clear H; have H := H1; clear H1; replace H := Option.bind_eq_some_iff.mp H
        obtain ⟨⟨t889, t890⟩, A490, H⟩ := H
        replace H : ((laws_markInt64S.f kj15 t872 t889).bind fun bt891 => (if bt891.1 < 0 then (laws_FnExactReverseOf.j1 kj15 l1 t863 t866 t875 true a0_0 l0_1) else ((laws_eqInt64S.f kj15 t875 t863).bind fun t893 => (if t893 = true then (laws_FnExactReverseOf.j1 kj15 l1 t863 t866 t875 (t878 != t866) a0_0 l0_1) else (laws_FnExactReverseOf.j1 kj15 l1 t863 t866 t875 true a0_0 l0_1))))) = some r := H
        have A49 := Aside0.mk A490; clear A490; replace H := Option.bind_eq_some_iff.mp H
        obtain ⟨⟨t891, t892⟩, A500, H⟩ := H
        replace H : (if t891 < 0 then (laws_FnExactReverseOf.j1 kj15 l1 t863 t866 t875 true a0_0 l0_1) else ((laws_eqInt64S.f kj15 t875 t863).bind fun t893 => (if t893 = true then (laws_FnExactReverseOf.j1 kj15 l1 t863 t866 t875 (t878 != t866) a0_0 l0_1) else (laws_FnExactReverseOf.j1 kj15 l1 t863 t866 t875 true a0_0 l0_1)))) = some r := H
        have A50 := Aside0.mk A500; clear A500; have HC51 := Aside0.mk H; clear H
        try go_wp2
        replace HO_6 := Aside0.mk (Kd.R_drew HO_6.out); replace HO_9 := Aside0.mk (Kd.R_drew HO_9.out); replace HO_10 := Aside0.mk (Kd.R_drew HO_10.out); replace HO_872001 := Aside0.mk (Kd.R_drew HO_872001.out); replace BK854 := Aside0.mk (blk_drew BK854.out); replace BK871 := Aside0.mk (blk_drew BK871.out); replace HB := Aside0.mk (below_drew1 HB.out)
        refine start_ (n := 5) (S := fun w' => w'.cell? ⟨gb871, 0, none⟩ = some (.int .i64 t867) ∧ w'.cell? ⟨gb871, 1, none⟩ = some (.slice Ao31 t868.length co31) ∧ w'.cell? ⟨gb854, 0, none⟩ = some (.int .i64 a0_0) ∧ w'.cell? ⟨gb854, 1, none⟩ = some (.slice A0_1 l0_1.length c0_1)) (ds := []) #[false, false, false, false, false] (by kernel_rfl) rfl rfl ⟨bc BK871 0, bc BK871 1, bc BK854 0, bc BK854 1⟩ (fun hHeld => ?_)
        generalize wc.drew = w52 at HO_6 HO_9 HO_10 HO_872001 BK854 BK871 HB hHeld ⊢
        refine take_ (i := 0) (N := some 52) (v := ?_) (a' := ?_) #[true, false, false, false, false] rfl rfl (by kernel_rfl) (fun _ _ _ h => h) (Or.inl ⟨by rfl, ?_⟩) hHeld ?_ ?_
        rotate_left
        ·rintro w' ⟨s0, s1, s2, s3⟩
         go_simp
         with_reducible rfl
        rotate_left
        ·simp only [Act.put, s1, s2, s3, i64_w, i32_w]
         rfl
        refine take_ (i := 1) (N := some 53) (v := ?_) (a' := ?_) #[true, true, false, false, false] rfl rfl (by kernel_rfl) (fun _ _ _ h => h) (Or.inl ⟨by rfl, ?_⟩) hHeld ?_ ?_
        rotate_left
        ·rintro w' ⟨s0, s1, s2, s3⟩
         go_simp
         with_reducible rfl
        rotate_left
        ·simp only [Act.put, s1, s2, s3, i64_w, i32_w]
         rfl
        refine one_ (i := 2) (N := some 54) #[true, true, true, false, false] rfl rfl (by kernel_rfl) (by decide) (fun K hK => ?_)
        refine goes_ Tryd.func17 (by kernel_rfl) rfl #[.agg #[.int .i64 a0_0, .slice A0_1 l0_1.length c0_1]] (by rfl) rfl rfl lz ?_
        with_reducible refine (laws_toAlphabet.calls kj15 a0_0 _ _ l0_1 t880 t881 _ ?side1 ?side2 A43.out).mono ?_
        (case side1 => have q_ := Aside0.mk (Kd.C_below HR0_1.out HB.out); exact cQ q_)
        (case side2 => exact HC0_1.out)
        rintro e w53 ⟨v882, rfl, ho0, hb⟩
        refine ⟨_, rfl, ?_⟩
        have HO883 := Aside0.mk (Kd.R_lower (Kd.R_new' (Kd.R_new' (Kd.R_new' (Kd.R_new' ho0 (Kd.R_lt (kdQ HO_6))) (Kd.R_lt (kdQ HO_9))) (Kd.R_lt (kdQ HO_10))) (Kd.R_lt (kdQ HO_872001))) (below_size (beQ HB))); replace HO_6 := Aside0.mk (Kd.R_elder' (kdQ HO_6) (Kd.R_base ho0) hb); replace HO_9 := Aside0.mk (Kd.R_elder' (kdQ HO_9) (Kd.R_base ho0) hb); replace HO_10 := Aside0.mk (Kd.R_elder' (kdQ HO_10) (Kd.R_base ho0) hb); replace HO_872001 := Aside0.mk (Kd.R_elder' (kdQ HO_872001) (Kd.R_base ho0) hb); replace BK854 := bb BK854 hb; replace BK871 := bb BK871 hb; replace HB := Aside0.mk (below_step (beQ HB) hb)
        (try clear hb)
        (try clear hb2)
        (try clear hk)
        (try clear hi)
        (try clear ho0)
        obtain ⟨Ao54, co54, eo54⟩ := Kd.R_slice HO883.out
        (first | subst eo54 | (injection eo54 with f1_ f2_ f3_; have f4_ := f1_.symm; have f5_ := f3_.symm; clear f1_ f2_ f3_; subst f4_; subst f5_))
        refine hK.out _ _ ⟨bc BK871 0, bc BK871 1, bc BK854 0, bc BK854 1⟩ (fun hHeld => ?_)
        clear hK K
        refine norm_ (a' := ?_) ?_ ?_
        rotate_left
        ·show Act.put _ (some 54) _ = _
         simp only [Act.put, s1, s2, s3, i64_w, i32_w]
         rfl
        refine one_ (i := 3) (N := some 55) #[true, true, true, true, false] rfl rfl (by kernel_rfl) (by decide) (fun K hK => ?_)
        refine goes_ Tryd.func20 (by kernel_rfl) rfl #[.agg #[.int .i64 t867, .slice Ao31 t868.length co31], .agg #[.int .i64 t880, .slice Ao54 t881.length co54]] (by rfl) rfl rfl lz ?_
        with_reducible refine (laws_eqAlphabet.calls kj15 t867 _ _ t868 t880 _ _ t881 true _ ?side1 ?side2 ?side3 ?side4 A44.out).mono ?_
        (case side1 => have q_ := Aside0.mk (Kd.R_reads' HO_872001.out).2.2; exact cQ q_)
        (case side2 => exact (Kd.R_reads' HO_872001.out).2.1)
        (case side3 => have q_ := Aside0.mk (Kd.R_reads' HO883.out).2.2; exact cQ q_)
        (case side4 => exact (Kd.R_reads' HO883.out).2.1)
        rintro e w55 ⟨rfl, hb⟩
        refine ⟨_, rfl, ?_⟩
        replace HO_6 := kb HO_6 hb; replace HO_9 := kb HO_9 hb; replace HO_10 := kb HO_10 hb; replace HO_872001 := kb HO_872001 hb; replace HO883 := kb HO883 hb; replace BK854 := bb BK854 hb; replace BK871 := bb BK871 hb; replace HB := Aside0.mk (below_step (beQ HB) hb)
        (try clear hb)
        (try clear hb2)
        (try clear hk)
        (try clear hi)
        refine hK.out _ _ ⟨bc BK871 0, bc BK871 1, bc BK854 0, bc BK854 1⟩ (fun hHeld => ?_)
        clear hK K
        refine norm_ (a' := ?_) ?_ ?_
        rotate_left
        ·show Act.put _ (some 55) _ = _
         simp only [Act.put, s1, s2, s3, i64_w, i32_w]
         rfl
        refine pure_ (i := 4) (N := some 56) (v := ?_) (a' := ?_) #[true, true, true, true, true] rfl rfl (by kernel_rfl) (fun _ _ _ h => h) (Or.inl ⟨by rfl, ?_⟩) ?_ ?_
        rotate_left
        ·intro w'
         go_simp
         with_reducible rfl
        rotate_left
        ·simp only [Act.put, s1, s2, s3, i64_w, i32_w]
         rfl
        refine done_ (by kernel_rfl) ?_
        go_upto_region 20 with (first | ((with_reducible refine gate_callee (f := 18) rfl ?_); refine goesL_ (some 59) rfl rfl Tryd.func18 (by kernel_rfl) rfl #[.slice A1 l1.length c1] rfl lz ?_; (with_reducible refine (laws_toInt64S.calls kj15 _ _ l1 t885 _ ?side1 ?side2 A46.out).mono ?_); (case side1 => have q_ := Aside0.mk (Kd.C_below HR1.out HB.out); exact cQ q_); (case side2 => exact HC1.out); rintro e w56 ⟨v886, rfl, ho0, hb⟩; refine ⟨_, rfl, ?_⟩; have HO887 := Aside0.mk (Kd.R_lower (Kd.R_new' (Kd.R_new' (Kd.R_new' (Kd.R_new' (Kd.R_new' ho0 (Kd.R_lt (kdQ HO_6))) (Kd.R_lt (kdQ HO_9))) (Kd.R_lt (kdQ HO_10))) (Kd.R_lt (kdQ HO_872001))) (Kd.R_lt (kdQ HO883))) (below_size (beQ HB))); replace HO_6 := Aside0.mk (Kd.R_elder' (kdQ HO_6) (Kd.R_base ho0) hb); replace HO_9 := Aside0.mk (Kd.R_elder' (kdQ HO_9) (Kd.R_base ho0) hb); replace HO_10 := Aside0.mk (Kd.R_elder' (kdQ HO_10) (Kd.R_base ho0) hb); replace HO_872001 := Aside0.mk (Kd.R_elder' (kdQ HO_872001) (Kd.R_base ho0) hb); replace HO883 := Aside0.mk (Kd.R_elder' (kdQ HO883) (Kd.R_base ho0) hb); replace BK854 := bb BK854 hb; replace BK871 := bb BK871 hb; replace HB := Aside0.mk (below_step (beQ HB) hb); (try clear hb); (try clear hb2); (try clear hk); (try clear hi); (try clear ho0); obtain ⟨Ao57, co57, eo57⟩ := Kd.R_slice HO887.out; subst eo57) | ((with_reducible refine gate_callee (f := 21) rfl ?_); refine goesL_ (some 60) rfl rfl Tryd.func21 (by kernel_rfl) rfl #[.slice Ao34 t872.length co34, .slice Ao57 t885.length co57] rfl lz ?_; (with_reducible refine (laws_eqInt64S.calls kj15 _ _ t872 _ _ t885 true _ ?side1 ?side2 ?side3 ?side4 A47.out).mono ?_); (case side1 => have q_ := Aside0.mk (Kd.R_reads' HO_9.out).2.2; exact cQ q_); (case side2 => exact (Kd.R_reads' HO_9.out).2.1); (case side3 => have q_ := Aside0.mk (Kd.R_reads' HO887.out).2.2; exact cQ q_); (case side4 => exact (Kd.R_reads' HO887.out).2.1); rintro e w' ⟨rfl, ⟨nd, rfl⟩⟩; refine ⟨_, rfl, ?_⟩; have hnb58 := NB871_854.out; have hnc58 := NB854_871.out; have hcz59_0 : w56.cell? ⟨gb871, 0, none⟩ = some (.int .i64 t867) := bc BK871 0; have hcz59_1 : w56.cell? ⟨gb871, 1, none⟩ = some (.slice Ao31 t868.length co31) := bc BK871 1; have hfz59_0 := blk_frozen BK871.out 0; have hfz59_1 := blk_frozen BK871.out 1) | ((with_reducible refine gate_callee (f := 24) rfl ?_); refine goesL_ (some 64) rfl rfl Tryd.func24 (by kernel_rfl) rfl #[.agg #[.int .i64 t867, .slice Ao31 t868.length co31], .int .i64 1] rfl lz ?_; (with_reducible refine (laws_markAlphabet.calls kj15 t867 (fun k_ => some k_ = (.slice Ao31 t868.length co31 : Value).ownBlock) (.slice Ao31 t868.length co31) t868 1 t889 t890 w _ ?side1 ?side2 A49.out).mono ?_); (case side1 => repeat (first | (with_reducible first | exact HB.out | apply below_alloc | apply pw_below_drewN | apply below_drew1 | refine below_set ?_ GE854.out | refine below_set ?_ GE871.out) | exact HB.out)); (case side2 => exact Kd.R_tight rfl HO_872001.out); rintro e w60 ⟨rfl, hy0, hb, hkp⟩; refine ⟨_, rfl, ?_⟩; replace HO_6 := Aside0.mk (Kd.R_mono (ok' := fun k_ => some k_ ≠ (.slice Ao34 t872.length co34 : Value).ownBlock ∧ some k_ ≠ (v876 : Value).ownBlock ∧ some k_ ≠ (.slice Ao31 t868.length co31 : Value).ownBlock ∧ some k_ ≠ (.slice Ao54 t881.length co54 : Value).ownBlock ∧ some k_ ≠ (.slice Ao57 t885.length co57 : Value).ownBlock) (Kd.R_keptB (HO_6.out) hkp (fun k_ hk_ hs_ => (hk_.1.1.2.2) hs_)) (fun k_ hk_ => ⟨hk_.1.1.1.1, hk_.1.1.1.2.1, hk_.1.1.1.2.2, hk_.1.1.2, hk_.1.2⟩)); replace HO_9 := Aside0.mk (Kd.R_mono (ok' := fun k_ => some k_ ≠ (v864 : Value).ownBlock ∧ some k_ ≠ (v876 : Value).ownBlock ∧ some k_ ≠ (.slice Ao31 t868.length co31 : Value).ownBlock ∧ some k_ ≠ (.slice Ao54 t881.length co54 : Value).ownBlock ∧ some k_ ≠ (.slice Ao57 t885.length co57 : Value).ownBlock) (Kd.R_keptB (HO_9.out) hkp (fun k_ hk_ hs_ => (hk_.1.1.2.2) hs_)) (fun k_ hk_ => ⟨hk_.1.1.1.1, hk_.1.1.1.2.1, hk_.1.1.1.2.2, hk_.1.1.2, hk_.1.2⟩)); replace HO_10 := Aside0.mk (Kd.R_mono (ok' := fun k_ => some k_ ≠ (v864 : Value).ownBlock ∧ some k_ ≠ (.slice Ao34 t872.length co34 : Value).ownBlock ∧ some k_ ≠ (.slice Ao31 t868.length co31 : Value).ownBlock ∧ some k_ ≠ (.slice Ao54 t881.length co54 : Value).ownBlock ∧ some k_ ≠ (.slice Ao57 t885.length co57 : Value).ownBlock) (Kd.R_keptB (HO_10.out) hkp (fun k_ hk_ hs_ => (hk_.1.1.2.2) hs_)) (fun k_ hk_ => ⟨hk_.1.1.1.1, hk_.1.1.1.2.1, hk_.1.1.1.2.2, hk_.1.1.2, hk_.1.2⟩)); replace BK854 := Aside0.mk (blk_kept (blkQ BK854) hkp (fun hs_ => (fun e_ => (Kd.R_ne HO_872001.out BK854.out (by decide)) e_) hs_)); replace BK871 := Aside0.mk (blk_kept (blkQ BK871) hkp (fun hs_ => (fun e_ => (Kd.R_ne HO_872001.out BK871.out (by decide)) e_) hs_)); replace HO_872001 := Aside0.mk (Kd.R_reok rfl hy0 (fun k_ e_ => HO_872001.out.1 k_ e_)); replace HO883 := Aside0.mk (Kd.R_mono (ok' := fun k_ => some k_ ≠ (v864 : Value).ownBlock ∧ some k_ ≠ (.slice Ao34 t872.length co34 : Value).ownBlock ∧ some k_ ≠ (v876 : Value).ownBlock ∧ some k_ ≠ (.slice Ao31 t868.length co31 : Value).ownBlock ∧ some k_ ≠ (.slice Ao57 t885.length co57 : Value).ownBlock) (Kd.R_keptB (HO883.out) hkp (fun k_ hk_ hs_ => (hk_.1.2) hs_)) (fun k_ hk_ => ⟨hk_.1.1.1.1.1.2, hk_.1.1.1.1.2, hk_.1.1.1.2, hk_.1.1.2, hk_.1.2⟩)); replace HO887 := Aside0.mk (Kd.R_mono (ok' := fun k_ => some k_ ≠ (v864 : Value).ownBlock ∧ some k_ ≠ (.slice Ao34 t872.length co34 : Value).ownBlock ∧ some k_ ≠ (v876 : Value).ownBlock ∧ some k_ ≠ (.slice Ao31 t868.length co31 : Value).ownBlock ∧ some k_ ≠ (.slice Ao54 t881.length co54 : Value).ownBlock) (Kd.R_keptB (HO887.out) hkp (fun k_ hk_ hs_ => (hk_.1.2) hs_)) (fun k_ hk_ => ⟨hk_.1.1.1.1.1.2, hk_.1.1.1.1.2, hk_.1.1.1.2, hk_.1.1.2, hk_.1.2⟩)); replace HB := Aside0.mk (hb); (try clear hb); (try clear hkp); (try clear hy0)) | ((with_reducible refine gate_callee (f := 25) rfl ?_); refine goesL_ (some 67) rfl rfl Tryd.func25 (by kernel_rfl) rfl #[.slice Ao34 t872.length co34, .int .i64 t889] rfl lz ?_; (with_reducible refine (laws_markInt64S.calls kj15 (fun k_ => some k_ = (.slice Ao34 t872.length co34 : Value).ownBlock) (.slice Ao34 t872.length co34) t872 t889 t891 t892 w _ ?side1 ?side2 A50.out).mono ?_); (case side1 => repeat (first | (with_reducible first | exact HB.out | apply below_alloc | apply pw_below_drewN | apply below_drew1 | refine below_set ?_ GE854.out | refine below_set ?_ GE871.out) | exact HB.out)); (case side2 => exact Kd.R_tight rfl HO_9.out); rintro e w61 ⟨rfl, hy0, hb, hkp⟩; refine ⟨_, rfl, ?_⟩; replace HO_6 := Aside0.mk (Kd.R_mono (ok' := fun k_ => some k_ ≠ (.slice Ao34 t872.length co34 : Value).ownBlock ∧ some k_ ≠ (v876 : Value).ownBlock ∧ some k_ ≠ (.slice Ao31 t868.length co31 : Value).ownBlock ∧ some k_ ≠ (.slice Ao54 t881.length co54 : Value).ownBlock ∧ some k_ ≠ (.slice Ao57 t885.length co57 : Value).ownBlock) (Kd.R_keptB (HO_6.out) hkp (fun k_ hk_ hs_ => (hk_.1) hs_)) (fun k_ hk_ => ⟨hk_.1.1, hk_.1.2.1, hk_.1.2.2.1, hk_.1.2.2.2.1, hk_.1.2.2.2.2⟩)); replace HO_10 := Aside0.mk (Kd.R_mono (ok' := fun k_ => some k_ ≠ (v864 : Value).ownBlock ∧ some k_ ≠ (.slice Ao34 t872.length co34 : Value).ownBlock ∧ some k_ ≠ (.slice Ao31 t868.length co31 : Value).ownBlock ∧ some k_ ≠ (.slice Ao54 t881.length co54 : Value).ownBlock ∧ some k_ ≠ (.slice Ao57 t885.length co57 : Value).ownBlock) (Kd.R_keptB (HO_10.out) hkp (fun k_ hk_ hs_ => (hk_.2.1) hs_)) (fun k_ hk_ => ⟨hk_.1.1, hk_.1.2.1, hk_.1.2.2.1, hk_.1.2.2.2.1, hk_.1.2.2.2.2⟩)); replace HO_872001 := Aside0.mk (Kd.R_mono (ok' := fun k_ => some k_ ≠ (v864 : Value).ownBlock ∧ some k_ ≠ (.slice Ao34 t872.length co34 : Value).ownBlock ∧ some k_ ≠ (v876 : Value).ownBlock ∧ some k_ ≠ (.slice Ao54 t881.length co54 : Value).ownBlock ∧ some k_ ≠ (.slice Ao57 t885.length co57 : Value).ownBlock) (Kd.R_keptB (HO_872001.out) hkp (fun k_ hk_ hs_ => (hk_.1.1.2.1) hs_)) (fun k_ hk_ => ⟨hk_.1.1.1.1, hk_.1.1.1.2.1, hk_.1.1.1.2.2, hk_.1.1.2, hk_.1.2⟩)); replace BK854 := Aside0.mk (blk_kept (blkQ BK854) hkp (fun hs_ => (fun e_ => (Kd.R_ne HO_9.out BK854.out (by decide)) e_) hs_)); replace BK871 := Aside0.mk (blk_kept (blkQ BK871) hkp (fun hs_ => (fun e_ => (Kd.R_ne HO_9.out BK871.out (by decide)) e_) hs_)); replace HO_9 := Aside0.mk (Kd.R_reok rfl hy0 (fun k_ e_ => HO_9.out.1 k_ e_)); replace HO883 := Aside0.mk (Kd.R_mono (ok' := fun k_ => some k_ ≠ (v864 : Value).ownBlock ∧ some k_ ≠ (.slice Ao34 t872.length co34 : Value).ownBlock ∧ some k_ ≠ (v876 : Value).ownBlock ∧ some k_ ≠ (.slice Ao31 t868.length co31 : Value).ownBlock ∧ some k_ ≠ (.slice Ao57 t885.length co57 : Value).ownBlock) (Kd.R_keptB (HO883.out) hkp (fun k_ hk_ hs_ => (hk_.2.1) hs_)) (fun k_ hk_ => ⟨hk_.1.1, hk_.1.2.1, hk_.1.2.2.1, hk_.1.2.2.2.1, hk_.1.2.2.2.2⟩)); replace HO887 := Aside0.mk (Kd.R_mono (ok' := fun k_ => some k_ ≠ (v864 : Value).ownBlock ∧ some k_ ≠ (.slice Ao34 t872.length co34 : Value).ownBlock ∧ some k_ ≠ (v876 : Value).ownBlock ∧ some k_ ≠ (.slice Ao31 t868.length co31 : Value).ownBlock ∧ some k_ ≠ (.slice Ao54 t881.length co54 : Value).ownBlock) (Kd.R_keptB (HO887.out) hkp (fun k_ hk_ hs_ => (hk_.2.1) hs_)) (fun k_ hk_ => ⟨hk_.1.1, hk_.1.2.1, hk_.1.2.2.1, hk_.1.2.2.2.1, hk_.1.2.2.2.2⟩)); replace HB := Aside0.mk (hb); (try clear hb); (try clear hkp); (try clear hy0)))
        (try simp only [Act.put, List.setIfInBounds_toArray, List.set_cons_zero, List.set_cons_succ])
        go_cut [80] (fun v80 wc => ∃ (kq : Nat) (x80_50 : Bool), v80 = .bool x80_50 ∧ Aside0 (laws_FnExactReverseOf.j1 kq l1 t863 t866 t875 x80_50 a0_0 l0_1 = some r) ∧ Aside0 (kq ≤ kj15) ∧ Aside0 (Kd.R (Kd.int .i64) 2 wc w.heap.size (fun k_ => some k_ ≠ (v876 : Value).ownBlock ∧ some k_ ≠ ((.slice Ao31 t868.length co31) : Value).ownBlock) v864 t863) ∧ Aside0 (Kd.R (Kd.int .i64) 2 wc w.heap.size (fun k_ => some k_ ≠ (v864 : Value).ownBlock ∧ some k_ ≠ ((.slice Ao31 t868.length co31) : Value).ownBlock) v876 t875) ∧ Aside0 (Kd.R (Kd.int .i64) 2 wc w.heap.size (fun k_ => some k_ ≠ (v864 : Value).ownBlock ∧ some k_ ≠ (v876 : Value).ownBlock) (.slice Ao31 t868.length co31) t890) ∧ Aside0 (wc.heap[gb854]? = some (.cells #[.int .i64 a0_0, (.slice A0_1 l0_1.length c0_1)] 24 (0, 0))) ∧ Aside0 (wc.heap[gb871]? = some (.cells #[.int .i64 t867, (.slice Ao31 t868.length co31)] 28 (0, 0))) ∧ Aside0 (Below w.heap.size w wc))
        case first =>
         have H := HC51.out; clear HC51
         by_cases c62 : t891 < 0
         ·rw [if_pos c62] at H
          have c62b0 : decide (t891 < 0) = true := decide_eq_true c62
          clear c62
          (first | rw [c62b0] | (simp only [i64_w, i32_w]; rw [c62b0]) | skip)
          have H' := Aside0.mk H
          clear H
          go_wp2
          go_meet
          case rel => exact ⟨_, (true), sz, H', ⟨by have := HJ15.out; first | omega | exact Nat.le_refl _⟩, ⟨by (with_reducible repeat (first | apply Kd.R_alloc | apply Kd.R_drewN | apply Kd.R_drew)); exact Kd.R_mono HO_6.out (fun _ hk => ⟨hk.2.1, hk.2.2.1⟩)⟩, ⟨by (with_reducible repeat (first | apply Kd.R_alloc | apply Kd.R_drewN | apply Kd.R_drew)); exact Kd.R_mono HO_10.out (fun _ hk => ⟨hk.1, hk.2.2.1⟩)⟩, ⟨by (with_reducible repeat (first | apply Kd.R_alloc | apply Kd.R_drewN | apply Kd.R_drew)); exact Kd.R_mono HO_872001.out (fun _ hk => ⟨hk.1, hk.2.2.1⟩)⟩, ⟨blkQ BK854⟩, ⟨blkQ BK871⟩, ⟨beQ HB⟩⟩
         ·rw [if_neg c62] at H
          have c62b0 : decide (t891 < 0) = false := decide_eq_false c62
          clear c62
          (first | rw [c62b0] | (simp only [i64_w, i32_w]; rw [c62b0]) | skip)
          replace H := Option.bind_eq_some_iff.mp H; obtain ⟨t893, A630, H⟩ := H
          replace H : (if t893 = true then (laws_FnExactReverseOf.j1 kj15 l1 t863 t866 t875 (t878 != t866) a0_0 l0_1) else (laws_FnExactReverseOf.j1 kj15 l1 t863 t866 t875 true a0_0 l0_1)) = some r := H
          have A63 := Aside0.mk A630; clear A630
          by_cases c64 : t893 = true
          ·subst c64
           have H1 : (laws_FnExactReverseOf.j1 kj15 l1 t863 t866 t875 (t878 != t866) a0_0 l0_1) = some r := by rw [if_pos rfl] at H; exact H
           clear H; have H := H1; clear H1
           have H' := Aside0.mk H
           clear H; obtain ⟨Ao65, co65, eo65⟩ := Kd.R_slice HO_10.out; subst eo65; obtain ⟨Ao66, co66, eo66⟩ := Kd.R_slice HO_6.out; subst eo66
           go_wp2_with (first | (go_at_call 21; (with_reducible refine (laws_eqInt64S.calls kj15 _ _ t875 _ _ t863 true _ ?side1 ?side2 ?side3 ?side4 A63.out).mono ?_); (case side1 => have q_ := Aside0.mk (Kd.R_reads' HO_10.out).2.2; exact cQ q_); (case side2 => exact (Kd.R_reads' HO_10.out).2.1); (case side3 => have q_ := Aside0.mk (Kd.R_reads' HO_6.out).2.2; exact cQ q_); (case side4 => exact (Kd.R_reads' HO_6.out).2.1); rintro e w' ⟨rfl, ⟨nd, rfl⟩⟩))
           go_meet
           case rel => exact ⟨_, ((t878 != t866)), sz, H', ⟨by have := HJ15.out; first | omega | exact Nat.le_refl _⟩, ⟨by (with_reducible repeat (first | apply Kd.R_alloc | apply Kd.R_drewN | apply Kd.R_drew)); exact Kd.R_mono HO_6.out (fun _ hk => ⟨hk.2.1, hk.2.2.1⟩)⟩, ⟨by (with_reducible repeat (first | apply Kd.R_alloc | apply Kd.R_drewN | apply Kd.R_drew)); exact Kd.R_mono HO_10.out (fun _ hk => ⟨hk.1, hk.2.2.1⟩)⟩, ⟨by (with_reducible repeat (first | apply Kd.R_alloc | apply Kd.R_drewN | apply Kd.R_drew)); exact Kd.R_mono HO_872001.out (fun _ hk => ⟨hk.1, hk.2.2.1⟩)⟩, ⟨blkQ BK854⟩, ⟨blkQ BK871⟩, ⟨beQ HB⟩⟩
          ·replace c64 := Bool.eq_false_iff.mpr c64
           subst c64
           have H1 : (laws_FnExactReverseOf.j1 kj15 l1 t863 t866 t875 true a0_0 l0_1) = some r := by rw [if_neg (show ¬ (false = true) by decide)] at H; exact H
           clear H; have H := H1; clear H1
           have H' := Aside0.mk H
           clear H; obtain ⟨Ao67, co67, eo67⟩ := Kd.R_slice HO_10.out; subst eo67; obtain ⟨Ao68, co68, eo68⟩ := Kd.R_slice HO_6.out; subst eo68
           go_wp2_with (first | (go_at_call 21; (with_reducible refine (laws_eqInt64S.calls kj15 _ _ t875 _ _ t863 false _ ?side1 ?side2 ?side3 ?side4 A63.out).mono ?_); (case side1 => have q_ := Aside0.mk (Kd.R_reads' HO_10.out).2.2; exact cQ q_); (case side2 => exact (Kd.R_reads' HO_10.out).2.1); (case side3 => have q_ := Aside0.mk (Kd.R_reads' HO_6.out).2.2; exact cQ q_); (case side4 => exact (Kd.R_reads' HO_6.out).2.1); rintro e w' ⟨rfl, ⟨nd, rfl⟩⟩))
           go_meet
           case rel => exact ⟨_, (true), sz, H', ⟨by have := HJ15.out; first | omega | exact Nat.le_refl _⟩, ⟨by (with_reducible repeat (first | apply Kd.R_alloc | apply Kd.R_drewN | apply Kd.R_drew)); exact Kd.R_mono HO_6.out (fun _ hk => ⟨hk.2.1, hk.2.2.1⟩)⟩, ⟨by (with_reducible repeat (first | apply Kd.R_alloc | apply Kd.R_drewN | apply Kd.R_drew)); exact Kd.R_mono HO_10.out (fun _ hk => ⟨hk.1, hk.2.2.1⟩)⟩, ⟨by (with_reducible repeat (first | apply Kd.R_alloc | apply Kd.R_drewN | apply Kd.R_drew)); exact Kd.R_mono HO_872001.out (fun _ hk => ⟨hk.1, hk.2.2.1⟩)⟩, ⟨blkQ BK854⟩, ⟨blkQ BK871⟩, ⟨beQ HB⟩⟩
        case rest =>
         clear HC51
         try clear c1
         try clear c2
         try clear p2
         try clear c3
         try clear c3b0
         try clear c3b1
         try clear c4
         try clear c5
         try clear c6
         try clear c6b0
         try clear c10
         try clear c15
         try clear c17
         try clear c18
         try clear c20
         try clear c21
         try clear c24
         try clear c25
         try clear c29
         try clear c37
         try clear c40
         try clear c41
         try clear c42
         try clear c45
         try clear c48
         try clear c58
         try clear c62
         try clear c62b0
         try clear c64
         try clear hcz18_0
         try clear hcz18_1
         try clear hcz20_0
         try clear hcz20_1
         try clear hcz26_0
         try clear hcz26_1
         try clear hcz30_0
         try clear hcz30_1
         try clear hcz33_0
         try clear hcz33_1
         try clear hcz59_0
         try clear hcz59_1
         try clear hcz8_0
         try clear hcz8_1
         try clear hfz18_0
         try clear hfz18_1
         try clear hfz20_0
         try clear hfz20_1
         try clear hfz26_0
         try clear hfz26_1
         try clear hfz30_0
         try clear hfz30_1
         try clear hfz33_0
         try clear hfz33_1
         try clear hfz59_0
         try clear hfz59_1
         try clear hfz8_0
         try clear hfz8_1
         try clear p2
         obtain ⟨kq, x80_50, rfl, HA, HJ50, HO_6, HO_10, HO_872001, BK854, BK871, HB⟩ := hcut; have hl872001_50 := (Kd.R_reads' HO_872001.out).1; rw [hl872001_50] at HO_872001
         (try simp only [hl872001_50])
         (try simp only [hl872001_50] at BK854)
         (try simp only [hl872001_50] at BK871)
         (try simp only [hl872001_50] at HO_6)
         (try simp only [hl872001_50] at HO_10)
         cases kq with
         | zero => exact absurd HA.out (by simp [laws_FnExactReverseOf.j1])
         | succ kj50 =>
          have H := HA.out; clear HA
          simp only [laws_FnExactReverseOf.j1] at H
          by_cases c69 : x80_50 = true
          ·subst c69
           have H1 : (some false) = some r := by rw [if_pos rfl] at H; exact H
           clear H; have H := H1; clear H1
           obtain rfl := Option.some.inj H
           go_wp2
           go_ret
           exact ⟨rz, beQ HB⟩
          ·replace c69 := Bool.eq_false_iff.mpr c69
           subst c69
           have H1 : ((laws_markInt64S.f kj50 t875 1).bind fun bt894 => ((laws_heldInt64S.f kj50 bt894.2 1).bind fun t896 => (if t896 < 0 then (some false) else (if t896 = bt894.1 then ((laws_toAlphabet.f kj50 a0_0 l0_1).bind fun bt897 => ((laws_toInt64S.f kj50 l1).bind fun t901 => ((impl_ReverseOf.f kj50 bt897.1 bt897.2 t901).bind fun bt904 => ((laws_eqInt64S.f kj50 bt904.1 t863).bind fun t908 => (if t908 = true then (laws_FnExactReverseOf.j2 kj50 bt894.2 bt894.1 (bt904.2 != t866)) else (laws_FnExactReverseOf.j2 kj50 bt894.2 bt894.1 true)))))) else (some false))))) = some r := by rw [if_neg (show ¬ (false = true) by decide)] at H; exact H
           clear H; have H := H1; clear H1; replace H := Option.bind_eq_some_iff.mp H
           obtain ⟨⟨t894, t895⟩, A700, H⟩ := H
           replace H : ((laws_heldInt64S.f kj50 t895 1).bind fun t896 => (if t896 < 0 then (some false) else (if t896 = t894 then ((laws_toAlphabet.f kj50 a0_0 l0_1).bind fun bt897 => ((laws_toInt64S.f kj50 l1).bind fun t901 => ((impl_ReverseOf.f kj50 bt897.1 bt897.2 t901).bind fun bt904 => ((laws_eqInt64S.f kj50 bt904.1 t863).bind fun t908 => (if t908 = true then (laws_FnExactReverseOf.j2 kj50 t895 t894 (bt904.2 != t866)) else (laws_FnExactReverseOf.j2 kj50 t895 t894 true)))))) else (some false)))) = some r := H
           have A70 := Aside0.mk A700; clear A700; replace H := Option.bind_eq_some_iff.mp H; obtain ⟨t896, A710, H⟩ := H
           replace H : (if t896 < 0 then (some false) else (if t896 = t894 then ((laws_toAlphabet.f kj50 a0_0 l0_1).bind fun bt897 => ((laws_toInt64S.f kj50 l1).bind fun t901 => ((impl_ReverseOf.f kj50 bt897.1 bt897.2 t901).bind fun bt904 => ((laws_eqInt64S.f kj50 bt904.1 t863).bind fun t908 => (if t908 = true then (laws_FnExactReverseOf.j2 kj50 t895 t894 (bt904.2 != t866)) else (laws_FnExactReverseOf.j2 kj50 t895 t894 true)))))) else (some false))) = some r := H
           have A71 := Aside0.mk A710; clear A710
           by_cases c72 : t896 < 0
           ·rw [if_pos c72] at H
            have c72b0 : decide (t896 < 0) = true := decide_eq_true c72
            clear c72
            obtain rfl := Option.some.inj H
            obtain ⟨Ao73, co73, eo73⟩ := Kd.R_slice HO_10.out; subst eo73
            go_wp2_with (first | ((with_reducible refine gate_callee (f := 25) rfl ?_); refine goesL_ (some 83) rfl rfl Tryd.func25 (by kernel_rfl) rfl #[.slice Ao73 t875.length co73, .int .i64 1] rfl lz ?_; (with_reducible refine (laws_markInt64S.calls kj50 (fun k_ => some k_ = (.slice Ao73 t875.length co73 : Value).ownBlock) (.slice Ao73 t875.length co73) t875 1 t894 t895 w _ ?side1 ?side2 A70.out).mono ?_); (case side1 => repeat (first | (with_reducible first | exact HB.out | apply below_alloc | apply pw_below_drewN | apply below_drew1 | refine below_set ?_ GE854.out | refine below_set ?_ GE871.out) | exact HB.out)); (case side2 => exact Kd.R_tight rfl HO_10.out); rintro e w74 ⟨rfl, hy0, hb, hkp⟩; refine ⟨_, rfl, ?_⟩; replace HO_6 := Aside0.mk (Kd.R_mono (ok' := fun k_ => some k_ ≠ (.slice Ao73 t875.length co73 : Value).ownBlock ∧ some k_ ≠ (.slice Ao31 t890.length co31 : Value).ownBlock) (Kd.R_keptB (HO_6.out) hkp (fun k_ hk_ hs_ => (hk_.1) hs_)) (fun k_ hk_ => ⟨hk_.1.1, hk_.1.2⟩)); replace HO_872001 := Aside0.mk (Kd.R_mono (ok' := fun k_ => some k_ ≠ (v864 : Value).ownBlock ∧ some k_ ≠ (.slice Ao73 t875.length co73 : Value).ownBlock) (Kd.R_keptB (HO_872001.out) hkp (fun k_ hk_ hs_ => (hk_.2) hs_)) (fun k_ hk_ => ⟨hk_.1.1, hk_.1.2⟩)); replace BK854 := Aside0.mk (blk_kept (blkQ BK854) hkp (fun hs_ => (fun e_ => (Kd.R_ne HO_10.out BK854.out (by decide)) e_) hs_)); replace BK871 := Aside0.mk (blk_kept (blkQ BK871) hkp (fun hs_ => (fun e_ => (Kd.R_ne HO_10.out BK871.out (by decide)) e_) hs_)); replace HO_10 := Aside0.mk (Kd.R_reok rfl hy0 (fun k_ e_ => HO_10.out.1 k_ e_)); replace HB := Aside0.mk (hb); (try clear hb); (try clear hkp); (try clear hy0)) | ((with_reducible refine gate_callee (f := 26) rfl ?_); refine goesL_ (some 86) rfl rfl Tryd.func26 (by kernel_rfl) rfl #[.slice Ao73 t895.length co73, .int .i64 1] rfl (by (try simp only [List.map_toArray, List.map_cons, List.map_nil]); first | done | (rw [show t895.length = t875.length from (Kd.R_reads' HO_10.out).1.symm] <;> rfl) | rfl | (simp only [List.length_drop, List.length_take]; rfl)) ?_; (with_reducible refine (laws_heldInt64S.calls kj50 _ _ t895 1 t896 _ ?side1 ?side2 A71.out).mono ?_); (case side1 => have q_ := Aside0.mk (Kd.R_reads' HO_10.out).2.2; exact cQ q_); (case side2 => rw [show t895.length = t875.length from (Kd.R_reads' HO_10.out).1.symm]; exact (Kd.R_reads' HO_10.out).2.1); rintro e w' ⟨rfl, ⟨nd, rfl⟩⟩; refine ⟨_, rfl, ?_⟩))
            go_ret
            exact ⟨rz, beQ HB⟩
           ·rw [if_neg c72] at H
            have c72b0 : decide (t896 < 0) = false := decide_eq_false c72
            clear c72
            by_cases c75 : t896 = t894
            ·rw [if_pos c75] at H
             have c75b0 : (t896 == t894) = true := beq_iff_eq.mpr c75
             have c75b1 : (t896 != t894) = false := bne_eq_false_iff_eq.mpr c75
             clear c75; replace H := Option.bind_eq_some_iff.mp H
             obtain ⟨⟨t897, t898⟩, A760, H⟩ := H
             replace H : ((laws_toInt64S.f kj50 l1).bind fun t901 => ((impl_ReverseOf.f kj50 t897 t898 t901).bind fun bt904 => ((laws_eqInt64S.f kj50 bt904.1 t863).bind fun t908 => (if t908 = true then (laws_FnExactReverseOf.j2 kj50 t895 t894 (bt904.2 != t866)) else (laws_FnExactReverseOf.j2 kj50 t895 t894 true))))) = some r := H
             have A76 := Aside0.mk A760; clear A760; replace H := Option.bind_eq_some_iff.mp H; obtain ⟨t901, A770, H⟩ := H
             replace H : ((impl_ReverseOf.f kj50 t897 t898 t901).bind fun bt904 => ((laws_eqInt64S.f kj50 bt904.1 t863).bind fun t908 => (if t908 = true then (laws_FnExactReverseOf.j2 kj50 t895 t894 (bt904.2 != t866)) else (laws_FnExactReverseOf.j2 kj50 t895 t894 true)))) = some r := H
             have A77 := Aside0.mk A770; clear A770; replace H := Option.bind_eq_some_iff.mp H
             obtain ⟨⟨t904, t907⟩, A780, H⟩ := H
             replace H : ((laws_eqInt64S.f kj50 t904 t863).bind fun t908 => (if t908 = true then (laws_FnExactReverseOf.j2 kj50 t895 t894 (t907 != t866)) else (laws_FnExactReverseOf.j2 kj50 t895 t894 true))) = some r := H
             have A78 := Aside0.mk A780; clear A780; have HC79 := Aside0.mk H; clear H; obtain ⟨Ao80, co80, eo80⟩ := Kd.R_slice HO_10.out; subst eo80
             go_upto_region 31 with (first | ((with_reducible refine gate_callee (f := 25) rfl ?_); refine goesL_ (some 83) rfl rfl Tryd.func25 (by kernel_rfl) rfl #[.slice Ao80 t875.length co80, .int .i64 1] rfl lz ?_; (with_reducible refine (laws_markInt64S.calls kj50 (fun k_ => some k_ = (.slice Ao80 t875.length co80 : Value).ownBlock) (.slice Ao80 t875.length co80) t875 1 t894 t895 w _ ?side1 ?side2 A70.out).mono ?_); (case side1 => repeat (first | (with_reducible first | exact HB.out | apply below_alloc | apply pw_below_drewN | apply below_drew1 | refine below_set ?_ GE854.out | refine below_set ?_ GE871.out) | exact HB.out)); (case side2 => exact Kd.R_tight rfl HO_10.out); rintro e w81 ⟨rfl, hy0, hb, hkp⟩; refine ⟨_, rfl, ?_⟩; replace HO_6 := Aside0.mk (Kd.R_mono (ok' := fun k_ => some k_ ≠ (.slice Ao80 t875.length co80 : Value).ownBlock ∧ some k_ ≠ (.slice Ao31 t890.length co31 : Value).ownBlock) (Kd.R_keptB (HO_6.out) hkp (fun k_ hk_ hs_ => (hk_.1) hs_)) (fun k_ hk_ => ⟨hk_.1.1, hk_.1.2⟩)); replace HO_872001 := Aside0.mk (Kd.R_mono (ok' := fun k_ => some k_ ≠ (v864 : Value).ownBlock ∧ some k_ ≠ (.slice Ao80 t875.length co80 : Value).ownBlock) (Kd.R_keptB (HO_872001.out) hkp (fun k_ hk_ hs_ => (hk_.2) hs_)) (fun k_ hk_ => ⟨hk_.1.1, hk_.1.2⟩)); replace BK854 := Aside0.mk (blk_kept (blkQ BK854) hkp (fun hs_ => (fun e_ => (Kd.R_ne HO_10.out BK854.out (by decide)) e_) hs_)); replace BK871 := Aside0.mk (blk_kept (blkQ BK871) hkp (fun hs_ => (fun e_ => (Kd.R_ne HO_10.out BK871.out (by decide)) e_) hs_)); replace HO_10 := Aside0.mk (Kd.R_reok rfl hy0 (fun k_ e_ => HO_10.out.1 k_ e_)); replace HB := Aside0.mk (hb); (try clear hb); (try clear hkp); (try clear hy0)) | ((with_reducible refine gate_callee (f := 26) rfl ?_); refine goesL_ (some 86) rfl rfl Tryd.func26 (by kernel_rfl) rfl #[.slice Ao80 t895.length co80, .int .i64 1] rfl (by (try simp only [List.map_toArray, List.map_cons, List.map_nil]); first | done | (rw [show t895.length = t875.length from (Kd.R_reads' HO_10.out).1.symm] <;> rfl) | rfl | (simp only [List.length_drop, List.length_take]; rfl)) ?_; (with_reducible refine (laws_heldInt64S.calls kj50 _ _ t895 1 t896 _ ?side1 ?side2 A71.out).mono ?_); (case side1 => have q_ := Aside0.mk (Kd.R_reads' HO_10.out).2.2; exact cQ q_); (case side2 => rw [show t895.length = t875.length from (Kd.R_reads' HO_10.out).1.symm]; exact (Kd.R_reads' HO_10.out).2.1); rintro e w' ⟨rfl, ⟨nd, rfl⟩⟩; refine ⟨_, rfl, ?_⟩; have hnb82 := NB854_871.out; have hnc82 := NB871_854.out; have hcz83_0 : w81.cell? ⟨gb854, 0, none⟩ = some (.int .i64 a0_0) := bc BK854 0; have hcz83_1 : w81.cell? ⟨gb854, 1, none⟩ = some (.slice A0_1 l0_1.length c0_1) := bc BK854 1; have hfz83_0 := blk_frozen BK854.out 0; have hfz83_1 := blk_frozen BK854.out 1) | ((with_reducible refine gate_callee (f := 17) rfl ?_); refine goesL_ (some 94) rfl rfl Tryd.func17 (by kernel_rfl) rfl #[.agg #[.int .i64 a0_0, .slice A0_1 l0_1.length c0_1]] rfl lz ?_; (with_reducible refine (laws_toAlphabet.calls kj50 a0_0 _ _ l0_1 t897 t898 _ ?side1 ?side2 A76.out).mono ?_); (case side1 => have q_ := Aside0.mk (Kd.C_below HR0_1.out (beQ HB)); exact cQ q_); (case side2 => exact HC0_1.out); rintro e w84 ⟨v899, rfl, ho0, hb⟩; refine ⟨_, rfl, ?_⟩; have HO900 := Aside0.mk (Kd.R_lower (Kd.R_new' (Kd.R_new' (Kd.R_new' ho0 (Kd.R_lt (kdQ HO_6))) (Kd.R_lt (kdQ HO_10))) (Kd.R_lt (kdQ HO_872001))) (below_size (beQ HB))); replace HO_6 := Aside0.mk (Kd.R_elder' (kdQ HO_6) (Kd.R_base ho0) hb); replace HO_10 := Aside0.mk (Kd.R_elder' (kdQ HO_10) (Kd.R_base ho0) hb); replace HO_872001 := Aside0.mk (Kd.R_elder' (kdQ HO_872001) (Kd.R_base ho0) hb); replace BK854 := bb BK854 hb; replace BK871 := bb BK871 hb; replace HB := Aside0.mk (below_step (beQ HB) hb); (try clear hb); (try clear hb2); (try clear hk); (try clear hi); (try clear ho0)) | ((with_reducible refine gate_callee (f := 18) rfl ?_); refine goesL_ (some 96) rfl rfl Tryd.func18 (by kernel_rfl) rfl #[.slice A1 l1.length c1] rfl lz ?_; (with_reducible refine (laws_toInt64S.calls kj50 _ _ l1 t901 _ ?side1 ?side2 A77.out).mono ?_); (case side1 => have q_ := Aside0.mk (Kd.C_below HR1.out HB.out); exact cQ q_); (case side2 => exact HC1.out); rintro e w85 ⟨v902, rfl, ho0, hb⟩; refine ⟨_, rfl, ?_⟩; have HO903 := Aside0.mk (Kd.R_lower (Kd.R_new' (Kd.R_new' (Kd.R_new' (Kd.R_new' ho0 (Kd.R_lt (kdQ HO_6))) (Kd.R_lt (kdQ HO_10))) (Kd.R_lt (kdQ HO_872001))) (Kd.R_lt (kdQ HO900))) (below_size (beQ HB))); replace HO_6 := Aside0.mk (Kd.R_elder' (kdQ HO_6) (Kd.R_base ho0) hb); replace HO_10 := Aside0.mk (Kd.R_elder' (kdQ HO_10) (Kd.R_base ho0) hb); replace HO_872001 := Aside0.mk (Kd.R_elder' (kdQ HO_872001) (Kd.R_base ho0) hb); replace HO900 := Aside0.mk (Kd.R_elder' (kdQ HO900) (Kd.R_base ho0) hb); replace BK854 := bb BK854 hb; replace BK871 := bb BK871 hb; replace HB := Aside0.mk (below_step (beQ HB) hb); (try clear hb); (try clear hb2); (try clear hk); (try clear hi); (try clear ho0); obtain ⟨Ao86, co86, eo86⟩ := Kd.R_slice HO900.out; subst eo86; obtain ⟨Ao87, co87, eo87⟩ := Kd.R_slice HO903.out; subst eo87) | ((with_reducible refine gate_callee (f := 41) rfl ?_); refine goesL_ (some 97) rfl rfl Tryd.func41 (by kernel_rfl) rfl #[.agg #[.int .i64 t897, .slice Ao86 t898.length co86], .slice Ao87 t901.length co87] rfl lz ?_; (with_reducible refine (impl_ReverseOf.calls kj50 t897 _ _ t898 (fun k_ => some k_ = (.slice Ao87 t901.length co87 : Value).ownBlock) _ _ t901 t904 t907 _ ?side1 ?side2 ?side3 ?side4 A78.out).mono ?_); (case side1 => have q_ := Aside0.mk (Kd.R_reads' HO900.out).2.2; exact cQ q_); (case side2 => exact (Kd.R_reads' HO900.out).2.1); (case side3 => exact Kd.R_V (Kd.R_tight rfl (Kd.R_types (Kd.R_types (HO903.out) BK854.out (by decide)) BK871.out (by decide)))); (case side4 => exact TabW.below HT.out (beQ HB)); rintro e w88 ⟨v905, rfl, ho0, hb⟩; refine ⟨_, rfl, ?_⟩; have HO906 := Aside0.mk (Kd.R_lower (Kd.R_new' (Kd.R_new' (Kd.R_new' (Kd.R_new' (Kd.R_new' (Kd.R_mono (ok' := fun k_ => True) ho0 (fun _ hk_ => trivial)) (Kd.R_lt (kdQ HO_6))) (Kd.R_lt (kdQ HO_10))) (Kd.R_lt (kdQ HO_872001))) (Kd.R_lt (kdQ HO900))) (Kd.R_lt (kdQ HO903))) (below_size (beQ HB))); replace HO_6 := Aside0.mk (Kd.R_elder' (kdQ HO_6) (Kd.R_base ho0) hb); replace HO_10 := Aside0.mk (Kd.R_elder' (kdQ HO_10) (Kd.R_base ho0) hb); replace HO_872001 := Aside0.mk (Kd.R_elder' (kdQ HO_872001) (Kd.R_base ho0) hb); replace HO900 := Aside0.mk (Kd.R_elder' (kdQ HO900) (Kd.R_base ho0) hb); replace HO903 := Aside0.mk (Kd.R_elder' (kdQ HO903) (Kd.R_base ho0) hb); replace BK854 := bb BK854 hb; replace BK871 := bb BK871 hb; replace HB := Aside0.mk (below_step (beQ HB) hb); (try clear hb); (try clear hb2); (try clear hk); (try clear hi); (try clear ho0)))
             (try simp only [Act.put, List.setIfInBounds_toArray, List.set_cons_zero, List.set_cons_succ])
             go_cut [108] (fun v108 wc => ∃ (kq : Nat) (x108_78 : Bool), v108 = .bool x108_78 ∧ Aside0 (laws_FnExactReverseOf.j2 kq t895 t894 x108_78 = some r) ∧ Aside0 (kq ≤ kj50) ∧ Aside0 (Kd.R (Kd.int .i64) 2 wc w.heap.size (fun k_ => some k_ ≠ ((.slice Ao31 t890.length co31) : Value).ownBlock) (.slice Ao80 t875.length co80) t895) ∧ Aside0 (Kd.R (Kd.int .i64) 2 wc w.heap.size (fun k_ => some k_ ≠ ((.slice Ao80 t875.length co80) : Value).ownBlock) (.slice Ao31 t890.length co31) t890) ∧ Aside0 (wc.heap[gb854]? = some (.cells #[.int .i64 a0_0, (.slice A0_1 l0_1.length c0_1)] 24 (0, 0))) ∧ Aside0 (wc.heap[gb871]? = some (.cells #[.int .i64 t867, (.slice Ao31 t890.length co31)] 28 (0, 0))) ∧ Aside0 (Below w.heap.size w wc))
             case first =>
              have H := HC79.out; clear HC79; replace H := Option.bind_eq_some_iff.mp H; obtain ⟨t908, A890, H⟩ := H
              replace H : (if t908 = true then (laws_FnExactReverseOf.j2 kj50 t895 t894 (t907 != t866)) else (laws_FnExactReverseOf.j2 kj50 t895 t894 true)) = some r := H
              have A89 := Aside0.mk A890; clear A890
              by_cases c90 : t908 = true
              ·subst c90
               have H1 : (laws_FnExactReverseOf.j2 kj50 t895 t894 (t907 != t866)) = some r := by rw [if_pos rfl] at H; exact H
               clear H; have H := H1; clear H1
               have H' := Aside0.mk H
               clear H; obtain ⟨Ao91, co91, eo91⟩ := Kd.R_slice HO906.out; subst eo91; obtain ⟨Ao92, co92, eo92⟩ := Kd.R_slice HO_6.out; subst eo92
               go_wp2_with (first | ((with_reducible refine gate_callee (f := 21) rfl ?_); refine goesL_ (some 102) rfl rfl Tryd.func21 (by kernel_rfl) rfl #[.slice Ao91 t904.length co91, .slice Ao92 t863.length co92] rfl lz ?_; (with_reducible refine (laws_eqInt64S.calls kj50 _ _ t904 _ _ t863 true _ ?side1 ?side2 ?side3 ?side4 A89.out).mono ?_); (case side1 => have q_ := Aside0.mk (Kd.R_reads' HO906.out).2.2; exact cQ q_); (case side2 => exact (Kd.R_reads' HO906.out).2.1); (case side3 => have q_ := Aside0.mk (Kd.R_reads' HO_6.out).2.2; exact cQ q_); (case side4 => exact (Kd.R_reads' HO_6.out).2.1); rintro e w' ⟨rfl, ⟨nd, rfl⟩⟩; refine ⟨_, rfl, ?_⟩))
               go_meet
               case rel => exact ⟨_, ((t907 != t866)), sz, H', ⟨by have := HJ15.out; have := HJ50.out; first | omega | exact Nat.le_refl _⟩, ⟨by (try simp only [hl872001_50]); (with_reducible repeat (first | apply Kd.R_alloc | apply Kd.R_drewN | apply Kd.R_drew)); exact Kd.R_mono HO_10.out (fun _ hk => hk.1.1.1.2)⟩, ⟨by (try simp only [hl872001_50]); (with_reducible repeat (first | apply Kd.R_alloc | apply Kd.R_drewN | apply Kd.R_drew)); exact Kd.R_mono HO_872001.out (fun _ hk => hk.1.1.1.2)⟩, ⟨by (try simp only [hl872001_50]); (with_reducible repeat (first | refine blk_drewN ?_ _ | refine blk_drew ?_ | refine blk_alloc ?_ _)); exact BK854.out⟩, ⟨by (try simp only [hl872001_50]); (with_reducible repeat (first | refine blk_drewN ?_ _ | refine blk_drew ?_ | refine blk_alloc ?_ _)); exact BK871.out⟩, ⟨beQ HB⟩⟩
              ·replace c90 := Bool.eq_false_iff.mpr c90
               subst c90
               have H1 : (laws_FnExactReverseOf.j2 kj50 t895 t894 true) = some r := by rw [if_neg (show ¬ (false = true) by decide)] at H; exact H
               clear H; have H := H1; clear H1
               have H' := Aside0.mk H
               clear H; obtain ⟨Ao93, co93, eo93⟩ := Kd.R_slice HO906.out; subst eo93; obtain ⟨Ao94, co94, eo94⟩ := Kd.R_slice HO_6.out; subst eo94
               go_wp2_with (first | ((with_reducible refine gate_callee (f := 21) rfl ?_); refine goesL_ (some 102) rfl rfl Tryd.func21 (by kernel_rfl) rfl #[.slice Ao93 t904.length co93, .slice Ao94 t863.length co94] rfl lz ?_; (with_reducible refine (laws_eqInt64S.calls kj50 _ _ t904 _ _ t863 false _ ?side1 ?side2 ?side3 ?side4 A89.out).mono ?_); (case side1 => have q_ := Aside0.mk (Kd.R_reads' HO906.out).2.2; exact cQ q_); (case side2 => exact (Kd.R_reads' HO906.out).2.1); (case side3 => have q_ := Aside0.mk (Kd.R_reads' HO_6.out).2.2; exact cQ q_); (case side4 => exact (Kd.R_reads' HO_6.out).2.1); rintro e w' ⟨rfl, ⟨nd, rfl⟩⟩; refine ⟨_, rfl, ?_⟩))
               go_meet
               case rel => exact ⟨_, (true), sz, H', ⟨by have := HJ15.out; have := HJ50.out; first | omega | exact Nat.le_refl _⟩, ⟨by (try simp only [hl872001_50]); (with_reducible repeat (first | apply Kd.R_alloc | apply Kd.R_drewN | apply Kd.R_drew)); exact Kd.R_mono HO_10.out (fun _ hk => hk.1.1.1.2)⟩, ⟨by (try simp only [hl872001_50]); (with_reducible repeat (first | apply Kd.R_alloc | apply Kd.R_drewN | apply Kd.R_drew)); exact Kd.R_mono HO_872001.out (fun _ hk => hk.1.1.1.2)⟩, ⟨by (try simp only [hl872001_50]); (with_reducible repeat (first | refine blk_drewN ?_ _ | refine blk_drew ?_ | refine blk_alloc ?_ _)); exact BK854.out⟩, ⟨by (try simp only [hl872001_50]); (with_reducible repeat (first | refine blk_drewN ?_ _ | refine blk_drew ?_ | refine blk_alloc ?_ _)); exact BK871.out⟩, ⟨beQ HB⟩⟩
             case rest =>
              clear HC79
              try clear c1
              try clear c2
              try clear p2
              try clear c3
              try clear c3b0
              try clear c3b1
              try clear c4
              try clear c5
              try clear c6
              try clear c6b0
              try clear c7
              try clear c8
              try clear c9
              try clear c10
              try clear c15
              try clear c17
              try clear c18
              try clear c20
              try clear c21
              try clear c24
              try clear c25
              try clear c26
              try clear c29
              try clear c37
              try clear c40
              try clear c41
              try clear c42
              try clear c45
              try clear c48
              try clear c58
              try clear c62
              try clear c62b0
              try clear c64
              try clear c69
              try clear c72
              try clear c72b0
              try clear c75
              try clear c75b0
              try clear c75b1
              try clear c82
              try clear c90
              try clear hcz18_0
              try clear hcz18_1
              try clear hcz20_0
              try clear hcz20_1
              try clear hcz26_0
              try clear hcz26_1
              try clear hcz30_0
              try clear hcz30_1
              try clear hcz33_0
              try clear hcz33_1
              try clear hcz59_0
              try clear hcz59_1
              try clear hcz83_0
              try clear hcz83_1
              try clear hcz8_0
              try clear hcz8_1
              try clear hfz18_0
              try clear hfz18_1
              try clear hfz20_0
              try clear hfz20_1
              try clear hfz26_0
              try clear hfz26_1
              try clear hfz30_0
              try clear hfz30_1
              try clear hfz33_0
              try clear hfz33_1
              try clear hfz59_0
              try clear hfz59_1
              try clear hfz83_0
              try clear hfz83_1
              try clear hfz8_0
              try clear hfz8_1
              try clear p2
              obtain ⟨kq, x108_78, rfl, HA, HJ78, HO_10, HO_872001, BK854, BK871, HB⟩ := hcut; have hl10_78 := (Kd.R_reads' HO_10.out).1; rw [hl10_78] at HO_10
              (try simp only [hl10_78])
              (try simp only [hl10_78] at BK854)
              (try simp only [hl10_78] at BK871)
              (try simp only [hl10_78] at HO_872001)
              cases kq with
              | zero => exact absurd HA.out (by simp [laws_FnExactReverseOf.j2])
              | succ kj78 =>
               have H := HA.out; clear HA
               simp only [laws_FnExactReverseOf.j2] at H
               by_cases c95 : x108_78 = true
               ·subst c95
                have H1 : (some false) = some r := by rw [if_pos rfl] at H; exact H
                clear H; have H := H1; clear H1
                obtain rfl := Option.some.inj H
                go_wp2
                go_ret
                exact ⟨rz, beQ HB⟩
               ·replace c95 := Bool.eq_false_iff.mpr c95
                subst c95
                have H1 : ((laws_heldInt64S.f kj78 t895 1).bind fun t909 => (if t909 < 0 then (some false) else (if t909 = t894 then (some true) else (some false)))) = some r := by rw [if_neg (show ¬ (false = true) by decide)] at H; exact H
                clear H; have H := H1; clear H1; replace H := Option.bind_eq_some_iff.mp H; obtain ⟨t909, A960, H⟩ := H
                replace H : (if t909 < 0 then (some false) else (if t909 = t894 then (some true) else (some false))) = some r := H
                have A96 := Aside0.mk A960; clear A960
                by_cases c97 : t909 < 0
                ·rw [if_pos c97] at H
                 have c97b0 : decide (t909 < 0) = true := decide_eq_true c97
                 clear c97
                 obtain rfl := Option.some.inj H
                 go_wp2_with (first | ((with_reducible refine gate_callee (f := 26) rfl ?_); refine goesL_ (some 111) rfl rfl Tryd.func26 (by kernel_rfl) rfl #[.slice Ao80 t895.length co80, .int .i64 1] rfl lz ?_; (with_reducible refine (laws_heldInt64S.calls kj78 _ _ t895 1 t909 _ ?side1 ?side2 A96.out).mono ?_); (case side1 => have q_ := Aside0.mk (Kd.R_reads' HO_10.out).2.2; exact cQ q_); (case side2 => exact (Kd.R_reads' HO_10.out).2.1); rintro e w' ⟨rfl, ⟨nd, rfl⟩⟩; refine ⟨_, rfl, ?_⟩))
                 go_ret
                 exact ⟨rz, beQ HB⟩
                ·rw [if_neg c97] at H
                 have c97b0 : decide (t909 < 0) = false := decide_eq_false c97
                 clear c97
                 by_cases c98 : t909 = t894
                 ·rw [if_pos c98] at H
                  have c98b0 : (t909 == t894) = true := beq_iff_eq.mpr c98
                  have c98b1 : (t909 != t894) = false := bne_eq_false_iff_eq.mpr c98
                  clear c98
                  obtain rfl := Option.some.inj H
                  go_wp2_with (first | ((with_reducible refine gate_callee (f := 26) rfl ?_); refine goesL_ (some 111) rfl rfl Tryd.func26 (by kernel_rfl) rfl #[.slice Ao80 t895.length co80, .int .i64 1] rfl lz ?_; (with_reducible refine (laws_heldInt64S.calls kj78 _ _ t895 1 t909 _ ?side1 ?side2 A96.out).mono ?_); (case side1 => have q_ := Aside0.mk (Kd.R_reads' HO_10.out).2.2; exact cQ q_); (case side2 => exact (Kd.R_reads' HO_10.out).2.1); rintro e w' ⟨rfl, ⟨nd, rfl⟩⟩; refine ⟨_, rfl, ?_⟩))
                  go_ret
                  exact ⟨rz, beQ HB⟩
                 ·rw [if_neg c98] at H
                  have c98b0 : (t909 == t894) = false := beq_eq_false_iff_ne.mpr c98
                  have c98b1 : (t909 != t894) = true := bne_iff_ne.mpr c98
                  obtain rfl := Option.some.inj H
                  go_wp2_with (first | ((with_reducible refine gate_callee (f := 26) rfl ?_); refine goesL_ (some 111) rfl rfl Tryd.func26 (by kernel_rfl) rfl #[.slice Ao80 t895.length co80, .int .i64 1] rfl lz ?_; (with_reducible refine (laws_heldInt64S.calls kj78 _ _ t895 1 t909 _ ?side1 ?side2 A96.out).mono ?_); (case side1 => have q_ := Aside0.mk (Kd.R_reads' HO_10.out).2.2; exact cQ q_); (case side2 => exact (Kd.R_reads' HO_10.out).2.1); rintro e w' ⟨rfl, ⟨nd, rfl⟩⟩; refine ⟨_, rfl, ?_⟩))
                  go_ret
                  exact ⟨rz, beQ HB⟩
            ·rw [if_neg c75] at H
             have c75b0 : (t896 == t894) = false := beq_eq_false_iff_ne.mpr c75
             have c75b1 : (t896 != t894) = true := bne_iff_ne.mpr c75
             obtain rfl := Option.some.inj H
             obtain ⟨Ao99, co99, eo99⟩ := Kd.R_slice HO_10.out; subst eo99
             go_wp2_with (first | ((with_reducible refine gate_callee (f := 25) rfl ?_); refine goesL_ (some 83) rfl rfl Tryd.func25 (by kernel_rfl) rfl #[.slice Ao99 t875.length co99, .int .i64 1] rfl lz ?_; (with_reducible refine (laws_markInt64S.calls kj50 (fun k_ => some k_ = (.slice Ao99 t875.length co99 : Value).ownBlock) (.slice Ao99 t875.length co99) t875 1 t894 t895 w _ ?side1 ?side2 A70.out).mono ?_); (case side1 => repeat (first | (with_reducible first | exact HB.out | apply below_alloc | apply pw_below_drewN | apply below_drew1 | refine below_set ?_ GE854.out | refine below_set ?_ GE871.out) | exact HB.out)); (case side2 => exact Kd.R_tight rfl HO_10.out); rintro e w100 ⟨rfl, hy0, hb, hkp⟩; refine ⟨_, rfl, ?_⟩; replace HO_6 := Aside0.mk (Kd.R_mono (ok' := fun k_ => some k_ ≠ (.slice Ao99 t875.length co99 : Value).ownBlock ∧ some k_ ≠ (.slice Ao31 t890.length co31 : Value).ownBlock) (Kd.R_keptB (HO_6.out) hkp (fun k_ hk_ hs_ => (hk_.1) hs_)) (fun k_ hk_ => ⟨hk_.1.1, hk_.1.2⟩)); replace HO_872001 := Aside0.mk (Kd.R_mono (ok' := fun k_ => some k_ ≠ (v864 : Value).ownBlock ∧ some k_ ≠ (.slice Ao99 t875.length co99 : Value).ownBlock) (Kd.R_keptB (HO_872001.out) hkp (fun k_ hk_ hs_ => (hk_.2) hs_)) (fun k_ hk_ => ⟨hk_.1.1, hk_.1.2⟩)); replace BK854 := Aside0.mk (blk_kept (blkQ BK854) hkp (fun hs_ => (fun e_ => (Kd.R_ne HO_10.out BK854.out (by decide)) e_) hs_)); replace BK871 := Aside0.mk (blk_kept (blkQ BK871) hkp (fun hs_ => (fun e_ => (Kd.R_ne HO_10.out BK871.out (by decide)) e_) hs_)); replace HO_10 := Aside0.mk (Kd.R_reok rfl hy0 (fun k_ e_ => HO_10.out.1 k_ e_)); replace HB := Aside0.mk (hb); (try clear hb); (try clear hkp); (try clear hy0)) | ((with_reducible refine gate_callee (f := 26) rfl ?_); refine goesL_ (some 86) rfl rfl Tryd.func26 (by kernel_rfl) rfl #[.slice Ao99 t895.length co99, .int .i64 1] rfl (by (try simp only [List.map_toArray, List.map_cons, List.map_nil]); first | done | (rw [show t895.length = t875.length from (Kd.R_reads' HO_10.out).1.symm] <;> rfl) | rfl | (simp only [List.length_drop, List.length_take]; rfl)) ?_; (with_reducible refine (laws_heldInt64S.calls kj50 _ _ t895 1 t896 _ ?side1 ?side2 A71.out).mono ?_); (case side1 => have q_ := Aside0.mk (Kd.R_reads' HO_10.out).2.2; exact cQ q_); (case side2 => rw [show t895.length = t875.length from (Kd.R_reads' HO_10.out).1.symm]; exact (Kd.R_reads' HO_10.out).2.1); rintro e w' ⟨rfl, ⟨nd, rfl⟩⟩; refine ⟨_, rfl, ?_⟩))
             go_ret
             exact ⟨rz, beQ HB⟩
       ·replace c48 := Bool.eq_false_iff.mpr c48
        subst c48
        have H1 : (some false) = some r := by rw [if_neg (show ¬ (false = true) by decide)] at H; exact H
        clear H; have H := H1; clear H1
        obtain rfl := Option.some.inj H
        try go_wp2
        replace HO_6 := Aside0.mk (Kd.R_drew HO_6.out); replace HO_9 := Aside0.mk (Kd.R_drew HO_9.out); replace HO_10 := Aside0.mk (Kd.R_drew HO_10.out); replace HO_872001 := Aside0.mk (Kd.R_drew HO_872001.out); replace BK854 := Aside0.mk (blk_drew BK854.out); replace BK871 := Aside0.mk (blk_drew BK871.out); replace HB := Aside0.mk (below_drew1 HB.out)
        refine start_ (n := 5) (S := fun w' => w'.cell? ⟨gb871, 0, none⟩ = some (.int .i64 t867) ∧ w'.cell? ⟨gb871, 1, none⟩ = some (.slice Ao31 t868.length co31) ∧ w'.cell? ⟨gb854, 0, none⟩ = some (.int .i64 a0_0) ∧ w'.cell? ⟨gb854, 1, none⟩ = some (.slice A0_1 l0_1.length c0_1)) (ds := []) #[false, false, false, false, false] (by kernel_rfl) rfl rfl ⟨bc BK871 0, bc BK871 1, bc BK854 0, bc BK854 1⟩ (fun hHeld => ?_)
        generalize wc.drew = w101 at HO_6 HO_9 HO_10 HO_872001 BK854 BK871 HB hHeld ⊢
        refine take_ (i := 0) (N := some 52) (v := ?_) (a' := ?_) #[true, false, false, false, false] rfl rfl (by kernel_rfl) (fun _ _ _ h => h) (Or.inl ⟨by rfl, ?_⟩) hHeld ?_ ?_
        rotate_left
        ·rintro w' ⟨s0, s1, s2, s3⟩
         go_simp
         with_reducible rfl
        rotate_left
        ·simp only [Act.put, s1, s2, s3, i64_w, i32_w]
         rfl
        refine take_ (i := 1) (N := some 53) (v := ?_) (a' := ?_) #[true, true, false, false, false] rfl rfl (by kernel_rfl) (fun _ _ _ h => h) (Or.inl ⟨by rfl, ?_⟩) hHeld ?_ ?_
        rotate_left
        ·rintro w' ⟨s0, s1, s2, s3⟩
         go_simp
         with_reducible rfl
        rotate_left
        ·simp only [Act.put, s1, s2, s3, i64_w, i32_w]
         rfl
        refine one_ (i := 2) (N := some 54) #[true, true, true, false, false] rfl rfl (by kernel_rfl) (by decide) (fun K hK => ?_)
        refine goes_ Tryd.func17 (by kernel_rfl) rfl #[.agg #[.int .i64 a0_0, .slice A0_1 l0_1.length c0_1]] (by rfl) rfl rfl lz ?_
        with_reducible refine (laws_toAlphabet.calls kj15 a0_0 _ _ l0_1 t880 t881 _ ?side1 ?side2 A43.out).mono ?_
        (case side1 => have q_ := Aside0.mk (Kd.C_below HR0_1.out HB.out); exact cQ q_)
        (case side2 => exact HC0_1.out)
        rintro e w102 ⟨v882, rfl, ho0, hb⟩
        refine ⟨_, rfl, ?_⟩
        have HO883 := Aside0.mk (Kd.R_lower (Kd.R_new' (Kd.R_new' (Kd.R_new' (Kd.R_new' ho0 (Kd.R_lt (kdQ HO_6))) (Kd.R_lt (kdQ HO_9))) (Kd.R_lt (kdQ HO_10))) (Kd.R_lt (kdQ HO_872001))) (below_size (beQ HB))); replace HO_6 := Aside0.mk (Kd.R_elder' (kdQ HO_6) (Kd.R_base ho0) hb); replace HO_9 := Aside0.mk (Kd.R_elder' (kdQ HO_9) (Kd.R_base ho0) hb); replace HO_10 := Aside0.mk (Kd.R_elder' (kdQ HO_10) (Kd.R_base ho0) hb); replace HO_872001 := Aside0.mk (Kd.R_elder' (kdQ HO_872001) (Kd.R_base ho0) hb); replace BK854 := bb BK854 hb; replace BK871 := bb BK871 hb; replace HB := Aside0.mk (below_step (beQ HB) hb)
        (try clear hb)
        (try clear hb2)
        (try clear hk)
        (try clear hi)
        (try clear ho0)
        obtain ⟨Ao103, co103, eo103⟩ := Kd.R_slice HO883.out
        (first | subst eo103 | (injection eo103 with f1_ f2_ f3_; have f4_ := f1_.symm; have f5_ := f3_.symm; clear f1_ f2_ f3_; subst f4_; subst f5_))
        refine hK.out _ _ ⟨bc BK871 0, bc BK871 1, bc BK854 0, bc BK854 1⟩ (fun hHeld => ?_)
        clear hK K
        refine norm_ (a' := ?_) ?_ ?_
        rotate_left
        ·show Act.put _ (some 54) _ = _
         simp only [Act.put, s1, s2, s3, i64_w, i32_w]
         rfl
        refine one_ (i := 3) (N := some 55) #[true, true, true, true, false] rfl rfl (by kernel_rfl) (by decide) (fun K hK => ?_)
        refine goes_ Tryd.func20 (by kernel_rfl) rfl #[.agg #[.int .i64 t867, .slice Ao31 t868.length co31], .agg #[.int .i64 t880, .slice Ao103 t881.length co103]] (by rfl) rfl rfl lz ?_
        with_reducible refine (laws_eqAlphabet.calls kj15 t867 _ _ t868 t880 _ _ t881 true _ ?side1 ?side2 ?side3 ?side4 A44.out).mono ?_
        (case side1 => have q_ := Aside0.mk (Kd.R_reads' HO_872001.out).2.2; exact cQ q_)
        (case side2 => exact (Kd.R_reads' HO_872001.out).2.1)
        (case side3 => have q_ := Aside0.mk (Kd.R_reads' HO883.out).2.2; exact cQ q_)
        (case side4 => exact (Kd.R_reads' HO883.out).2.1)
        rintro e w104 ⟨rfl, hb⟩
        refine ⟨_, rfl, ?_⟩
        replace HO_6 := kb HO_6 hb; replace HO_9 := kb HO_9 hb; replace HO_10 := kb HO_10 hb; replace HO_872001 := kb HO_872001 hb; replace HO883 := kb HO883 hb; replace BK854 := bb BK854 hb; replace BK871 := bb BK871 hb; replace HB := Aside0.mk (below_step (beQ HB) hb)
        (try clear hb)
        (try clear hb2)
        (try clear hk)
        (try clear hi)
        refine hK.out _ _ ⟨bc BK871 0, bc BK871 1, bc BK854 0, bc BK854 1⟩ (fun hHeld => ?_)
        clear hK K
        refine norm_ (a' := ?_) ?_ ?_
        rotate_left
        ·show Act.put _ (some 55) _ = _
         simp only [Act.put, s1, s2, s3, i64_w, i32_w]
         rfl
        refine pure_ (i := 4) (N := some 56) (v := ?_) (a' := ?_) #[true, true, true, true, true] rfl rfl (by kernel_rfl) (fun _ _ _ h => h) (Or.inl ⟨by rfl, ?_⟩) ?_ ?_
        rotate_left
        ·intro w'
         go_simp
         with_reducible rfl
        rotate_left
        ·simp only [Act.put, s1, s2, s3, i64_w, i32_w]
         rfl
        refine done_ (by kernel_rfl) ?_
        try go_wp2_with (first | ((with_reducible refine gate_callee (f := 18) rfl ?_); refine goesL_ (some 59) rfl rfl Tryd.func18 (by kernel_rfl) rfl #[.slice A1 l1.length c1] rfl lz ?_; (with_reducible refine (laws_toInt64S.calls kj15 _ _ l1 t885 _ ?side1 ?side2 A46.out).mono ?_); (case side1 => have q_ := Aside0.mk (Kd.C_below HR1.out HB.out); exact cQ q_); (case side2 => exact HC1.out); rintro e w105 ⟨v886, rfl, ho0, hb⟩; refine ⟨_, rfl, ?_⟩; have HO887 := Aside0.mk (Kd.R_lower (Kd.R_new' (Kd.R_new' (Kd.R_new' (Kd.R_new' (Kd.R_new' ho0 (Kd.R_lt (kdQ HO_6))) (Kd.R_lt (kdQ HO_9))) (Kd.R_lt (kdQ HO_10))) (Kd.R_lt (kdQ HO_872001))) (Kd.R_lt (kdQ HO883))) (below_size (beQ HB))); replace HO_6 := Aside0.mk (Kd.R_elder' (kdQ HO_6) (Kd.R_base ho0) hb); replace HO_9 := Aside0.mk (Kd.R_elder' (kdQ HO_9) (Kd.R_base ho0) hb); replace HO_10 := Aside0.mk (Kd.R_elder' (kdQ HO_10) (Kd.R_base ho0) hb); replace HO_872001 := Aside0.mk (Kd.R_elder' (kdQ HO_872001) (Kd.R_base ho0) hb); replace HO883 := Aside0.mk (Kd.R_elder' (kdQ HO883) (Kd.R_base ho0) hb); replace BK854 := bb BK854 hb; replace BK871 := bb BK871 hb; replace HB := Aside0.mk (below_step (beQ HB) hb); (try clear hb); (try clear hb2); (try clear hk); (try clear hi); (try clear ho0); obtain ⟨Ao106, co106, eo106⟩ := Kd.R_slice HO887.out; subst eo106) | ((with_reducible refine gate_callee (f := 21) rfl ?_); refine goesL_ (some 60) rfl rfl Tryd.func21 (by kernel_rfl) rfl #[.slice Ao34 t872.length co34, .slice Ao106 t885.length co106] rfl lz ?_; (with_reducible refine (laws_eqInt64S.calls kj15 _ _ t872 _ _ t885 false _ ?side1 ?side2 ?side3 ?side4 A47.out).mono ?_); (case side1 => have q_ := Aside0.mk (Kd.R_reads' HO_9.out).2.2; exact cQ q_); (case side2 => exact (Kd.R_reads' HO_9.out).2.1); (case side3 => have q_ := Aside0.mk (Kd.R_reads' HO887.out).2.2; exact cQ q_); (case side4 => exact (Kd.R_reads' HO887.out).2.1); rintro e w' ⟨rfl, ⟨nd, rfl⟩⟩; refine ⟨_, rfl, ?_⟩))
        go_ret
        exact ⟨rz, beQ HB⟩
      ·replace c45 := Bool.eq_false_iff.mpr c45
       subst c45
       have H1 : (some false) = some r := by rw [if_neg (show ¬ (false = true) by decide)] at H; exact H
       clear H; have H := H1; clear H1
       obtain rfl := Option.some.inj H
       try go_wp2
       replace HO_6 := Aside0.mk (Kd.R_drew HO_6.out); replace HO_9 := Aside0.mk (Kd.R_drew HO_9.out); replace HO_10 := Aside0.mk (Kd.R_drew HO_10.out); replace HO_872001 := Aside0.mk (Kd.R_drew HO_872001.out); replace BK854 := Aside0.mk (blk_drew BK854.out); replace BK871 := Aside0.mk (blk_drew BK871.out); replace HB := Aside0.mk (below_drew1 HB.out)
       refine start_ (n := 5) (S := fun w' => w'.cell? ⟨gb871, 0, none⟩ = some (.int .i64 t867) ∧ w'.cell? ⟨gb871, 1, none⟩ = some (.slice Ao31 t868.length co31) ∧ w'.cell? ⟨gb854, 0, none⟩ = some (.int .i64 a0_0) ∧ w'.cell? ⟨gb854, 1, none⟩ = some (.slice A0_1 l0_1.length c0_1)) (ds := []) #[false, false, false, false, false] (by kernel_rfl) rfl rfl ⟨bc BK871 0, bc BK871 1, bc BK854 0, bc BK854 1⟩ (fun hHeld => ?_)
       generalize wc.drew = w107 at HO_6 HO_9 HO_10 HO_872001 BK854 BK871 HB hHeld ⊢
       refine take_ (i := 0) (N := some 52) (v := ?_) (a' := ?_) #[true, false, false, false, false] rfl rfl (by kernel_rfl) (fun _ _ _ h => h) (Or.inl ⟨by rfl, ?_⟩) hHeld ?_ ?_
       rotate_left
       ·rintro w' ⟨s0, s1, s2, s3⟩
        go_simp
        with_reducible rfl
       rotate_left
       ·simp only [Act.put, s1, s2, s3, i64_w, i32_w]
        rfl
       refine take_ (i := 1) (N := some 53) (v := ?_) (a' := ?_) #[true, true, false, false, false] rfl rfl (by kernel_rfl) (fun _ _ _ h => h) (Or.inl ⟨by rfl, ?_⟩) hHeld ?_ ?_
       rotate_left
       ·rintro w' ⟨s0, s1, s2, s3⟩
        go_simp
        with_reducible rfl
       rotate_left
       ·simp only [Act.put, s1, s2, s3, i64_w, i32_w]
        rfl
       refine one_ (i := 2) (N := some 54) #[true, true, true, false, false] rfl rfl (by kernel_rfl) (by decide) (fun K hK => ?_)
       refine goes_ Tryd.func17 (by kernel_rfl) rfl #[.agg #[.int .i64 a0_0, .slice A0_1 l0_1.length c0_1]] (by rfl) rfl rfl lz ?_
       with_reducible refine (laws_toAlphabet.calls kj15 a0_0 _ _ l0_1 t880 t881 _ ?side1 ?side2 A43.out).mono ?_
       (case side1 => have q_ := Aside0.mk (Kd.C_below HR0_1.out HB.out); exact cQ q_)
       (case side2 => exact HC0_1.out)
       rintro e w108 ⟨v882, rfl, ho0, hb⟩
       refine ⟨_, rfl, ?_⟩
       have HO883 := Aside0.mk (Kd.R_lower (Kd.R_new' (Kd.R_new' (Kd.R_new' (Kd.R_new' ho0 (Kd.R_lt (kdQ HO_6))) (Kd.R_lt (kdQ HO_9))) (Kd.R_lt (kdQ HO_10))) (Kd.R_lt (kdQ HO_872001))) (below_size (beQ HB))); replace HO_6 := Aside0.mk (Kd.R_elder' (kdQ HO_6) (Kd.R_base ho0) hb); replace HO_9 := Aside0.mk (Kd.R_elder' (kdQ HO_9) (Kd.R_base ho0) hb); replace HO_10 := Aside0.mk (Kd.R_elder' (kdQ HO_10) (Kd.R_base ho0) hb); replace HO_872001 := Aside0.mk (Kd.R_elder' (kdQ HO_872001) (Kd.R_base ho0) hb); replace BK854 := bb BK854 hb; replace BK871 := bb BK871 hb; replace HB := Aside0.mk (below_step (beQ HB) hb)
       (try clear hb)
       (try clear hb2)
       (try clear hk)
       (try clear hi)
       (try clear ho0)
       obtain ⟨Ao109, co109, eo109⟩ := Kd.R_slice HO883.out
       (first | subst eo109 | (injection eo109 with f1_ f2_ f3_; have f4_ := f1_.symm; have f5_ := f3_.symm; clear f1_ f2_ f3_; subst f4_; subst f5_))
       refine hK.out _ _ ⟨bc BK871 0, bc BK871 1, bc BK854 0, bc BK854 1⟩ (fun hHeld => ?_)
       clear hK K
       refine norm_ (a' := ?_) ?_ ?_
       rotate_left
       ·show Act.put _ (some 54) _ = _
        simp only [Act.put, s1, s2, s3, i64_w, i32_w]
        rfl
       refine one_ (i := 3) (N := some 55) #[true, true, true, true, false] rfl rfl (by kernel_rfl) (by decide) (fun K hK => ?_)
       refine goes_ Tryd.func20 (by kernel_rfl) rfl #[.agg #[.int .i64 t867, .slice Ao31 t868.length co31], .agg #[.int .i64 t880, .slice Ao109 t881.length co109]] (by rfl) rfl rfl lz ?_
       with_reducible refine (laws_eqAlphabet.calls kj15 t867 _ _ t868 t880 _ _ t881 false _ ?side1 ?side2 ?side3 ?side4 A44.out).mono ?_
       (case side1 => have q_ := Aside0.mk (Kd.R_reads' HO_872001.out).2.2; exact cQ q_)
       (case side2 => exact (Kd.R_reads' HO_872001.out).2.1)
       (case side3 => have q_ := Aside0.mk (Kd.R_reads' HO883.out).2.2; exact cQ q_)
       (case side4 => exact (Kd.R_reads' HO883.out).2.1)
       rintro e w110 ⟨rfl, hb⟩
       refine ⟨_, rfl, ?_⟩
       replace HO_6 := kb HO_6 hb; replace HO_9 := kb HO_9 hb; replace HO_10 := kb HO_10 hb; replace HO_872001 := kb HO_872001 hb; replace HO883 := kb HO883 hb; replace BK854 := bb BK854 hb; replace BK871 := bb BK871 hb; replace HB := Aside0.mk (below_step (beQ HB) hb)
       (try clear hb)
       (try clear hb2)
       (try clear hk)
       (try clear hi)
       refine hK.out _ _ ⟨bc BK871 0, bc BK871 1, bc BK854 0, bc BK854 1⟩ (fun hHeld => ?_)
       clear hK K
       refine norm_ (a' := ?_) ?_ ?_
       rotate_left
       ·show Act.put _ (some 55) _ = _
        simp only [Act.put, s1, s2, s3, i64_w, i32_w]
        rfl
       refine pure_ (i := 4) (N := some 56) (v := ?_) (a' := ?_) #[true, true, true, true, true] rfl rfl (by kernel_rfl) (fun _ _ _ h => h) (Or.inl ⟨by rfl, ?_⟩) ?_ ?_
       rotate_left
       ·intro w'
        go_simp
        with_reducible rfl
       rotate_left
       ·simp only [Act.put, s1, s2, s3, i64_w, i32_w]
        rfl
       refine done_ (by kernel_rfl) ?_
       try go_wp2
       go_ret
       exact ⟨rz, beQ HB⟩

end Go.Proofs.YtlpodkpnoopnnaaDoor.G
