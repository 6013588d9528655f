/- How the program's functions compute, function by function: each is told by a plain Lean function of the same answers, under the condition that this one answers. Written by a program of this project over the seat's translation; Lean checks it. -/
import Derived.Test.YtlpodkpnoopnnaaDoorG0
import Derived.Test.YtlpodkpnoopnnaaDoorGQ00
import Derived.Test.YtlpodkpnoopnnaaDoorGQ07
import Derived.Test.YtlpodkpnoopnnaaDoorGQ08
namespace Go.Proofs.YtlpodkpnoopnnaaDoor.G
open Go.RowKit Go.Proofs.YtlpodkpnoopnnaaDoorW.PrintWords Go.Proofs.YtlpodkpnoopnnaaDoorW.PrintLast Go.Proofs.YtlpodkpnoopnnaaDoorW.PrintMore
attribute [local go_sem] max2_int min2_int max_two min_two max_three min_three max_four min_four   -- for this text's walks alone
set_option linter.unusedVariables false
set_option linter.unusedSimpArgs false

/-! ### laws_FnExactContentOf: function 4 -/
mutual
def laws_FnExactContentOf.j0 : Nat → List Int → List Int → Int → List Int → List Int → Int → Bool → Int → List Int → Int → List Int → Option (Bool)
 | 0, _, _, _, _, _, _, _, _, _, _, _ => none
 | k + 1, x1, x6, x7, x9, x10, x11, x51, x256000, x256001, x273000, x273001 => if x51 = true then (some false) else ((laws_toAlphabet.f k x256000 x256001).bind fun bt281 => ((laws_eqAlphabet.f k x273000 x273001 bt281.1 bt281.2).bind fun t285 => (if t285 = true then ((laws_toInt64S.f k x1).bind fun t286 => ((laws_eqInt64S.f k x9 t286).bind fun t289 => (if t289 = true then ((laws_markAlphabet.f k x273000 x273001 1).bind fun bt290 => ((laws_markInt64S.f k x9 bt290.1).bind fun bt292 => (if bt292.1 < 0 then (laws_FnExactContentOf.j1 k x1 x6 x7 x10 true x256000 x256001) else ((laws_eqInt64S.f k x10 x6).bind fun t294 => (if t294 = true then (laws_FnExactContentOf.j1 k x1 x6 x7 x10 (x11 != x7) x256000 x256001) else (laws_FnExactContentOf.j1 k x1 x6 x7 x10 true x256000 x256001)))))) else (some false)))) else (some false))))
def laws_FnExactContentOf.j1 : Nat → List Int → List Int → Int → List Int → Bool → Int → List Int → Option (Bool)
 | 0, _, _, _, _, _, _, _ => none
 | k + 1, x1, x6, x7, x10, x80, x256000, x256001 => if x80 = true then (some false) else ((laws_markInt64S.f k x10 1).bind fun bt295 => ((laws_heldInt64S.f k bt295.2 1).bind fun t297 => (if t297 < 0 then (some false) else (if t297 = bt295.1 then ((laws_toAlphabet.f k x256000 x256001).bind fun bt298 => ((laws_toInt64S.f k x1).bind fun t302 => ((impl_ContentOf.f k bt298.1 bt298.2 t302).bind fun bt305 => ((laws_eqInt64S.f k bt305.1 x6).bind fun t309 => (if t309 = true then (laws_FnExactContentOf.j2 k bt295.2 bt295.1 (bt305.2 != x7)) else (laws_FnExactContentOf.j2 k bt295.2 bt295.1 true)))))) else (some false)))))
def laws_FnExactContentOf.j2 : Nat → List Int → Int → Bool → Option (Bool)
 | 0, _, _, _ => none
 | k + 1, x10, x13, x108 => if x108 = true then (some false) else ((laws_heldInt64S.f k x10 1).bind fun t310 => (if t310 < 0 then (some false) else (if t310 = x13 then (some true) else (some false))))
end
def laws_FnExactContentOf.f (k : Nat) (a0_0 : Int) (l0_1 : List Int) (l1 : List Int) : Option (Bool) := if (l1.length : Int) > 1048576 then (some true) else ((laws_szAlphabet.f a0_0 l0_1 1048576).bind fun t256 => (if t256 < 0 then (some true) else ((laws_toAlphabet.f k a0_0 l0_1).bind fun bt257 => ((laws_toInt64S.f k l1).bind fun t261 => ((spec_ContentOf.f k bt257.1 bt257.2 t261).bind fun bt264 => ((laws_toAlphabet.f k a0_0 l0_1).bind fun bt268 => ((laws_toInt64S.f k l1).bind fun t273 => ((impl_ContentOf.f k bt268.1 bt268.2 t273).bind fun bt276 => ((laws_eqInt64S.f k bt276.1 bt264.1).bind fun t280 => (if t280 = true then (laws_FnExactContentOf.j0 k l1 bt264.1 bt264.2 t273 bt276.1 bt276.2 (bt276.2 != bt264.2) a0_0 l0_1 bt268.1 bt268.2) else (laws_FnExactContentOf.j0 k l1 bt264.1 bt264.2 t273 bt276.1 bt276.2 true a0_0 l0_1 bt268.1 bt268.2)))))))))))
theorem laws_FnExactContentOf.mono_l : ∀ k, (∀ y0 y1 y2 y3 y4 y5 y6 y7 y8 y9 y10, LeO (laws_FnExactContentOf.j0 k y0 y1 y2 y3 y4 y5 y6 y7 y8 y9 y10) (laws_FnExactContentOf.j0 (k + 1) y0 y1 y2 y3 y4 y5 y6 y7 y8 y9 y10)) ∧ (∀ y0 y1 y2 y3 y4 y5 y6, LeO (laws_FnExactContentOf.j1 k y0 y1 y2 y3 y4 y5 y6) (laws_FnExactContentOf.j1 (k + 1) y0 y1 y2 y3 y4 y5 y6)) ∧ (∀ y0 y1 y2, LeO (laws_FnExactContentOf.j2 k y0 y1 y2) (laws_FnExactContentOf.j2 (k + 1) y0 y1 y2))
 | 0 => ⟨fun _ _ _ _ _ _ _ _ _ _ _ r h => by simp [laws_FnExactContentOf.j0] at h, fun _ _ _ _ _ _ _ r h => by simp [laws_FnExactContentOf.j1] at h, fun _ _ _ r h => by simp [laws_FnExactContentOf.j2] at h⟩
 | k + 1 => by
  obtain ⟨ih0, ih1, ih2⟩ := laws_FnExactContentOf.mono_l k
  refine ⟨?_, ?_, ?_⟩
  ·intro y0 y1 y2 y3 y4 y5 y6 y7 y8 y9 y10
   unfold laws_FnExactContentOf.j0
   repeat' first
   | (with_reducible exact ih0 _ _ _ _ _ _ _ _ _ _ _)
   | (with_reducible exact ih1 _ _ _ _ _ _ _)
   | (with_reducible exact ih2 _ _ _)
   | (with_reducible exact impl_ContentOf.mono _ _ _ _)
   | (with_reducible exact laws_eqAlphabet.mono _ _ _ _ _)
   | (with_reducible exact laws_eqInt64S.mono _ _ _)
   | (with_reducible exact laws_heldInt64S.mono _ _ _)
   | (with_reducible exact laws_markAlphabet.mono _ _ _ _)
   | (with_reducible exact laws_markInt64S.mono _ _ _)
   | (with_reducible exact laws_toAlphabet.mono _ _ _)
   | (with_reducible exact laws_toInt64S.mono _ _)
   | (with_reducible exact spec_ContentOf.mono _ _ _ _)
   | (with_reducible exact LeO.refl _)
   | (with_reducible exact LeO.none _)
   | (with_reducible refine LeO.ite ?_ ?_)
   | (with_reducible refine LeO.bind ?_ (fun _ => ?_))
   | exact ih0 _ _ _ _ _ _ _ _ _ _ _
   | exact ih1 _ _ _ _ _ _ _
   | exact ih2 _ _ _
   | exact impl_ContentOf.mono _ _ _ _
   | exact laws_eqAlphabet.mono _ _ _ _ _
   | exact laws_eqInt64S.mono _ _ _
   | exact laws_heldInt64S.mono _ _ _
   | exact laws_markAlphabet.mono _ _ _ _
   | exact laws_markInt64S.mono _ _ _
   | exact laws_toAlphabet.mono _ _ _
   | exact laws_toInt64S.mono _ _
   | exact spec_ContentOf.mono _ _ _ _
   | exact LeO.none _
   | refine LeO.ite ?_ ?_
   | refine LeO.bind ?_ (fun _ => ?_)
  ·intro y0 y1 y2 y3 y4 y5 y6
   unfold laws_FnExactContentOf.j1
   repeat' first
   | (with_reducible exact ih0 _ _ _ _ _ _ _ _ _ _ _)
   | (with_reducible exact ih1 _ _ _ _ _ _ _)
   | (with_reducible exact ih2 _ _ _)
   | (with_reducible exact impl_ContentOf.mono _ _ _ _)
   | (with_reducible exact laws_eqAlphabet.mono _ _ _ _ _)
   | (with_reducible exact laws_eqInt64S.mono _ _ _)
   | (with_reducible exact laws_heldInt64S.mono _ _ _)
   | (with_reducible exact laws_markAlphabet.mono _ _ _ _)
   | (with_reducible exact laws_markInt64S.mono _ _ _)
   | (with_reducible exact laws_toAlphabet.mono _ _ _)
   | (with_reducible exact laws_toInt64S.mono _ _)
   | (with_reducible exact spec_ContentOf.mono _ _ _ _)
   | (with_reducible exact LeO.refl _)
   | (with_reducible exact LeO.none _)
   | (with_reducible refine LeO.ite ?_ ?_)
   | (with_reducible refine LeO.bind ?_ (fun _ => ?_))
   | exact ih0 _ _ _ _ _ _ _ _ _ _ _
   | exact ih1 _ _ _ _ _ _ _
   | exact ih2 _ _ _
   | exact impl_ContentOf.mono _ _ _ _
   | exact laws_eqAlphabet.mono _ _ _ _ _
   | exact laws_eqInt64S.mono _ _ _
   | exact laws_heldInt64S.mono _ _ _
   | exact laws_markAlphabet.mono _ _ _ _
   | exact laws_markInt64S.mono _ _ _
   | exact laws_toAlphabet.mono _ _ _
   | exact laws_toInt64S.mono _ _
   | exact spec_ContentOf.mono _ _ _ _
   | exact LeO.none _
   | refine LeO.ite ?_ ?_
   | refine LeO.bind ?_ (fun _ => ?_)
  ·intro y0 y1 y2
   unfold laws_FnExactContentOf.j2
   repeat' first
   | (with_reducible exact ih0 _ _ _ _ _ _ _ _ _ _ _)
   | (with_reducible exact ih1 _ _ _ _ _ _ _)
   | (with_reducible exact ih2 _ _ _)
   | (with_reducible exact impl_ContentOf.mono _ _ _ _)
   | (with_reducible exact laws_eqAlphabet.mono _ _ _ _ _)
   | (with_reducible exact laws_eqInt64S.mono _ _ _)
   | (with_reducible exact laws_heldInt64S.mono _ _ _)
   | (with_reducible exact laws_markAlphabet.mono _ _ _ _)
   | (with_reducible exact laws_markInt64S.mono _ _ _)
   | (with_reducible exact laws_toAlphabet.mono _ _ _)
   | (with_reducible exact laws_toInt64S.mono _ _)
   | (with_reducible exact spec_ContentOf.mono _ _ _ _)
   | (with_reducible exact LeO.refl _)
   | (with_reducible exact LeO.none _)
   | (with_reducible refine LeO.ite ?_ ?_)
   | (with_reducible refine LeO.bind ?_ (fun _ => ?_))
   | exact ih0 _ _ _ _ _ _ _ _ _ _ _
   | exact ih1 _ _ _ _ _ _ _
   | exact ih2 _ _ _
   | exact impl_ContentOf.mono _ _ _ _
   | exact laws_eqAlphabet.mono _ _ _ _ _
   | exact laws_eqInt64S.mono _ _ _
   | exact laws_heldInt64S.mono _ _ _
   | exact laws_markAlphabet.mono _ _ _ _
   | exact laws_markInt64S.mono _ _ _
   | exact laws_toAlphabet.mono _ _ _
   | exact laws_toInt64S.mono _ _
   | exact spec_ContentOf.mono _ _ _ _
   | exact LeO.none _
   | refine LeO.ite ?_ ?_
   | refine LeO.bind ?_ (fun _ => ?_)
theorem laws_FnExactContentOf.mono : ∀ a0 a1 a2 k, LeO (laws_FnExactContentOf.f k a0 a1 a2) (laws_FnExactContentOf.f (k + 1) a0 a1 a2) := by
 intro a0 a1 a2 k
 obtain ⟨ih0, ih1, ih2⟩ := laws_FnExactContentOf.mono_l k
 unfold laws_FnExactContentOf.f
 repeat' first
   | (with_reducible exact ih0 _ _ _ _ _ _ _ _ _ _ _)
   | (with_reducible exact ih1 _ _ _ _ _ _ _)
   | (with_reducible exact ih2 _ _ _)
   | (with_reducible exact impl_ContentOf.mono _ _ _ _)
   | (with_reducible exact laws_eqAlphabet.mono _ _ _ _ _)
   | (with_reducible exact laws_eqInt64S.mono _ _ _)
   | (with_reducible exact laws_heldInt64S.mono _ _ _)
   | (with_reducible exact laws_markAlphabet.mono _ _ _ _)
   | (with_reducible exact laws_markInt64S.mono _ _ _)
   | (with_reducible exact laws_toAlphabet.mono _ _ _)
   | (with_reducible exact laws_toInt64S.mono _ _)
   | (with_reducible exact spec_ContentOf.mono _ _ _ _)
   | (with_reducible exact LeO.refl _)
   | (with_reducible exact LeO.none _)
   | (with_reducible refine LeO.ite ?_ ?_)
   | (with_reducible refine LeO.bind ?_ (fun _ => ?_))
   | exact ih0 _ _ _ _ _ _ _ _ _ _ _
   | exact ih1 _ _ _ _ _ _ _
   | exact ih2 _ _ _
   | exact impl_ContentOf.mono _ _ _ _
   | exact laws_eqAlphabet.mono _ _ _ _ _
   | exact laws_eqInt64S.mono _ _ _
   | exact laws_heldInt64S.mono _ _ _
   | exact laws_markAlphabet.mono _ _ _ _
   | exact laws_markInt64S.mono _ _ _
   | exact laws_toAlphabet.mono _ _ _
   | exact laws_toInt64S.mono _ _
   | exact spec_ContentOf.mono _ _ _ _
   | exact LeO.none _
   | refine LeO.ite ?_ ?_
   | refine LeO.bind ?_ (fun _ => ?_)
set_option maxHeartbeats 8000000 in
set_option maxRecDepth 100000 in
theorem laws_FnExactContentOf.calls (k : Nat) (a0_0 : Int) (A0_1 : Option Addr) (c0_1 : Nat) (l0_1 : List Int) (A1 : Option Addr) (c1 : Nat) (l1 : List Int) (r : Bool) (w : World) (hr0_1 : Kd.C (Kd.int .i64) w A0_1 l0_1.length l0_1) (hc0_1 : l0_1.length ≤ c0_1) (hr1 : Kd.C (Kd.int .i64) w A1 l1.length l1) (hc1 : l1.length ≤ c1) (hT : TabW w) (h : laws_FnExactContentOf.f k a0_0 l0_1 l1 = some r) :
  Calls Tryd.prog 4 #[.agg #[.int .i64 a0_0, .slice A0_1 l0_1.length c0_1], .slice A1 l1.length c1] w fun e w' => e = .returned (.bool r) ∧ Below w.heap.size w w' := by
 have hu24 := Tryd.underlying24; have hu28 := Tryd.underlying28; have HT := Aside0.mk hT; clear hT; have HR0_1 := Aside0.mk hr0_1; have HC0_1 := Aside0.mk hc0_1; clear hr0_1 hc0_1; have HR1 := Aside0.mk hr1; have HC1 := Aside0.mk hc1; clear hr1 hc1; have HB := Aside0.mk (Below.refl w.heap.size w)
 have H : (if (l1.length : Int) > 1048576 then (some true) else ((laws_szAlphabet.f a0_0 l0_1 1048576).bind fun t256 => (if t256 < 0 then (some true) else ((laws_toAlphabet.f k a0_0 l0_1).bind fun bt257 => ((laws_toInt64S.f k l1).bind fun t261 => ((spec_ContentOf.f k bt257.1 bt257.2 t261).bind fun bt264 => ((laws_toAlphabet.f k a0_0 l0_1).bind fun bt268 => ((laws_toInt64S.f k l1).bind fun t273 => ((impl_ContentOf.f k bt268.1 bt268.2 t273).bind fun bt276 => ((laws_eqInt64S.f k bt276.1 bt264.1).bind fun t280 => (if t280 = true then (laws_FnExactContentOf.j0 k l1 bt264.1 bt264.2 t273 bt276.1 bt276.2 (bt276.2 != bt264.2) a0_0 l0_1 bt268.1 bt268.2) else (laws_FnExactContentOf.j0 k l1 bt264.1 bt264.2 t273 bt276.1 bt276.2 true a0_0 l0_1 bt268.1 bt268.2)))))))))))) = some r := h
 clear h
 by_cases c3 : (l1.length : Int) > 1048576
 ·rw [if_pos c3] at H
  have c3b0 : decide (1048576 < (l1.length : Int)) = true := decide_eq_true c3
  have c3b1 : decide (1048576 < l1.length) = true := decide_eq_true (by omega)
  clear c3
  obtain rfl := Option.some.inj H
  go_enter Tryd.func4, Tryd.ntmps4
  go_wp2_with (first | ((with_reducible refine gate_dst (N := 2) rfl ?_); refine box_event ?hg (N := 2) ?hd (cs := #[.int .i64 a0_0, .slice A0_1 l0_1.length c0_1]) (t := 24) ?hr ?_; (case hd => rfl); (case hg => rfl); (case hr => first | (go_simp; done) | (go_simp; rfl)); intro gb255 hg w4 hbox hb; have BK255 := Aside0.mk (hbox); have GW255 := Aside0.mk ((by rw [hg]; exact (below_size (beQ HB)) : w.heap.size ≤ gb255)); have GE255 := Aside0.mk ((by rw [hg]; exact (below_size (beQ HB)) : w.heap.size ≤ gb255)); replace HB := Aside0.mk (below_step (beQ HB) hb); clear hb hbox hg))
  go_ret
  exact ⟨rz, beQ HB⟩
 ·rw [if_neg c3] at H
  have c3b0 : decide (1048576 < (l1.length : Int)) = false := decide_eq_false c3
  have c3b1 : decide (1048576 < l1.length) = false := decide_eq_false (by omega)
  clear c3; replace H := Option.bind_eq_some_iff.mp H; obtain ⟨t256, A50, H⟩ := H
  replace H : (if t256 < 0 then (some true) else ((laws_toAlphabet.f k a0_0 l0_1).bind fun bt257 => ((laws_toInt64S.f k l1).bind fun t261 => ((spec_ContentOf.f k bt257.1 bt257.2 t261).bind fun bt264 => ((laws_toAlphabet.f k a0_0 l0_1).bind fun bt268 => ((laws_toInt64S.f k l1).bind fun t273 => ((impl_ContentOf.f k bt268.1 bt268.2 t273).bind fun bt276 => ((laws_eqInt64S.f k bt276.1 bt264.1).bind fun t280 => (if t280 = true then (laws_FnExactContentOf.j0 k l1 bt264.1 bt264.2 t273 bt276.1 bt276.2 (bt276.2 != bt264.2) a0_0 l0_1 bt268.1 bt268.2) else (laws_FnExactContentOf.j0 k l1 bt264.1 bt264.2 t273 bt276.1 bt276.2 true a0_0 l0_1 bt268.1 bt268.2)))))))))) = some r := H
  have A5 := Aside0.mk A50; clear A50
  by_cases c6 : t256 < 0
  ·rw [if_pos c6] at H
   have c6b0 : decide (t256 < 0) = true := decide_eq_true c6
   clear c6
   obtain rfl := Option.some.inj H
   go_enter Tryd.func4, Tryd.ntmps4
   go_wp2_with (first | ((with_reducible refine gate_dst (N := 2) rfl ?_); refine box_event ?hg (N := 2) ?hd (cs := #[.int .i64 a0_0, .slice A0_1 l0_1.length c0_1]) (t := 24) ?hr ?_; (case hd => rfl); (case hg => rfl); (case hr => first | (go_simp; done) | (go_simp; rfl)); intro gb255 hg w7 hbox hb; have BK255 := Aside0.mk (hbox); have GW255 := Aside0.mk ((by rw [hg]; exact (below_size (beQ HB)) : w.heap.size ≤ gb255)); have GE255 := Aside0.mk ((by rw [hg]; exact (below_size (beQ HB)) : w.heap.size ≤ gb255)); replace HB := Aside0.mk (below_step (beQ HB) hb); clear hb hbox hg; have hcz8_0 : w7.cell? ⟨gb255, 0, none⟩ = some (.int .i64 a0_0) := bc BK255 0; have hcz8_1 : w7.cell? ⟨gb255, 1, none⟩ = some (.slice A0_1 l0_1.length c0_1) := bc BK255 1; have hfz8_0 := blk_frozen BK255.out 0; have hfz8_1 := blk_frozen BK255.out 1) | ((with_reducible refine gate_callee (f := 15) rfl ?_); refine goesL_ (some 22) rfl rfl Tryd.func15 (by kernel_rfl) rfl #[.agg #[.int .i64 a0_0, .slice A0_1 l0_1.length c0_1], .int .i64 1048576] rfl lz ?_; (with_reducible refine (laws_szAlphabet.calls a0_0 _ _ l0_1 1048576 t256 _ ?side1 ?side2 A5.out).mono ?_); (case side1 => have q_ := Aside0.mk (Kd.C_below HR0_1.out HB.out); exact cQ q_); (case side2 => exact HC0_1.out); rintro e w9 ⟨rfl, hb⟩; refine ⟨_, rfl, ?_⟩; replace BK255 := bb BK255 hb; replace HB := Aside0.mk (below_step (beQ HB) hb); (try clear hb); (try clear hb2); (try clear hk); (try clear hi)))
   go_ret
   exact ⟨rz, beQ HB⟩
  ·rw [if_neg c6] at H
   have c6b0 : decide (t256 < 0) = false := decide_eq_false c6
   clear c6; replace H := Option.bind_eq_some_iff.mp H
   obtain ⟨⟨t257, t258⟩, A100, H⟩ := H
   replace H : ((laws_toInt64S.f k l1).bind fun t261 => ((spec_ContentOf.f k t257 t258 t261).bind fun bt264 => ((laws_toAlphabet.f k a0_0 l0_1).bind fun bt268 => ((laws_toInt64S.f k l1).bind fun t273 => ((impl_ContentOf.f k bt268.1 bt268.2 t273).bind fun bt276 => ((laws_eqInt64S.f k bt276.1 bt264.1).bind fun t280 => (if t280 = true then (laws_FnExactContentOf.j0 k l1 bt264.1 bt264.2 t273 bt276.1 bt276.2 (bt276.2 != bt264.2) a0_0 l0_1 bt268.1 bt268.2) else (laws_FnExactContentOf.j0 k l1 bt264.1 bt264.2 t273 bt276.1 bt276.2 true a0_0 l0_1 bt268.1 bt268.2)))))))) = some r := H
   have A10 := Aside0.mk A100; clear A100; replace H := Option.bind_eq_some_iff.mp H; obtain ⟨t261, A110, H⟩ := H
   replace H : ((spec_ContentOf.f k t257 t258 t261).bind fun bt264 => ((laws_toAlphabet.f k a0_0 l0_1).bind fun bt268 => ((laws_toInt64S.f k l1).bind fun t273 => ((impl_ContentOf.f k bt268.1 bt268.2 t273).bind fun bt276 => ((laws_eqInt64S.f k bt276.1 bt264.1).bind fun t280 => (if t280 = true then (laws_FnExactContentOf.j0 k l1 bt264.1 bt264.2 t273 bt276.1 bt276.2 (bt276.2 != bt264.2) a0_0 l0_1 bt268.1 bt268.2) else (laws_FnExactContentOf.j0 k l1 bt264.1 bt264.2 t273 bt276.1 bt276.2 true a0_0 l0_1 bt268.1 bt268.2))))))) = some r := H
   have A11 := Aside0.mk A110; clear A110; replace H := Option.bind_eq_some_iff.mp H
   obtain ⟨⟨t264, t267⟩, A120, H⟩ := H
   replace H : ((laws_toAlphabet.f k a0_0 l0_1).bind fun bt268 => ((laws_toInt64S.f k l1).bind fun t273 => ((impl_ContentOf.f k bt268.1 bt268.2 t273).bind fun bt276 => ((laws_eqInt64S.f k bt276.1 t264).bind fun t280 => (if t280 = true then (laws_FnExactContentOf.j0 k l1 t264 t267 t273 bt276.1 bt276.2 (bt276.2 != t267) a0_0 l0_1 bt268.1 bt268.2) else (laws_FnExactContentOf.j0 k l1 t264 t267 t273 bt276.1 bt276.2 true a0_0 l0_1 bt268.1 bt268.2)))))) = some r := H
   have A12 := Aside0.mk A120; clear A120; replace H := Option.bind_eq_some_iff.mp H
   obtain ⟨⟨t268, t269⟩, A130, H⟩ := H
   replace H : ((laws_toInt64S.f k l1).bind fun t273 => ((impl_ContentOf.f k t268 t269 t273).bind fun bt276 => ((laws_eqInt64S.f k bt276.1 t264).bind fun t280 => (if t280 = true then (laws_FnExactContentOf.j0 k l1 t264 t267 t273 bt276.1 bt276.2 (bt276.2 != t267) a0_0 l0_1 t268 t269) else (laws_FnExactContentOf.j0 k l1 t264 t267 t273 bt276.1 bt276.2 true a0_0 l0_1 t268 t269))))) = some r := H
   have A13 := Aside0.mk A130; clear A130; replace H := Option.bind_eq_some_iff.mp H; obtain ⟨t273, A140, H⟩ := H
   replace H : ((impl_ContentOf.f k t268 t269 t273).bind fun bt276 => ((laws_eqInt64S.f k bt276.1 t264).bind fun t280 => (if t280 = true then (laws_FnExactContentOf.j0 k l1 t264 t267 t273 bt276.1 bt276.2 (bt276.2 != t267) a0_0 l0_1 t268 t269) else (laws_FnExactContentOf.j0 k l1 t264 t267 t273 bt276.1 bt276.2 true a0_0 l0_1 t268 t269)))) = some r := H
   have A14 := Aside0.mk A140; clear A140; replace H := Option.bind_eq_some_iff.mp H
   obtain ⟨⟨t276, t279⟩, A150, H⟩ := H
   replace H : ((laws_eqInt64S.f k t276 t264).bind fun t280 => (if t280 = true then (laws_FnExactContentOf.j0 k l1 t264 t267 t273 t276 t279 (t279 != t267) a0_0 l0_1 t268 t269) else (laws_FnExactContentOf.j0 k l1 t264 t267 t273 t276 t279 true a0_0 l0_1 t268 t269))) = some r := H
   have A15 := Aside0.mk A150; clear A150; have HC16 := Aside0.mk H; clear H
   go_enter Tryd.func4, Tryd.ntmps4
   go_upto_region 11 with (first | ((with_reducible refine gate_dst (N := 2) rfl ?_); refine box_event ?hg (N := 2) ?hd (cs := #[.int .i64 a0_0, .slice A0_1 l0_1.length c0_1]) (t := 24) ?hr ?_; (case hd => rfl); (case hg => rfl); (case hr => first | (go_simp; done) | (go_simp; rfl)); intro gb255 hg w17 hbox hb; have BK255 := Aside0.mk (hbox); have GW255 := Aside0.mk ((by rw [hg]; exact (below_size (beQ HB)) : w.heap.size ≤ gb255)); have GE255 := Aside0.mk ((by rw [hg]; exact (below_size (beQ HB)) : w.heap.size ≤ gb255)); replace HB := Aside0.mk (below_step (beQ HB) hb); clear hb hbox hg; have hcz18_0 : w17.cell? ⟨gb255, 0, none⟩ = some (.int .i64 a0_0) := bc BK255 0; have hcz18_1 : w17.cell? ⟨gb255, 1, none⟩ = some (.slice A0_1 l0_1.length c0_1) := bc BK255 1; have hfz18_0 := blk_frozen BK255.out 0; have hfz18_1 := blk_frozen BK255.out 1) | ((with_reducible refine gate_callee (f := 15) rfl ?_); refine goesL_ (some 22) rfl rfl Tryd.func15 (by kernel_rfl) rfl #[.agg #[.int .i64 a0_0, .slice A0_1 l0_1.length c0_1], .int .i64 1048576] rfl lz ?_; (with_reducible refine (laws_szAlphabet.calls a0_0 _ _ l0_1 1048576 t256 _ ?side1 ?side2 A5.out).mono ?_); (case side1 => have q_ := Aside0.mk (Kd.C_below HR0_1.out HB.out); exact cQ q_); (case side2 => exact HC0_1.out); rintro e w19 ⟨rfl, hb⟩; refine ⟨_, rfl, ?_⟩; replace BK255 := bb BK255 hb; replace HB := Aside0.mk (below_step (beQ HB) hb); (try clear hb); (try clear hb2); (try clear hk); (try clear hi); have hcz20_0 : w19.cell? ⟨gb255, 0, none⟩ = some (.int .i64 a0_0) := bc BK255 0; have hcz20_1 : w19.cell? ⟨gb255, 1, none⟩ = some (.slice A0_1 l0_1.length c0_1) := bc BK255 1; have hfz20_0 := blk_frozen BK255.out 0; have hfz20_1 := blk_frozen BK255.out 1) | ((with_reducible refine gate_callee (f := 17) rfl ?_); refine goesL_ (some 27) rfl rfl Tryd.func17 (by kernel_rfl) rfl #[.agg #[.int .i64 a0_0, .slice A0_1 l0_1.length c0_1]] rfl lz ?_; (with_reducible refine (laws_toAlphabet.calls k a0_0 _ _ l0_1 t257 t258 _ ?side1 ?side2 A10.out).mono ?_); (case side1 => have q_ := Aside0.mk (Kd.C_below HR0_1.out HB.out); exact cQ q_); (case side2 => exact HC0_1.out); rintro e w21 ⟨v259, rfl, ho0, hb⟩; refine ⟨_, rfl, ?_⟩; have HO260 := Aside0.mk (Kd.R_lower ho0 (below_size (beQ HB))); replace BK255 := bb BK255 hb; replace HB := Aside0.mk (below_step (beQ HB) hb); (try clear hb); (try clear hb2); (try clear hk); (try clear hi); (try clear ho0)) | ((with_reducible refine gate_callee (f := 18) rfl ?_); refine goesL_ (some 29) rfl rfl Tryd.func18 (by kernel_rfl) rfl #[.slice A1 l1.length c1] rfl lz ?_; (with_reducible refine (laws_toInt64S.calls k _ _ l1 t261 _ ?side1 ?side2 A11.out).mono ?_); (case side1 => have q_ := Aside0.mk (Kd.C_below HR1.out HB.out); exact cQ q_); (case side2 => exact HC1.out); rintro e w22 ⟨v262, rfl, ho0, hb⟩; refine ⟨_, rfl, ?_⟩; have HO263 := Aside0.mk (Kd.R_lower (Kd.R_new' ho0 (Kd.R_lt (kdQ HO260))) (below_size (beQ HB))); replace HO260 := Aside0.mk (Kd.R_elder' (kdQ HO260) (Kd.R_base ho0) hb); replace BK255 := bb BK255 hb; replace HB := Aside0.mk (below_step (beQ HB) hb); (try clear hb); (try clear hb2); (try clear hk); (try clear hi); (try clear ho0); obtain ⟨Ao23, co23, eo23⟩ := Kd.R_slice HO260.out; subst eo23; obtain ⟨Ao24, co24, eo24⟩ := Kd.R_slice HO263.out; subst eo24) | ((with_reducible refine gate_callee (f := 22) rfl ?_); refine goesL_ (some 30) rfl rfl Tryd.func22 (by kernel_rfl) rfl #[.agg #[.int .i64 t257, .slice Ao23 t258.length co23], .slice Ao24 t261.length co24] rfl lz ?_; (with_reducible refine (spec_ContentOf.calls k t257 _ _ t258 _ _ t261 t264 t267 _ ?side1 ?side2 ?side3 ?side4 A12.out).mono ?_); (case side1 => have q_ := Aside0.mk (Kd.R_reads' HO260.out).2.2; exact cQ q_); (case side2 => exact (Kd.R_reads' HO260.out).2.1); (case side3 => have q_ := Aside0.mk (Kd.R_reads' HO263.out).2.2; exact cQ q_); (case side4 => exact (Kd.R_reads' HO263.out).2.1); rintro e w25 ⟨v265, rfl, ho0, hb⟩; refine ⟨_, rfl, ?_⟩; have HO266 := Aside0.mk (Kd.R_lower (Kd.R_new' (Kd.R_new' ho0 (Kd.R_lt (kdQ HO260))) (Kd.R_lt (kdQ HO263))) (below_size (beQ HB))); replace HO260 := Aside0.mk (Kd.R_elder' (kdQ HO260) (Kd.R_base ho0) hb); replace HO263 := Aside0.mk (Kd.R_elder' (kdQ HO263) (Kd.R_base ho0) hb); replace BK255 := bb BK255 hb; replace HB := Aside0.mk (below_step (beQ HB) hb); (try clear hb); (try clear hb2); (try clear hk); (try clear hi); (try clear ho0); have hcz26_0 : w25.cell? ⟨gb255, 0, none⟩ = some (.int .i64 a0_0) := bc BK255 0; have hcz26_1 : w25.cell? ⟨gb255, 1, none⟩ = some (.slice A0_1 l0_1.length c0_1) := bc BK255 1; have hfz26_0 := blk_frozen BK255.out 0; have hfz26_1 := blk_frozen BK255.out 1) | ((with_reducible refine gate_callee (f := 17) rfl ?_); refine goesL_ (some 34) rfl rfl Tryd.func17 (by kernel_rfl) rfl #[.agg #[.int .i64 a0_0, .slice A0_1 l0_1.length c0_1]] rfl lz ?_; (with_reducible refine (laws_toAlphabet.calls k a0_0 _ _ l0_1 t268 t269 _ ?side1 ?side2 A13.out).mono ?_); (case side1 => have q_ := Aside0.mk (Kd.C_below HR0_1.out HB.out); exact cQ q_); (case side2 => exact HC0_1.out); rintro e w27 ⟨v270, rfl, ho0, hb⟩; refine ⟨_, rfl, ?_⟩; have HO271 := Aside0.mk (Kd.R_lower (Kd.R_new' (Kd.R_new' (Kd.R_new' ho0 (Kd.R_lt (kdQ HO260))) (Kd.R_lt (kdQ HO263))) (Kd.R_lt (kdQ HO266))) (below_size (beQ HB))); replace HO260 := Aside0.mk (Kd.R_elder' (kdQ HO260) (Kd.R_base ho0) hb); replace HO263 := Aside0.mk (Kd.R_elder' (kdQ HO263) (Kd.R_base ho0) hb); replace HO266 := Aside0.mk (Kd.R_elder' (kdQ HO266) (Kd.R_base ho0) hb); replace BK255 := bb BK255 hb; replace HB := Aside0.mk (below_step (beQ HB) hb); (try clear hb); (try clear hb2); (try clear hk); (try clear hi); (try clear ho0)) | ((with_reducible refine gate_dst (N := 8) rfl ?_); refine box_event ?hg (N := 8) ?hd (cs := #[.int .i64 0, .slice none 0 0]) (t := 28) ?hr ?_; (case hd => rfl); (case hg => rfl); (case hr => first | (go_simp; done) | (go_simp; rfl)); intro gb272 hg w28 hbox hb; replace HO260 := kb HO260 hb; replace HO263 := kb HO263 hb; replace HO266 := kb HO266 hb; replace HO271 := kb HO271 hb; have BK272 := Aside0.mk (hbox); have GW272 := Aside0.mk ((by rw [hg]; exact (below_size (beQ HB)) : w.heap.size ≤ gb272)); have GE272 := Aside0.mk ((by rw [hg]; exact (below_size (beQ HB)) : w.heap.size ≤ gb272)); replace HB := Aside0.mk (below_step (beQ HB) hb); have NB255_272 := Aside0.mk ((by rw [hg]; exact Nat.ne_of_lt (blk_lt (blkQ BK255)) : gb255 ≠ gb272)); have NB272_255 := Aside0.mk ((by rw [hg]; exact Nat.ne_of_gt (blk_lt (blkQ BK255)) : gb272 ≠ gb255)); replace BK255 := bb BK255 hb; clear hb hbox hg; have hnb29 := NB272_255.out; have hnc29 := NB255_272.out; have hcz30_0 : w28.cell? ⟨gb272, 0, none⟩ = some (.int .i64 0) := bc BK272 0; have hcz30_1 : w28.cell? ⟨gb272, 1, none⟩ = some (.slice none 0 0) := bc BK272 1; have hfz30_0 := blk_frozen BK272.out 0; have hfz30_1 := blk_frozen BK272.out 1; obtain ⟨Ao31, co31, eo31⟩ := Kd.R_slice HO271.out; subst eo31) | ((with_reducible refine gate_callee (f := 18) rfl ?_); refine goesL_ (some 36) rfl rfl Tryd.func18 (by kernel_rfl) rfl #[.slice A1 l1.length c1] rfl lz ?_; (with_reducible refine (laws_toInt64S.calls k _ _ l1 t273 _ ?side1 ?side2 A14.out).mono ?_); (case side1 => exact Kd.C_below HR1.out (beQ HB)); (case side2 => exact HC1.out); rintro e w32 ⟨v274, rfl, ho0, hb⟩; refine ⟨_, rfl, ?_⟩; have HO275 := Aside0.mk (Kd.R_lower (Kd.R_new' (Kd.R_new' (Kd.R_new' (Kd.R_new' ho0 (Kd.R_lt (by (with_reducible repeat (first | apply Kd.R_alloc | apply Kd.R_drewN | apply Kd.R_drew)); exact (Kd.R_mono (Kd.R_far (p := ⟨gb272, 1, none⟩) (Kd.R_far (p := ⟨gb272, 0, none⟩) (Kd.R_types HO260.out BK272.out (by decide)) (fun _ hk => hk.2) (.int .i64 t268)) (fun _ hk => hk.2) (.slice Ao31 t269.length co31)) (fun _ h_ => h_.1))))) (Kd.R_lt (by (with_reducible repeat (first | apply Kd.R_alloc | apply Kd.R_drewN | apply Kd.R_drew)); exact (Kd.R_mono (Kd.R_far (p := ⟨gb272, 1, none⟩) (Kd.R_far (p := ⟨gb272, 0, none⟩) (Kd.R_types HO263.out BK272.out (by decide)) (fun _ hk => hk.2) (.int .i64 t268)) (fun _ hk => hk.2) (.slice Ao31 t269.length co31)) (fun _ h_ => h_.1))))) (Kd.R_lt (by (with_reducible repeat (first | apply Kd.R_alloc | apply Kd.R_drewN | apply Kd.R_drew)); exact (Kd.R_mono (Kd.R_far (p := ⟨gb272, 1, none⟩) (Kd.R_far (p := ⟨gb272, 0, none⟩) (Kd.R_types HO266.out BK272.out (by decide)) (fun _ hk => hk.2) (.int .i64 t268)) (fun _ hk => hk.2) (.slice Ao31 t269.length co31)) (fun _ h_ => h_.1))))) (Kd.R_lt (by (with_reducible repeat (first | apply Kd.R_alloc | apply Kd.R_drewN | apply Kd.R_drew)); exact (Kd.R_mono (Kd.R_far (p := ⟨gb272, 1, none⟩) (Kd.R_far (p := ⟨gb272, 0, none⟩) (Kd.R_types HO271.out BK272.out (by decide)) (fun _ hk => hk.2) (.int .i64 t268)) (fun _ hk => hk.2) (.slice Ao31 t269.length co31)) (fun _ h_ => h_.1))))) (below_size (beQ HB))); replace HO260 := Aside0.mk (Kd.R_elder' (by (with_reducible repeat (first | apply Kd.R_alloc | apply Kd.R_drewN | apply Kd.R_drew)); exact (Kd.R_mono (Kd.R_far (p := ⟨gb272, 1, none⟩) (Kd.R_far (p := ⟨gb272, 0, none⟩) (Kd.R_types HO260.out BK272.out (by decide)) (fun _ hk => hk.2) (.int .i64 t268)) (fun _ hk => hk.2) (.slice Ao31 t269.length co31)) (fun _ h_ => h_.1))) (Kd.R_base ho0) hb); replace HO263 := Aside0.mk (Kd.R_elder' (by (with_reducible repeat (first | apply Kd.R_alloc | apply Kd.R_drewN | apply Kd.R_drew)); exact (Kd.R_mono (Kd.R_far (p := ⟨gb272, 1, none⟩) (Kd.R_far (p := ⟨gb272, 0, none⟩) (Kd.R_types HO263.out BK272.out (by decide)) (fun _ hk => hk.2) (.int .i64 t268)) (fun _ hk => hk.2) (.slice Ao31 t269.length co31)) (fun _ h_ => h_.1))) (Kd.R_base ho0) hb); replace HO266 := Aside0.mk (Kd.R_elder' (by (with_reducible repeat (first | apply Kd.R_alloc | apply Kd.R_drewN | apply Kd.R_drew)); exact (Kd.R_mono (Kd.R_far (p := ⟨gb272, 1, none⟩) (Kd.R_far (p := ⟨gb272, 0, none⟩) (Kd.R_types HO266.out BK272.out (by decide)) (fun _ hk => hk.2) (.int .i64 t268)) (fun _ hk => hk.2) (.slice Ao31 t269.length co31)) (fun _ h_ => h_.1))) (Kd.R_base ho0) hb); replace HO271 := Aside0.mk (Kd.R_elder' (by (with_reducible repeat (first | apply Kd.R_alloc | apply Kd.R_drewN | apply Kd.R_drew)); exact (Kd.R_mono (Kd.R_far (p := ⟨gb272, 1, none⟩) (Kd.R_far (p := ⟨gb272, 0, none⟩) (Kd.R_types HO271.out BK272.out (by decide)) (fun _ hk => hk.2) (.int .i64 t268)) (fun _ hk => hk.2) (.slice Ao31 t269.length co31)) (fun _ h_ => h_.1))) (Kd.R_base ho0) hb); replace BK255 := Aside0.mk (blk_below (blkF BK255) hb); replace BK272 := Aside0.mk (blk_below (g := gb272) (o := .cells #[.int .i64 t268, .slice Ao31 t269.length co31] 28 (0, 0)) (by (with_reducible repeat (first | refine blk_drewN ?_ _ | refine blk_drew ?_ | refine blk_alloc ?_ _)); refine blk_put (cs := #[.int .i64 t268, .slice none 0 0]) ?_ 1 _ rfl; (with_reducible repeat (first | refine blk_drewN ?_ _ | refine blk_drew ?_ | refine blk_alloc ?_ _)); refine blk_put (cs := #[.int .i64 0, .slice none 0 0]) ?_ 0 _ rfl; (with_reducible repeat (first | refine blk_drewN ?_ _ | refine blk_drew ?_ | refine blk_alloc ?_ _)); exact BK272.out) hb); replace HB := Aside0.mk (below_step (beQ HB) hb); (try clear hb); (try clear hb2); (try clear hk); (try clear hi); (try clear ho0); have hcz33_0 : w32.cell? ⟨gb272, 0, none⟩ = some (.int .i64 t268) := bc BK272 0; have hcz33_1 : w32.cell? ⟨gb272, 1, none⟩ = some (.slice Ao31 t269.length co31) := bc BK272 1; have hfz33_0 := blk_frozen BK272.out 0; have hfz33_1 := blk_frozen BK272.out 1; obtain ⟨Ao34, co34, eo34⟩ := Kd.R_slice HO275.out; subst eo34) | ((with_reducible refine gate_callee (f := 23) rfl ?_); refine goesL_ (some 40) rfl rfl Tryd.func23 (by kernel_rfl) rfl #[.agg #[.int .i64 t268, .slice Ao31 t269.length co31], .slice Ao34 t273.length co34] rfl lz ?_; (with_reducible refine (impl_ContentOf.calls k t268 _ _ t269 (fun k_ => some k_ = (.slice Ao34 t273.length co34 : Value).ownBlock) _ _ t273 t276 t279 _ ?side1 ?side2 ?side3 ?side4 A15.out).mono ?_); (case side1 => have q_ := Aside0.mk (Kd.R_reads' HO271.out).2.2; exact cQ q_); (case side2 => exact (Kd.R_reads' HO271.out).2.1); (case side3 => exact Kd.R_V (Kd.R_tight rfl (Kd.R_types (Kd.R_types (HO275.out) BK255.out (by decide)) BK272.out (by decide)))); (case side4 => exact TabW.below HT.out (beQ HB)); rintro e w35 ⟨v277, rfl, ho0, hb⟩; refine ⟨_, rfl, ?_⟩; have HO278 := Aside0.mk (Kd.R_lower (Kd.R_new' (Kd.R_new' (Kd.R_new' (Kd.R_new' (Kd.R_new' (Kd.R_mono (ok' := fun k_ => True) ho0 (fun _ hk_ => trivial)) (Kd.R_lt (kdQ HO260))) (Kd.R_lt (kdQ HO263))) (Kd.R_lt (kdQ HO266))) (Kd.R_lt (kdQ HO271))) (Kd.R_lt (kdQ HO275))) (below_size (beQ HB))); replace HO260 := Aside0.mk (Kd.R_elder' (kdQ HO260) (Kd.R_base ho0) hb); replace HO263 := Aside0.mk (Kd.R_elder' (kdQ HO263) (Kd.R_base ho0) hb); replace HO266 := Aside0.mk (Kd.R_elder' (kdQ HO266) (Kd.R_base ho0) hb); replace HO271 := Aside0.mk (Kd.R_elder' (kdQ HO271) (Kd.R_base ho0) hb); replace HO275 := Aside0.mk (Kd.R_elder' (kdQ HO275) (Kd.R_base ho0) hb); replace BK255 := bb BK255 hb; replace BK272 := bb BK272 hb; replace HB := Aside0.mk (below_step (beQ HB) hb); (try clear hb); (try clear hb2); (try clear hk); (try clear hi); (try clear ho0)))
   (try simp only [Act.put, List.setIfInBounds_toArray, List.set_cons_zero, List.set_cons_succ])
   go_cut [51] (fun v51 wc => ∃ (kq : Nat) (x51_15 : Bool), v51 = .bool x51_15 ∧ Aside0 (laws_FnExactContentOf.j0 kq l1 t264 t267 t273 t276 t279 x51_15 a0_0 l0_1 t268 t269 = some r) ∧ Aside0 (kq ≤ k) ∧ Aside0 (Kd.R (Kd.int .i64) 2 wc w.heap.size (fun k_ => some k_ ≠ ((.slice Ao34 t273.length co34) : Value).ownBlock ∧ some k_ ≠ (v277 : Value).ownBlock ∧ some k_ ≠ ((.slice Ao31 t269.length co31) : Value).ownBlock) v265 t264) ∧ Aside0 (Kd.R (Kd.int .i64) 2 wc w.heap.size (fun k_ => some k_ ≠ (v265 : Value).ownBlock ∧ some k_ ≠ (v277 : Value).ownBlock ∧ some k_ ≠ ((.slice Ao31 t269.length co31) : Value).ownBlock) (.slice Ao34 t273.length co34) t273) ∧ Aside0 (Kd.R (Kd.int .i64) 2 wc w.heap.size (fun k_ => some k_ ≠ (v265 : Value).ownBlock ∧ some k_ ≠ ((.slice Ao34 t273.length co34) : Value).ownBlock ∧ some k_ ≠ ((.slice Ao31 t269.length co31) : Value).ownBlock) v277 t276) ∧ Aside0 (Kd.R (Kd.int .i64) 2 wc w.heap.size (fun k_ => some k_ ≠ (v265 : Value).ownBlock ∧ some k_ ≠ ((.slice Ao34 t273.length co34) : Value).ownBlock ∧ some k_ ≠ (v277 : Value).ownBlock) (.slice Ao31 t269.length co31) t269) ∧ Aside0 (wc.heap[gb255]? = some (.cells #[.int .i64 a0_0, (.slice A0_1 l0_1.length c0_1)] 24 (0, 0))) ∧ Aside0 (wc.heap[gb272]? = some (.cells #[.int .i64 t268, (.slice Ao31 t269.length co31)] 28 (0, 0))) ∧ Aside0 (Below w.heap.size w wc))
   case first =>
    have H := HC16.out; clear HC16; replace H := Option.bind_eq_some_iff.mp H; obtain ⟨t280, A360, H⟩ := H
    replace H : (if t280 = true then (laws_FnExactContentOf.j0 k l1 t264 t267 t273 t276 t279 (t279 != t267) a0_0 l0_1 t268 t269) else (laws_FnExactContentOf.j0 k l1 t264 t267 t273 t276 t279 true a0_0 l0_1 t268 t269)) = some r := H
    have A36 := Aside0.mk A360; clear A360
    by_cases c37 : t280 = true
    ·subst c37
     have H1 : (laws_FnExactContentOf.j0 k l1 t264 t267 t273 t276 t279 (t279 != t267) a0_0 l0_1 t268 t269) = some r := by rw [if_pos rfl] at H; exact H
     clear H; have H := H1; clear H1
     have H' := Aside0.mk H
     clear H; obtain ⟨Ao38, co38, eo38⟩ := Kd.R_slice HO278.out; subst eo38; obtain ⟨Ao39, co39, eo39⟩ := Kd.R_slice HO266.out; subst eo39
     go_wp2_with (first | ((with_reducible refine gate_callee (f := 21) rfl ?_); refine goesL_ (some 45) rfl rfl Tryd.func21 (by kernel_rfl) rfl #[.slice Ao38 t276.length co38, .slice Ao39 t264.length co39] rfl lz ?_; (with_reducible refine (laws_eqInt64S.calls k _ _ t276 _ _ t264 true _ ?side1 ?side2 ?side3 ?side4 A36.out).mono ?_); (case side1 => have q_ := Aside0.mk (Kd.R_reads' HO278.out).2.2; exact cQ q_); (case side2 => exact (Kd.R_reads' HO278.out).2.1); (case side3 => have q_ := Aside0.mk (Kd.R_reads' HO266.out).2.2; exact cQ q_); (case side4 => exact (Kd.R_reads' HO266.out).2.1); rintro e w' ⟨rfl, ⟨nd, rfl⟩⟩; refine ⟨_, rfl, ?_⟩))
     go_meet
     case rel => exact ⟨_, ((t279 != t267)), sz, H', ⟨by first | omega | exact Nat.le_refl _⟩, ⟨by (with_reducible repeat (first | apply Kd.R_alloc | apply Kd.R_drewN | apply Kd.R_drew)); exact Kd.R_mono HO266.out (fun _ hk => ⟨hk.1.2, ⟨hk.2, hk.1.1.2⟩⟩)⟩, ⟨by (with_reducible repeat (first | apply Kd.R_alloc | apply Kd.R_drewN | apply Kd.R_drew)); exact Kd.R_mono HO275.out (fun _ hk => ⟨hk.1.1.2, ⟨hk.2, hk.1.2⟩⟩)⟩, ⟨by (with_reducible repeat (first | apply Kd.R_alloc | apply Kd.R_drewN | apply Kd.R_drew)); exact Kd.R_mono HO278.out (fun _ hk => ⟨hk.1.1.2, ⟨hk.2, hk.1.2⟩⟩)⟩, ⟨by (with_reducible repeat (first | apply Kd.R_alloc | apply Kd.R_drewN | apply Kd.R_drew)); exact Kd.R_mono HO271.out (fun _ hk => ⟨hk.1.1.2, ⟨hk.1.2, hk.2⟩⟩)⟩, ⟨blkQ BK255⟩, ⟨blkQ BK272⟩, ⟨beQ HB⟩⟩
    ·replace c37 := Bool.eq_false_iff.mpr c37
     subst c37
     have H1 : (laws_FnExactContentOf.j0 k l1 t264 t267 t273 t276 t279 true a0_0 l0_1 t268 t269) = some r := by rw [if_neg (show ¬ (false = true) by decide)] at H; exact H
     clear H; have H := H1; clear H1
     have H' := Aside0.mk H
     clear H; obtain ⟨Ao40, co40, eo40⟩ := Kd.R_slice HO278.out; subst eo40; obtain ⟨Ao41, co41, eo41⟩ := Kd.R_slice HO266.out; subst eo41
     go_wp2_with (first | ((with_reducible refine gate_callee (f := 21) rfl ?_); refine goesL_ (some 45) rfl rfl Tryd.func21 (by kernel_rfl) rfl #[.slice Ao40 t276.length co40, .slice Ao41 t264.length co41] rfl lz ?_; (with_reducible refine (laws_eqInt64S.calls k _ _ t276 _ _ t264 false _ ?side1 ?side2 ?side3 ?side4 A36.out).mono ?_); (case side1 => have q_ := Aside0.mk (Kd.R_reads' HO278.out).2.2; exact cQ q_); (case side2 => exact (Kd.R_reads' HO278.out).2.1); (case side3 => have q_ := Aside0.mk (Kd.R_reads' HO266.out).2.2; exact cQ q_); (case side4 => exact (Kd.R_reads' HO266.out).2.1); rintro e w' ⟨rfl, ⟨nd, rfl⟩⟩; refine ⟨_, rfl, ?_⟩))
     go_meet
     case rel => exact ⟨_, (true), sz, H', ⟨by first | omega | exact Nat.le_refl _⟩, ⟨by (with_reducible repeat (first | apply Kd.R_alloc | apply Kd.R_drewN | apply Kd.R_drew)); exact Kd.R_mono HO266.out (fun _ hk => ⟨hk.1.2, ⟨hk.2, hk.1.1.2⟩⟩)⟩, ⟨by (with_reducible repeat (first | apply Kd.R_alloc | apply Kd.R_drewN | apply Kd.R_drew)); exact Kd.R_mono HO275.out (fun _ hk => ⟨hk.1.1.2, ⟨hk.2, hk.1.2⟩⟩)⟩, ⟨by (with_reducible repeat (first | apply Kd.R_alloc | apply Kd.R_drewN | apply Kd.R_drew)); exact Kd.R_mono HO278.out (fun _ hk => ⟨hk.1.1.2, ⟨hk.2, hk.1.2⟩⟩)⟩, ⟨by (with_reducible repeat (first | apply Kd.R_alloc | apply Kd.R_drewN | apply Kd.R_drew)); exact Kd.R_mono HO271.out (fun _ hk => ⟨hk.1.1.2, ⟨hk.1.2, hk.2⟩⟩)⟩, ⟨blkQ BK255⟩, ⟨blkQ BK272⟩, ⟨beQ HB⟩⟩
   case rest =>
    clear HC16
    try clear c1
    try clear c2
    try clear p2
    try clear c3
    try clear c3b0
    try clear c3b1
    try clear c4
    try clear c6
    try clear c6b0
    try clear c15
    try clear c17
    try clear c18
    try clear c21
    try clear c22
    try clear c23
    try clear c29
    try clear c37
    try clear hcz18_0
    try clear hcz18_1
    try clear hcz20_0
    try clear hcz20_1
    try clear hcz26_0
    try clear hcz26_1
    try clear hcz30_0
    try clear hcz30_1
    try clear hcz33_0
    try clear hcz33_1
    try clear hcz8_0
    try clear hcz8_1
    try clear hfz18_0
    try clear hfz18_1
    try clear hfz20_0
    try clear hfz20_1
    try clear hfz26_0
    try clear hfz26_1
    try clear hfz30_0
    try clear hfz30_1
    try clear hfz33_0
    try clear hfz33_1
    try clear hfz8_0
    try clear hfz8_1
    obtain ⟨kq, x51_15, rfl, HA, HJ15, HO_6, HO_9, HO_10, HO_273001, BK255, BK272, HB⟩ := hcut
    cases kq with
    | zero => exact absurd HA.out (by simp [laws_FnExactContentOf.j0])
    | succ kj15 =>
     have H := HA.out; clear HA
     simp only [laws_FnExactContentOf.j0] at H
     by_cases c42 : x51_15 = true
     ·subst c42
      have H1 : (some false) = some r := by rw [if_pos rfl] at H; exact H
      clear H; have H := H1; clear H1
      obtain rfl := Option.some.inj H
      go_wp2
      go_ret
      exact ⟨rz, beQ HB⟩
     ·replace c42 := Bool.eq_false_iff.mpr c42
      subst c42
      have H1 : ((laws_toAlphabet.f kj15 a0_0 l0_1).bind fun bt281 => ((laws_eqAlphabet.f kj15 t268 t269 bt281.1 bt281.2).bind fun t285 => (if t285 = true then ((laws_toInt64S.f kj15 l1).bind fun t286 => ((laws_eqInt64S.f kj15 t273 t286).bind fun t289 => (if t289 = true then ((laws_markAlphabet.f kj15 t268 t269 1).bind fun bt290 => ((laws_markInt64S.f kj15 t273 bt290.1).bind fun bt292 => (if bt292.1 < 0 then (laws_FnExactContentOf.j1 kj15 l1 t264 t267 t276 true a0_0 l0_1) else ((laws_eqInt64S.f kj15 t276 t264).bind fun t294 => (if t294 = true then (laws_FnExactContentOf.j1 kj15 l1 t264 t267 t276 (t279 != t267) a0_0 l0_1) else (laws_FnExactContentOf.j1 kj15 l1 t264 t267 t276 true a0_0 l0_1)))))) else (some false)))) else (some false)))) = some r := by rw [if_neg (show ¬ (false = true) by decide)] at H; exact H
      clear H; have H := H1; clear H1; replace H := Option.bind_eq_some_iff.mp H
      obtain ⟨⟨t281, t282⟩, A430, H⟩ := H
      replace H : ((laws_eqAlphabet.f kj15 t268 t269 t281 t282).bind fun t285 => (if t285 = true then ((laws_toInt64S.f kj15 l1).bind fun t286 => ((laws_eqInt64S.f kj15 t273 t286).bind fun t289 => (if t289 = true then ((laws_markAlphabet.f kj15 t268 t269 1).bind fun bt290 => ((laws_markInt64S.f kj15 t273 bt290.1).bind fun bt292 => (if bt292.1 < 0 then (laws_FnExactContentOf.j1 kj15 l1 t264 t267 t276 true a0_0 l0_1) else ((laws_eqInt64S.f kj15 t276 t264).bind fun t294 => (if t294 = true then (laws_FnExactContentOf.j1 kj15 l1 t264 t267 t276 (t279 != t267) a0_0 l0_1) else (laws_FnExactContentOf.j1 kj15 l1 t264 t267 t276 true a0_0 l0_1)))))) else (some false)))) else (some false))) = some r := H
      have A43 := Aside0.mk A430; clear A430; replace H := Option.bind_eq_some_iff.mp H; obtain ⟨t285, A440, H⟩ := H
      replace H : (if t285 = true then ((laws_toInt64S.f kj15 l1).bind fun t286 => ((laws_eqInt64S.f kj15 t273 t286).bind fun t289 => (if t289 = true then ((laws_markAlphabet.f kj15 t268 t269 1).bind fun bt290 => ((laws_markInt64S.f kj15 t273 bt290.1).bind fun bt292 => (if bt292.1 < 0 then (laws_FnExactContentOf.j1 kj15 l1 t264 t267 t276 true a0_0 l0_1) else ((laws_eqInt64S.f kj15 t276 t264).bind fun t294 => (if t294 = true then (laws_FnExactContentOf.j1 kj15 l1 t264 t267 t276 (t279 != t267) a0_0 l0_1) else (laws_FnExactContentOf.j1 kj15 l1 t264 t267 t276 true a0_0 l0_1)))))) else (some false)))) else (some false)) = some r := H
      have A44 := Aside0.mk A440; clear A440
      by_cases c45 : t285 = true
      ·subst c45
       have H1 : ((laws_toInt64S.f kj15 l1).bind fun t286 => ((laws_eqInt64S.f kj15 t273 t286).bind fun t289 => (if t289 = true then ((laws_markAlphabet.f kj15 t268 t269 1).bind fun bt290 => ((laws_markInt64S.f kj15 t273 bt290.1).bind fun bt292 => (if bt292.1 < 0 then (laws_FnExactContentOf.j1 kj15 l1 t264 t267 t276 true a0_0 l0_1) else ((laws_eqInt64S.f kj15 t276 t264).bind fun t294 => (if t294 = true then (laws_FnExactContentOf.j1 kj15 l1 t264 t267 t276 (t279 != t267) a0_0 l0_1) else (laws_FnExactContentOf.j1 kj15 l1 t264 t267 t276 true a0_0 l0_1)))))) else (some false)))) = some r := by rw [if_pos rfl] at H; exact H
       clear H; have H := H1; clear H1; replace H := Option.bind_eq_some_iff.mp H; obtain ⟨t286, A460, H⟩ := H
       replace H : ((laws_eqInt64S.f kj15 t273 t286).bind fun t289 => (if t289 = true then ((laws_markAlphabet.f kj15 t268 t269 1).bind fun bt290 => ((laws_markInt64S.f kj15 t273 bt290.1).bind fun bt292 => (if bt292.1 < 0 then (laws_FnExactContentOf.j1 kj15 l1 t264 t267 t276 true a0_0 l0_1) else ((laws_eqInt64S.f kj15 t276 t264).bind fun t294 => (if t294 = true then (laws_FnExactContentOf.j1 kj15 l1 t264 t267 t276 (t279 != t267) a0_0 l0_1) else (laws_FnExactContentOf.j1 kj15 l1 t264 t267 t276 true a0_0 l0_1)))))) else (some false))) = some r := H
       have A46 := Aside0.mk A460; clear A460; replace H := Option.bind_eq_some_iff.mp H; obtain ⟨t289, A470, H⟩ := H
       replace H : (if t289 = true then ((laws_markAlphabet.f kj15 t268 t269 1).bind fun bt290 => ((laws_markInt64S.f kj15 t273 bt290.1).bind fun bt292 => (if bt292.1 < 0 then (laws_FnExactContentOf.j1 kj15 l1 t264 t267 t276 true a0_0 l0_1) else ((laws_eqInt64S.f kj15 t276 t264).bind fun t294 => (if t294 = true then (laws_FnExactContentOf.j1 kj15 l1 t264 t267 t276 (t279 != t267) a0_0 l0_1) else (laws_FnExactContentOf.j1 kj15 l1 t264 t267 t276 true a0_0 l0_1)))))) else (some false)) = some r := H
       have A47 := Aside0.mk A470; clear A470
       by_cases c48 : t289 = true
       ·subst c48
        have H1 : ((laws_markAlphabet.f kj15 t268 t269 1).bind fun bt290 => ((laws_markInt64S.f kj15 t273 bt290.1).bind fun bt292 => (if bt292.1 < 0 then (laws_FnExactContentOf.j1 kj15 l1 t264 t267 t276 true a0_0 l0_1) else ((laws_eqInt64S.f kj15 t276 t264).bind fun t294 => (if t294 = true then (laws_FnExactContentOf.j1 kj15 l1 t264 t267 t276 (t279 != t267) a0_0 l0_1) else (laws_FnExactContentOf.j1 kj15 l1 t264 t267 t276 true a0_0 l0_1)))))) = some r := by rw [if_pos rfl] at H; exact H
        clear H; have H := H1; clear H1; replace H := Option.bind_eq_some_iff.mp H
        obtain ⟨⟨t290, t291⟩, A490, H⟩ := H
        replace H : ((laws_markInt64S.f kj15 t273 t290).bind fun bt292 => (if bt292.1 < 0 then (laws_FnExactContentOf.j1 kj15 l1 t264 t267 t276 true a0_0 l0_1) else ((laws_eqInt64S.f kj15 t276 t264).bind fun t294 => (if t294 = true then (laws_FnExactContentOf.j1 kj15 l1 t264 t267 t276 (t279 != t267) a0_0 l0_1) else (laws_FnExactContentOf.j1 kj15 l1 t264 t267 t276 true a0_0 l0_1))))) = some r := H
        have A49 := Aside0.mk A490; clear A490; replace H := Option.bind_eq_some_iff.mp H
        obtain ⟨⟨t292, t293⟩, A500, H⟩ := H
        replace H : (if t292 < 0 then (laws_FnExactContentOf.j1 kj15 l1 t264 t267 t276 true a0_0 l0_1) else ((laws_eqInt64S.f kj15 t276 t264).bind fun t294 => (if t294 = true then (laws_FnExactContentOf.j1 kj15 l1 t264 t267 t276 (t279 != t267) a0_0 l0_1) else (laws_FnExactContentOf.j1 kj15 l1 t264 t267 t276 true a0_0 l0_1)))) = some r := H
        have A50 := Aside0.mk A500; clear A500; have HC51 := Aside0.mk H; clear H
        try go_wp2
        replace HO_6 := Aside0.mk (Kd.R_drew HO_6.out); replace HO_9 := Aside0.mk (Kd.R_drew HO_9.out); replace HO_10 := Aside0.mk (Kd.R_drew HO_10.out); replace HO_273001 := Aside0.mk (Kd.R_drew HO_273001.out); replace BK255 := Aside0.mk (blk_drew BK255.out); replace BK272 := Aside0.mk (blk_drew BK272.out); replace HB := Aside0.mk (below_drew1 HB.out)
        refine start_ (n := 5) (S := fun w' => w'.cell? ⟨gb272, 0, none⟩ = some (.int .i64 t268) ∧ w'.cell? ⟨gb272, 1, none⟩ = some (.slice Ao31 t269.length co31) ∧ w'.cell? ⟨gb255, 0, none⟩ = some (.int .i64 a0_0) ∧ w'.cell? ⟨gb255, 1, none⟩ = some (.slice A0_1 l0_1.length c0_1)) (ds := []) #[false, false, false, false, false] (by kernel_rfl) rfl rfl ⟨bc BK272 0, bc BK272 1, bc BK255 0, bc BK255 1⟩ (fun hHeld => ?_)
        generalize wc.drew = w52 at HO_6 HO_9 HO_10 HO_273001 BK255 BK272 HB hHeld ⊢
        refine take_ (i := 0) (N := some 52) (v := ?_) (a' := ?_) #[true, false, false, false, false] rfl rfl (by kernel_rfl) (fun _ _ _ h => h) (Or.inl ⟨by rfl, ?_⟩) hHeld ?_ ?_
        rotate_left
        ·rintro w' ⟨s0, s1, s2, s3⟩
         go_simp
         with_reducible rfl
        rotate_left
        ·simp only [Act.put, s1, s2, s3, i64_w, i32_w]
         rfl
        refine take_ (i := 1) (N := some 53) (v := ?_) (a' := ?_) #[true, true, false, false, false] rfl rfl (by kernel_rfl) (fun _ _ _ h => h) (Or.inl ⟨by rfl, ?_⟩) hHeld ?_ ?_
        rotate_left
        ·rintro w' ⟨s0, s1, s2, s3⟩
         go_simp
         with_reducible rfl
        rotate_left
        ·simp only [Act.put, s1, s2, s3, i64_w, i32_w]
         rfl
        refine one_ (i := 2) (N := some 54) #[true, true, true, false, false] rfl rfl (by kernel_rfl) (by decide) (fun K hK => ?_)
        refine goes_ Tryd.func17 (by kernel_rfl) rfl #[.agg #[.int .i64 a0_0, .slice A0_1 l0_1.length c0_1]] (by rfl) rfl rfl lz ?_
        with_reducible refine (laws_toAlphabet.calls kj15 a0_0 _ _ l0_1 t281 t282 _ ?side1 ?side2 A43.out).mono ?_
        (case side1 => have q_ := Aside0.mk (Kd.C_below HR0_1.out HB.out); exact cQ q_)
        (case side2 => exact HC0_1.out)
        rintro e w53 ⟨v283, rfl, ho0, hb⟩
        refine ⟨_, rfl, ?_⟩
        have HO284 := Aside0.mk (Kd.R_lower (Kd.R_new' (Kd.R_new' (Kd.R_new' (Kd.R_new' ho0 (Kd.R_lt (kdQ HO_6))) (Kd.R_lt (kdQ HO_9))) (Kd.R_lt (kdQ HO_10))) (Kd.R_lt (kdQ HO_273001))) (below_size (beQ HB))); replace HO_6 := Aside0.mk (Kd.R_elder' (kdQ HO_6) (Kd.R_base ho0) hb); replace HO_9 := Aside0.mk (Kd.R_elder' (kdQ HO_9) (Kd.R_base ho0) hb); replace HO_10 := Aside0.mk (Kd.R_elder' (kdQ HO_10) (Kd.R_base ho0) hb); replace HO_273001 := Aside0.mk (Kd.R_elder' (kdQ HO_273001) (Kd.R_base ho0) hb); replace BK255 := bb BK255 hb; replace BK272 := bb BK272 hb; replace HB := Aside0.mk (below_step (beQ HB) hb)
        (try clear hb)
        (try clear hb2)
        (try clear hk)
        (try clear hi)
        (try clear ho0)
        obtain ⟨Ao54, co54, eo54⟩ := Kd.R_slice HO284.out
        (first | subst eo54 | (injection eo54 with f1_ f2_ f3_; have f4_ := f1_.symm; have f5_ := f3_.symm; clear f1_ f2_ f3_; subst f4_; subst f5_))
        refine hK.out _ _ ⟨bc BK272 0, bc BK272 1, bc BK255 0, bc BK255 1⟩ (fun hHeld => ?_)
        clear hK K
        refine norm_ (a' := ?_) ?_ ?_
        rotate_left
        ·show Act.put _ (some 54) _ = _
         simp only [Act.put, s1, s2, s3, i64_w, i32_w]
         rfl
        refine one_ (i := 3) (N := some 55) #[true, true, true, true, false] rfl rfl (by kernel_rfl) (by decide) (fun K hK => ?_)
        refine goes_ Tryd.func20 (by kernel_rfl) rfl #[.agg #[.int .i64 t268, .slice Ao31 t269.length co31], .agg #[.int .i64 t281, .slice Ao54 t282.length co54]] (by rfl) rfl rfl lz ?_
        with_reducible refine (laws_eqAlphabet.calls kj15 t268 _ _ t269 t281 _ _ t282 true _ ?side1 ?side2 ?side3 ?side4 A44.out).mono ?_
        (case side1 => have q_ := Aside0.mk (Kd.R_reads' HO_273001.out).2.2; exact cQ q_)
        (case side2 => exact (Kd.R_reads' HO_273001.out).2.1)
        (case side3 => have q_ := Aside0.mk (Kd.R_reads' HO284.out).2.2; exact cQ q_)
        (case side4 => exact (Kd.R_reads' HO284.out).2.1)
        rintro e w55 ⟨rfl, hb⟩
        refine ⟨_, rfl, ?_⟩
        replace HO_6 := kb HO_6 hb; replace HO_9 := kb HO_9 hb; replace HO_10 := kb HO_10 hb; replace HO_273001 := kb HO_273001 hb; replace HO284 := kb HO284 hb; replace BK255 := bb BK255 hb; replace BK272 := bb BK272 hb; replace HB := Aside0.mk (below_step (beQ HB) hb)
        (try clear hb)
        (try clear hb2)
        (try clear hk)
        (try clear hi)
        refine hK.out _ _ ⟨bc BK272 0, bc BK272 1, bc BK255 0, bc BK255 1⟩ (fun hHeld => ?_)
        clear hK K
        refine norm_ (a' := ?_) ?_ ?_
        rotate_left
        ·show Act.put _ (some 55) _ = _
         simp only [Act.put, s1, s2, s3, i64_w, i32_w]
         rfl
        refine pure_ (i := 4) (N := some 56) (v := ?_) (a' := ?_) #[true, true, true, true, true] rfl rfl (by kernel_rfl) (fun _ _ _ h => h) (Or.inl ⟨by rfl, ?_⟩) ?_ ?_
        rotate_left
        ·intro w'
         go_simp
         with_reducible rfl
        rotate_left
        ·simp only [Act.put, s1, s2, s3, i64_w, i32_w]
         rfl
        refine done_ (by kernel_rfl) ?_
        go_upto_region 20 with (first | ((with_reducible refine gate_callee (f := 18) rfl ?_); refine goesL_ (some 59) rfl rfl Tryd.func18 (by kernel_rfl) rfl #[.slice A1 l1.length c1] rfl lz ?_; (with_reducible refine (laws_toInt64S.calls kj15 _ _ l1 t286 _ ?side1 ?side2 A46.out).mono ?_); (case side1 => have q_ := Aside0.mk (Kd.C_below HR1.out HB.out); exact cQ q_); (case side2 => exact HC1.out); rintro e w56 ⟨v287, rfl, ho0, hb⟩; refine ⟨_, rfl, ?_⟩; have HO288 := Aside0.mk (Kd.R_lower (Kd.R_new' (Kd.R_new' (Kd.R_new' (Kd.R_new' (Kd.R_new' ho0 (Kd.R_lt (kdQ HO_6))) (Kd.R_lt (kdQ HO_9))) (Kd.R_lt (kdQ HO_10))) (Kd.R_lt (kdQ HO_273001))) (Kd.R_lt (kdQ HO284))) (below_size (beQ HB))); replace HO_6 := Aside0.mk (Kd.R_elder' (kdQ HO_6) (Kd.R_base ho0) hb); replace HO_9 := Aside0.mk (Kd.R_elder' (kdQ HO_9) (Kd.R_base ho0) hb); replace HO_10 := Aside0.mk (Kd.R_elder' (kdQ HO_10) (Kd.R_base ho0) hb); replace HO_273001 := Aside0.mk (Kd.R_elder' (kdQ HO_273001) (Kd.R_base ho0) hb); replace HO284 := Aside0.mk (Kd.R_elder' (kdQ HO284) (Kd.R_base ho0) hb); replace BK255 := bb BK255 hb; replace BK272 := bb BK272 hb; replace HB := Aside0.mk (below_step (beQ HB) hb); (try clear hb); (try clear hb2); (try clear hk); (try clear hi); (try clear ho0); obtain ⟨Ao57, co57, eo57⟩ := Kd.R_slice HO288.out; subst eo57) | ((with_reducible refine gate_callee (f := 21) rfl ?_); refine goesL_ (some 60) rfl rfl Tryd.func21 (by kernel_rfl) rfl #[.slice Ao34 t273.length co34, .slice Ao57 t286.length co57] rfl lz ?_; (with_reducible refine (laws_eqInt64S.calls kj15 _ _ t273 _ _ t286 true _ ?side1 ?side2 ?side3 ?side4 A47.out).mono ?_); (case side1 => have q_ := Aside0.mk (Kd.R_reads' HO_9.out).2.2; exact cQ q_); (case side2 => exact (Kd.R_reads' HO_9.out).2.1); (case side3 => have q_ := Aside0.mk (Kd.R_reads' HO288.out).2.2; exact cQ q_); (case side4 => exact (Kd.R_reads' HO288.out).2.1); rintro e w' ⟨rfl, ⟨nd, rfl⟩⟩; refine ⟨_, rfl, ?_⟩; have hnb58 := NB272_255.out; have hnc58 := NB255_272.out; have hcz59_0 : w56.cell? ⟨gb272, 0, none⟩ = some (.int .i64 t268) := bc BK272 0; have hcz59_1 : w56.cell? ⟨gb272, 1, none⟩ = some (.slice Ao31 t269.length co31) := bc BK272 1; have hfz59_0 := blk_frozen BK272.out 0; have hfz59_1 := blk_frozen BK272.out 1) | ((with_reducible refine gate_callee (f := 24) rfl ?_); refine goesL_ (some 64) rfl rfl Tryd.func24 (by kernel_rfl) rfl #[.agg #[.int .i64 t268, .slice Ao31 t269.length co31], .int .i64 1] rfl lz ?_; (with_reducible refine (laws_markAlphabet.calls kj15 t268 (fun k_ => some k_ = (.slice Ao31 t269.length co31 : Value).ownBlock) (.slice Ao31 t269.length co31) t269 1 t290 t291 w _ ?side1 ?side2 A49.out).mono ?_); (case side1 => repeat (first | (with_reducible first | exact HB.out | apply below_alloc | apply pw_below_drewN | apply below_drew1 | refine below_set ?_ GE255.out | refine below_set ?_ GE272.out) | exact HB.out)); (case side2 => exact Kd.R_tight rfl HO_273001.out); rintro e w60 ⟨rfl, hy0, hb, hkp⟩; refine ⟨_, rfl, ?_⟩; replace HO_6 := Aside0.mk (Kd.R_mono (ok' := fun k_ => some k_ ≠ (.slice Ao34 t273.length co34 : Value).ownBlock ∧ some k_ ≠ (v277 : Value).ownBlock ∧ some k_ ≠ (.slice Ao31 t269.length co31 : Value).ownBlock ∧ some k_ ≠ (.slice Ao54 t282.length co54 : Value).ownBlock ∧ some k_ ≠ (.slice Ao57 t286.length co57 : Value).ownBlock) (Kd.R_keptB (HO_6.out) hkp (fun k_ hk_ hs_ => (hk_.1.1.2.2) hs_)) (fun k_ hk_ => ⟨hk_.1.1.1.1, hk_.1.1.1.2.1, hk_.1.1.1.2.2, hk_.1.1.2, hk_.1.2⟩)); replace HO_9 := Aside0.mk (Kd.R_mono (ok' := fun k_ => some k_ ≠ (v265 : Value).ownBlock ∧ some k_ ≠ (v277 : Value).ownBlock ∧ some k_ ≠ (.slice Ao31 t269.length co31 : Value).ownBlock ∧ some k_ ≠ (.slice Ao54 t282.length co54 : Value).ownBlock ∧ some k_ ≠ (.slice Ao57 t286.length co57 : Value).ownBlock) (Kd.R_keptB (HO_9.out) hkp (fun k_ hk_ hs_ => (hk_.1.1.2.2) hs_)) (fun k_ hk_ => ⟨hk_.1.1.1.1, hk_.1.1.1.2.1, hk_.1.1.1.2.2, hk_.1.1.2, hk_.1.2⟩)); replace HO_10 := Aside0.mk (Kd.R_mono (ok' := fun k_ => some k_ ≠ (v265 : Value).ownBlock ∧ some k_ ≠ (.slice Ao34 t273.length co34 : Value).ownBlock ∧ some k_ ≠ (.slice Ao31 t269.length co31 : Value).ownBlock ∧ some k_ ≠ (.slice Ao54 t282.length co54 : Value).ownBlock ∧ some k_ ≠ (.slice Ao57 t286.length co57 : Value).ownBlock) (Kd.R_keptB (HO_10.out) hkp (fun k_ hk_ hs_ => (hk_.1.1.2.2) hs_)) (fun k_ hk_ => ⟨hk_.1.1.1.1, hk_.1.1.1.2.1, hk_.1.1.1.2.2, hk_.1.1.2, hk_.1.2⟩)); replace BK255 := Aside0.mk (blk_kept (blkQ BK255) hkp (fun hs_ => (fun e_ => (Kd.R_ne HO_273001.out BK255.out (by decide)) e_) hs_)); replace BK272 := Aside0.mk (blk_kept (blkQ BK272) hkp (fun hs_ => (fun e_ => (Kd.R_ne HO_273001.out BK272.out (by decide)) e_) hs_)); replace HO_273001 := Aside0.mk (Kd.R_reok rfl hy0 (fun k_ e_ => HO_273001.out.1 k_ e_)); replace HO284 := Aside0.mk (Kd.R_mono (ok' := fun k_ => some k_ ≠ (v265 : Value).ownBlock ∧ some k_ ≠ (.slice Ao34 t273.length co34 : Value).ownBlock ∧ some k_ ≠ (v277 : Value).ownBlock ∧ some k_ ≠ (.slice Ao31 t269.length co31 : Value).ownBlock ∧ some k_ ≠ (.slice Ao57 t286.length co57 : Value).ownBlock) (Kd.R_keptB (HO284.out) hkp (fun k_ hk_ hs_ => (hk_.1.2) hs_)) (fun k_ hk_ => ⟨hk_.1.1.1.1.1.2, hk_.1.1.1.1.2, hk_.1.1.1.2, hk_.1.1.2, hk_.1.2⟩)); replace HO288 := Aside0.mk (Kd.R_mono (ok' := fun k_ => some k_ ≠ (v265 : Value).ownBlock ∧ some k_ ≠ (.slice Ao34 t273.length co34 : Value).ownBlock ∧ some k_ ≠ (v277 : Value).ownBlock ∧ some k_ ≠ (.slice Ao31 t269.length co31 : Value).ownBlock ∧ some k_ ≠ (.slice Ao54 t282.length co54 : Value).ownBlock) (Kd.R_keptB (HO288.out) hkp (fun k_ hk_ hs_ => (hk_.1.2) hs_)) (fun k_ hk_ => ⟨hk_.1.1.1.1.1.2, hk_.1.1.1.1.2, hk_.1.1.1.2, hk_.1.1.2, hk_.1.2⟩)); replace HB := Aside0.mk (hb); (try clear hb); (try clear hkp); (try clear hy0)) | ((with_reducible refine gate_callee (f := 25) rfl ?_); refine goesL_ (some 67) rfl rfl Tryd.func25 (by kernel_rfl) rfl #[.slice Ao34 t273.length co34, .int .i64 t290] rfl lz ?_; (with_reducible refine (laws_markInt64S.calls kj15 (fun k_ => some k_ = (.slice Ao34 t273.length co34 : Value).ownBlock) (.slice Ao34 t273.length co34) t273 t290 t292 t293 w _ ?side1 ?side2 A50.out).mono ?_); (case side1 => repeat (first | (with_reducible first | exact HB.out | apply below_alloc | apply pw_below_drewN | apply below_drew1 | refine below_set ?_ GE255.out | refine below_set ?_ GE272.out) | exact HB.out)); (case side2 => exact Kd.R_tight rfl HO_9.out); rintro e w61 ⟨rfl, hy0, hb, hkp⟩; refine ⟨_, rfl, ?_⟩; replace HO_6 := Aside0.mk (Kd.R_mono (ok' := fun k_ => some k_ ≠ (.slice Ao34 t273.length co34 : Value).ownBlock ∧ some k_ ≠ (v277 : Value).ownBlock ∧ some k_ ≠ (.slice Ao31 t269.length co31 : Value).ownBlock ∧ some k_ ≠ (.slice Ao54 t282.length co54 : Value).ownBlock ∧ some k_ ≠ (.slice Ao57 t286.length co57 : Value).ownBlock) (Kd.R_keptB (HO_6.out) hkp (fun k_ hk_ hs_ => (hk_.1) hs_)) (fun k_ hk_ => ⟨hk_.1.1, hk_.1.2.1, hk_.1.2.2.1, hk_.1.2.2.2.1, hk_.1.2.2.2.2⟩)); replace HO_10 := Aside0.mk (Kd.R_mono (ok' := fun k_ => some k_ ≠ (v265 : Value).ownBlock ∧ some k_ ≠ (.slice Ao34 t273.length co34 : Value).ownBlock ∧ some k_ ≠ (.slice Ao31 t269.length co31 : Value).ownBlock ∧ some k_ ≠ (.slice Ao54 t282.length co54 : Value).ownBlock ∧ some k_ ≠ (.slice Ao57 t286.length co57 : Value).ownBlock) (Kd.R_keptB (HO_10.out) hkp (fun k_ hk_ hs_ => (hk_.2.1) hs_)) (fun k_ hk_ => ⟨hk_.1.1, hk_.1.2.1, hk_.1.2.2.1, hk_.1.2.2.2.1, hk_.1.2.2.2.2⟩)); replace HO_273001 := Aside0.mk (Kd.R_mono (ok' := fun k_ => some k_ ≠ (v265 : Value).ownBlock ∧ some k_ ≠ (.slice Ao34 t273.length co34 : Value).ownBlock ∧ some k_ ≠ (v277 : Value).ownBlock ∧ some k_ ≠ (.slice Ao54 t282.length co54 : Value).ownBlock ∧ some k_ ≠ (.slice Ao57 t286.length co57 : Value).ownBlock) (Kd.R_keptB (HO_273001.out) hkp (fun k_ hk_ hs_ => (hk_.1.1.2.1) hs_)) (fun k_ hk_ => ⟨hk_.1.1.1.1, hk_.1.1.1.2.1, hk_.1.1.1.2.2, hk_.1.1.2, hk_.1.2⟩)); replace BK255 := Aside0.mk (blk_kept (blkQ BK255) hkp (fun hs_ => (fun e_ => (Kd.R_ne HO_9.out BK255.out (by decide)) e_) hs_)); replace BK272 := Aside0.mk (blk_kept (blkQ BK272) hkp (fun hs_ => (fun e_ => (Kd.R_ne HO_9.out BK272.out (by decide)) e_) hs_)); replace HO_9 := Aside0.mk (Kd.R_reok rfl hy0 (fun k_ e_ => HO_9.out.1 k_ e_)); replace HO284 := Aside0.mk (Kd.R_mono (ok' := fun k_ => some k_ ≠ (v265 : Value).ownBlock ∧ some k_ ≠ (.slice Ao34 t273.length co34 : Value).ownBlock ∧ some k_ ≠ (v277 : Value).ownBlock ∧ some k_ ≠ (.slice Ao31 t269.length co31 : Value).ownBlock ∧ some k_ ≠ (.slice Ao57 t286.length co57 : Value).ownBlock) (Kd.R_keptB (HO284.out) hkp (fun k_ hk_ hs_ => (hk_.2.1) hs_)) (fun k_ hk_ => ⟨hk_.1.1, hk_.1.2.1, hk_.1.2.2.1, hk_.1.2.2.2.1, hk_.1.2.2.2.2⟩)); replace HO288 := Aside0.mk (Kd.R_mono (ok' := fun k_ => some k_ ≠ (v265 : Value).ownBlock ∧ some k_ ≠ (.slice Ao34 t273.length co34 : Value).ownBlock ∧ some k_ ≠ (v277 : Value).ownBlock ∧ some k_ ≠ (.slice Ao31 t269.length co31 : Value).ownBlock ∧ some k_ ≠ (.slice Ao54 t282.length co54 : Value).ownBlock) (Kd.R_keptB (HO288.out) hkp (fun k_ hk_ hs_ => (hk_.2.1) hs_)) (fun k_ hk_ => ⟨hk_.1.1, hk_.1.2.1, hk_.1.2.2.1, hk_.1.2.2.2.1, hk_.1.2.2.2.2⟩)); replace HB := Aside0.mk (hb); (try clear hb); (try clear hkp); (try clear hy0)))
        (try simp only [Act.put, List.setIfInBounds_toArray, List.set_cons_zero, List.set_cons_succ])
        go_cut [80] (fun v80 wc => ∃ (kq : Nat) (x80_50 : Bool), v80 = .bool x80_50 ∧ Aside0 (laws_FnExactContentOf.j1 kq l1 t264 t267 t276 x80_50 a0_0 l0_1 = some r) ∧ Aside0 (kq ≤ kj15) ∧ Aside0 (Kd.R (Kd.int .i64) 2 wc w.heap.size (fun k_ => some k_ ≠ (v277 : Value).ownBlock ∧ some k_ ≠ ((.slice Ao31 t269.length co31) : Value).ownBlock) v265 t264) ∧ Aside0 (Kd.R (Kd.int .i64) 2 wc w.heap.size (fun k_ => some k_ ≠ (v265 : Value).ownBlock ∧ some k_ ≠ ((.slice Ao31 t269.length co31) : Value).ownBlock) v277 t276) ∧ Aside0 (Kd.R (Kd.int .i64) 2 wc w.heap.size (fun k_ => some k_ ≠ (v265 : Value).ownBlock ∧ some k_ ≠ (v277 : Value).ownBlock) (.slice Ao31 t269.length co31) t291) ∧ Aside0 (wc.heap[gb255]? = some (.cells #[.int .i64 a0_0, (.slice A0_1 l0_1.length c0_1)] 24 (0, 0))) ∧ Aside0 (wc.heap[gb272]? = some (.cells #[.int .i64 t268, (.slice Ao31 t269.length co31)] 28 (0, 0))) ∧ Aside0 (Below w.heap.size w wc))
        case first =>
         have H := HC51.out; clear HC51
         by_cases c62 : t292 < 0
         ·rw [if_pos c62] at H
          have c62b0 : decide (t292 < 0) = true := decide_eq_true c62
          clear c62
          (first | rw [c62b0] | (simp only [i64_w, i32_w]; rw [c62b0]) | skip)
          have H' := Aside0.mk H
          clear H
          go_wp2
          go_meet
          case rel => exact ⟨_, (true), sz, H', ⟨by have := HJ15.out; first | omega | exact Nat.le_refl _⟩, ⟨by (with_reducible repeat (first | apply Kd.R_alloc | apply Kd.R_drewN | apply Kd.R_drew)); exact Kd.R_mono HO_6.out (fun _ hk => ⟨hk.2.1, hk.2.2.1⟩)⟩, ⟨by (with_reducible repeat (first | apply Kd.R_alloc | apply Kd.R_drewN | apply Kd.R_drew)); exact Kd.R_mono HO_10.out (fun _ hk => ⟨hk.1, hk.2.2.1⟩)⟩, ⟨by (with_reducible repeat (first | apply Kd.R_alloc | apply Kd.R_drewN | apply Kd.R_drew)); exact Kd.R_mono HO_273001.out (fun _ hk => ⟨hk.1, hk.2.2.1⟩)⟩, ⟨blkQ BK255⟩, ⟨blkQ BK272⟩, ⟨beQ HB⟩⟩
         ·rw [if_neg c62] at H
          have c62b0 : decide (t292 < 0) = false := decide_eq_false c62
          clear c62
          (first | rw [c62b0] | (simp only [i64_w, i32_w]; rw [c62b0]) | skip)
          replace H := Option.bind_eq_some_iff.mp H; obtain ⟨t294, A630, H⟩ := H
          replace H : (if t294 = true then (laws_FnExactContentOf.j1 kj15 l1 t264 t267 t276 (t279 != t267) a0_0 l0_1) else (laws_FnExactContentOf.j1 kj15 l1 t264 t267 t276 true a0_0 l0_1)) = some r := H
          have A63 := Aside0.mk A630; clear A630
          by_cases c64 : t294 = true
          ·subst c64
           have H1 : (laws_FnExactContentOf.j1 kj15 l1 t264 t267 t276 (t279 != t267) a0_0 l0_1) = some r := by rw [if_pos rfl] at H; exact H
           clear H; have H := H1; clear H1
           have H' := Aside0.mk H
           clear H; obtain ⟨Ao65, co65, eo65⟩ := Kd.R_slice HO_10.out; subst eo65; obtain ⟨Ao66, co66, eo66⟩ := Kd.R_slice HO_6.out; subst eo66
           go_wp2_with (first | (go_at_call 21; (with_reducible refine (laws_eqInt64S.calls kj15 _ _ t276 _ _ t264 true _ ?side1 ?side2 ?side3 ?side4 A63.out).mono ?_); (case side1 => have q_ := Aside0.mk (Kd.R_reads' HO_10.out).2.2; exact cQ q_); (case side2 => exact (Kd.R_reads' HO_10.out).2.1); (case side3 => have q_ := Aside0.mk (Kd.R_reads' HO_6.out).2.2; exact cQ q_); (case side4 => exact (Kd.R_reads' HO_6.out).2.1); rintro e w' ⟨rfl, ⟨nd, rfl⟩⟩))
           go_meet
           case rel => exact ⟨_, ((t279 != t267)), sz, H', ⟨by have := HJ15.out; first | omega | exact Nat.le_refl _⟩, ⟨by (with_reducible repeat (first | apply Kd.R_alloc | apply Kd.R_drewN | apply Kd.R_drew)); exact Kd.R_mono HO_6.out (fun _ hk => ⟨hk.2.1, hk.2.2.1⟩)⟩, ⟨by (with_reducible repeat (first | apply Kd.R_alloc | apply Kd.R_drewN | apply Kd.R_drew)); exact Kd.R_mono HO_10.out (fun _ hk => ⟨hk.1, hk.2.2.1⟩)⟩, ⟨by (with_reducible repeat (first | apply Kd.R_alloc | apply Kd.R_drewN | apply Kd.R_drew)); exact Kd.R_mono HO_273001.out (fun _ hk => ⟨hk.1, hk.2.2.1⟩)⟩, ⟨blkQ BK255⟩, ⟨blkQ BK272⟩, ⟨beQ HB⟩⟩
          ·replace c64 := Bool.eq_false_iff.mpr c64
           subst c64
           have H1 : (laws_FnExactContentOf.j1 kj15 l1 t264 t267 t276 true a0_0 l0_1) = some r := by rw [if_neg (show ¬ (false = true) by decide)] at H; exact H
           clear H; have H := H1; clear H1
           have H' := Aside0.mk H
           clear H; obtain ⟨Ao67, co67, eo67⟩ := Kd.R_slice HO_10.out; subst eo67; obtain ⟨Ao68, co68, eo68⟩ := Kd.R_slice HO_6.out; subst eo68
           go_wp2_with (first | (go_at_call 21; (with_reducible refine (laws_eqInt64S.calls kj15 _ _ t276 _ _ t264 false _ ?side1 ?side2 ?side3 ?side4 A63.out).mono ?_); (case side1 => have q_ := Aside0.mk (Kd.R_reads' HO_10.out).2.2; exact cQ q_); (case side2 => exact (Kd.R_reads' HO_10.out).2.1); (case side3 => have q_ := Aside0.mk (Kd.R_reads' HO_6.out).2.2; exact cQ q_); (case side4 => exact (Kd.R_reads' HO_6.out).2.1); rintro e w' ⟨rfl, ⟨nd, rfl⟩⟩))
           go_meet
           case rel => exact ⟨_, (true), sz, H', ⟨by have := HJ15.out; first | omega | exact Nat.le_refl _⟩, ⟨by (with_reducible repeat (first | apply Kd.R_alloc | apply Kd.R_drewN | apply Kd.R_drew)); exact Kd.R_mono HO_6.out (fun _ hk => ⟨hk.2.1, hk.2.2.1⟩)⟩, ⟨by (with_reducible repeat (first | apply Kd.R_alloc | apply Kd.R_drewN | apply Kd.R_drew)); exact Kd.R_mono HO_10.out (fun _ hk => ⟨hk.1, hk.2.2.1⟩)⟩, ⟨by (with_reducible repeat (first | apply Kd.R_alloc | apply Kd.R_drewN | apply Kd.R_drew)); exact Kd.R_mono HO_273001.out (fun _ hk => ⟨hk.1, hk.2.2.1⟩)⟩, ⟨blkQ BK255⟩, ⟨blkQ BK272⟩, ⟨beQ HB⟩⟩
        case rest =>
         clear HC51
         try clear c1
         try clear c2
         try clear p2
         try clear c3
         try clear c3b0
         try clear c3b1
         try clear c4
         try clear c5
         try clear c6
         try clear c6b0
         try clear c15
         try clear c17
         try clear c18
         try clear c20
         try clear c21
         try clear c22
         try clear c23
         try clear c24
         try clear c25
         try clear c29
         try clear c37
         try clear c42
         try clear c45
         try clear c48
         try clear c58
         try clear c62
         try clear c62b0
         try clear c64
         try clear hcz18_0
         try clear hcz18_1
         try clear hcz20_0
         try clear hcz20_1
         try clear hcz26_0
         try clear hcz26_1
         try clear hcz30_0
         try clear hcz30_1
         try clear hcz33_0
         try clear hcz33_1
         try clear hcz59_0
         try clear hcz59_1
         try clear hcz8_0
         try clear hcz8_1
         try clear hfz18_0
         try clear hfz18_1
         try clear hfz20_0
         try clear hfz20_1
         try clear hfz26_0
         try clear hfz26_1
         try clear hfz30_0
         try clear hfz30_1
         try clear hfz33_0
         try clear hfz33_1
         try clear hfz59_0
         try clear hfz59_1
         try clear hfz8_0
         try clear hfz8_1
         try clear p2
         obtain ⟨kq, x80_50, rfl, HA, HJ50, HO_6, HO_10, HO_273001, BK255, BK272, HB⟩ := hcut; have hl273001_50 := (Kd.R_reads' HO_273001.out).1; rw [hl273001_50] at HO_273001
         (try simp only [hl273001_50])
         (try simp only [hl273001_50] at BK255)
         (try simp only [hl273001_50] at BK272)
         (try simp only [hl273001_50] at HO_6)
         (try simp only [hl273001_50] at HO_10)
         cases kq with
         | zero => exact absurd HA.out (by simp [laws_FnExactContentOf.j1])
         | succ kj50 =>
          have H := HA.out; clear HA
          simp only [laws_FnExactContentOf.j1] at H
          by_cases c69 : x80_50 = true
          ·subst c69
           have H1 : (some false) = some r := by rw [if_pos rfl] at H; exact H
           clear H; have H := H1; clear H1
           obtain rfl := Option.some.inj H
           go_wp2
           go_ret
           exact ⟨rz, beQ HB⟩
          ·replace c69 := Bool.eq_false_iff.mpr c69
           subst c69
           have H1 : ((laws_markInt64S.f kj50 t276 1).bind fun bt295 => ((laws_heldInt64S.f kj50 bt295.2 1).bind fun t297 => (if t297 < 0 then (some false) else (if t297 = bt295.1 then ((laws_toAlphabet.f kj50 a0_0 l0_1).bind fun bt298 => ((laws_toInt64S.f kj50 l1).bind fun t302 => ((impl_ContentOf.f kj50 bt298.1 bt298.2 t302).bind fun bt305 => ((laws_eqInt64S.f kj50 bt305.1 t264).bind fun t309 => (if t309 = true then (laws_FnExactContentOf.j2 kj50 bt295.2 bt295.1 (bt305.2 != t267)) else (laws_FnExactContentOf.j2 kj50 bt295.2 bt295.1 true)))))) else (some false))))) = some r := by rw [if_neg (show ¬ (false = true) by decide)] at H; exact H
           clear H; have H := H1; clear H1; replace H := Option.bind_eq_some_iff.mp H
           obtain ⟨⟨t295, t296⟩, A700, H⟩ := H
           replace H : ((laws_heldInt64S.f kj50 t296 1).bind fun t297 => (if t297 < 0 then (some false) else (if t297 = t295 then ((laws_toAlphabet.f kj50 a0_0 l0_1).bind fun bt298 => ((laws_toInt64S.f kj50 l1).bind fun t302 => ((impl_ContentOf.f kj50 bt298.1 bt298.2 t302).bind fun bt305 => ((laws_eqInt64S.f kj50 bt305.1 t264).bind fun t309 => (if t309 = true then (laws_FnExactContentOf.j2 kj50 t296 t295 (bt305.2 != t267)) else (laws_FnExactContentOf.j2 kj50 t296 t295 true)))))) else (some false)))) = some r := H
           have A70 := Aside0.mk A700; clear A700; replace H := Option.bind_eq_some_iff.mp H; obtain ⟨t297, A710, H⟩ := H
           replace H : (if t297 < 0 then (some false) else (if t297 = t295 then ((laws_toAlphabet.f kj50 a0_0 l0_1).bind fun bt298 => ((laws_toInt64S.f kj50 l1).bind fun t302 => ((impl_ContentOf.f kj50 bt298.1 bt298.2 t302).bind fun bt305 => ((laws_eqInt64S.f kj50 bt305.1 t264).bind fun t309 => (if t309 = true then (laws_FnExactContentOf.j2 kj50 t296 t295 (bt305.2 != t267)) else (laws_FnExactContentOf.j2 kj50 t296 t295 true)))))) else (some false))) = some r := H
           have A71 := Aside0.mk A710; clear A710
           by_cases c72 : t297 < 0
           ·rw [if_pos c72] at H
            have c72b0 : decide (t297 < 0) = true := decide_eq_true c72
            clear c72
            obtain rfl := Option.some.inj H
            obtain ⟨Ao73, co73, eo73⟩ := Kd.R_slice HO_10.out; subst eo73
            go_wp2_with (first | ((with_reducible refine gate_callee (f := 25) rfl ?_); refine goesL_ (some 83) rfl rfl Tryd.func25 (by kernel_rfl) rfl #[.slice Ao73 t276.length co73, .int .i64 1] rfl lz ?_; (with_reducible refine (laws_markInt64S.calls kj50 (fun k_ => some k_ = (.slice Ao73 t276.length co73 : Value).ownBlock) (.slice Ao73 t276.length co73) t276 1 t295 t296 w _ ?side1 ?side2 A70.out).mono ?_); (case side1 => repeat (first | (with_reducible first | exact HB.out | apply below_alloc | apply pw_below_drewN | apply below_drew1 | refine below_set ?_ GE255.out | refine below_set ?_ GE272.out) | exact HB.out)); (case side2 => exact Kd.R_tight rfl HO_10.out); rintro e w74 ⟨rfl, hy0, hb, hkp⟩; refine ⟨_, rfl, ?_⟩; replace HO_6 := Aside0.mk (Kd.R_mono (ok' := fun k_ => some k_ ≠ (.slice Ao73 t276.length co73 : Value).ownBlock ∧ some k_ ≠ (.slice Ao31 t291.length co31 : Value).ownBlock) (Kd.R_keptB (HO_6.out) hkp (fun k_ hk_ hs_ => (hk_.1) hs_)) (fun k_ hk_ => ⟨hk_.1.1, hk_.1.2⟩)); replace HO_273001 := Aside0.mk (Kd.R_mono (ok' := fun k_ => some k_ ≠ (v265 : Value).ownBlock ∧ some k_ ≠ (.slice Ao73 t276.length co73 : Value).ownBlock) (Kd.R_keptB (HO_273001.out) hkp (fun k_ hk_ hs_ => (hk_.2) hs_)) (fun k_ hk_ => ⟨hk_.1.1, hk_.1.2⟩)); replace BK255 := Aside0.mk (blk_kept (blkQ BK255) hkp (fun hs_ => (fun e_ => (Kd.R_ne HO_10.out BK255.out (by decide)) e_) hs_)); replace BK272 := Aside0.mk (blk_kept (blkQ BK272) hkp (fun hs_ => (fun e_ => (Kd.R_ne HO_10.out BK272.out (by decide)) e_) hs_)); replace HO_10 := Aside0.mk (Kd.R_reok rfl hy0 (fun k_ e_ => HO_10.out.1 k_ e_)); replace HB := Aside0.mk (hb); (try clear hb); (try clear hkp); (try clear hy0)) | ((with_reducible refine gate_callee (f := 26) rfl ?_); refine goesL_ (some 86) rfl rfl Tryd.func26 (by kernel_rfl) rfl #[.slice Ao73 t296.length co73, .int .i64 1] rfl (by (try simp only [List.map_toArray, List.map_cons, List.map_nil]); first | done | (rw [show t296.length = t276.length from (Kd.R_reads' HO_10.out).1.symm] <;> rfl) | rfl | (simp only [List.length_drop, List.length_take]; rfl)) ?_; (with_reducible refine (laws_heldInt64S.calls kj50 _ _ t296 1 t297 _ ?side1 ?side2 A71.out).mono ?_); (case side1 => have q_ := Aside0.mk (Kd.R_reads' HO_10.out).2.2; exact cQ q_); (case side2 => rw [show t296.length = t276.length from (Kd.R_reads' HO_10.out).1.symm]; exact (Kd.R_reads' HO_10.out).2.1); rintro e w' ⟨rfl, ⟨nd, rfl⟩⟩; refine ⟨_, rfl, ?_⟩))
            go_ret
            exact ⟨rz, beQ HB⟩
           ·rw [if_neg c72] at H
            have c72b0 : decide (t297 < 0) = false := decide_eq_false c72
            clear c72
            by_cases c75 : t297 = t295
            ·rw [if_pos c75] at H
             have c75b0 : (t297 == t295) = true := beq_iff_eq.mpr c75
             have c75b1 : (t297 != t295) = false := bne_eq_false_iff_eq.mpr c75
             clear c75; replace H := Option.bind_eq_some_iff.mp H
             obtain ⟨⟨t298, t299⟩, A760, H⟩ := H
             replace H : ((laws_toInt64S.f kj50 l1).bind fun t302 => ((impl_ContentOf.f kj50 t298 t299 t302).bind fun bt305 => ((laws_eqInt64S.f kj50 bt305.1 t264).bind fun t309 => (if t309 = true then (laws_FnExactContentOf.j2 kj50 t296 t295 (bt305.2 != t267)) else (laws_FnExactContentOf.j2 kj50 t296 t295 true))))) = some r := H
             have A76 := Aside0.mk A760; clear A760; replace H := Option.bind_eq_some_iff.mp H; obtain ⟨t302, A770, H⟩ := H
             replace H : ((impl_ContentOf.f kj50 t298 t299 t302).bind fun bt305 => ((laws_eqInt64S.f kj50 bt305.1 t264).bind fun t309 => (if t309 = true then (laws_FnExactContentOf.j2 kj50 t296 t295 (bt305.2 != t267)) else (laws_FnExactContentOf.j2 kj50 t296 t295 true)))) = some r := H
             have A77 := Aside0.mk A770; clear A770; replace H := Option.bind_eq_some_iff.mp H
             obtain ⟨⟨t305, t308⟩, A780, H⟩ := H
             replace H : ((laws_eqInt64S.f kj50 t305 t264).bind fun t309 => (if t309 = true then (laws_FnExactContentOf.j2 kj50 t296 t295 (t308 != t267)) else (laws_FnExactContentOf.j2 kj50 t296 t295 true))) = some r := H
             have A78 := Aside0.mk A780; clear A780; have HC79 := Aside0.mk H; clear H; obtain ⟨Ao80, co80, eo80⟩ := Kd.R_slice HO_10.out; subst eo80
             go_upto_region 31 with (first | ((with_reducible refine gate_callee (f := 25) rfl ?_); refine goesL_ (some 83) rfl rfl Tryd.func25 (by kernel_rfl) rfl #[.slice Ao80 t276.length co80, .int .i64 1] rfl lz ?_; (with_reducible refine (laws_markInt64S.calls kj50 (fun k_ => some k_ = (.slice Ao80 t276.length co80 : Value).ownBlock) (.slice Ao80 t276.length co80) t276 1 t295 t296 w _ ?side1 ?side2 A70.out).mono ?_); (case side1 => repeat (first | (with_reducible first | exact HB.out | apply below_alloc | apply pw_below_drewN | apply below_drew1 | refine below_set ?_ GE255.out | refine below_set ?_ GE272.out) | exact HB.out)); (case side2 => exact Kd.R_tight rfl HO_10.out); rintro e w81 ⟨rfl, hy0, hb, hkp⟩; refine ⟨_, rfl, ?_⟩; replace HO_6 := Aside0.mk (Kd.R_mono (ok' := fun k_ => some k_ ≠ (.slice Ao80 t276.length co80 : Value).ownBlock ∧ some k_ ≠ (.slice Ao31 t291.length co31 : Value).ownBlock) (Kd.R_keptB (HO_6.out) hkp (fun k_ hk_ hs_ => (hk_.1) hs_)) (fun k_ hk_ => ⟨hk_.1.1, hk_.1.2⟩)); replace HO_273001 := Aside0.mk (Kd.R_mono (ok' := fun k_ => some k_ ≠ (v265 : Value).ownBlock ∧ some k_ ≠ (.slice Ao80 t276.length co80 : Value).ownBlock) (Kd.R_keptB (HO_273001.out) hkp (fun k_ hk_ hs_ => (hk_.2) hs_)) (fun k_ hk_ => ⟨hk_.1.1, hk_.1.2⟩)); replace BK255 := Aside0.mk (blk_kept (blkQ BK255) hkp (fun hs_ => (fun e_ => (Kd.R_ne HO_10.out BK255.out (by decide)) e_) hs_)); replace BK272 := Aside0.mk (blk_kept (blkQ BK272) hkp (fun hs_ => (fun e_ => (Kd.R_ne HO_10.out BK272.out (by decide)) e_) hs_)); replace HO_10 := Aside0.mk (Kd.R_reok rfl hy0 (fun k_ e_ => HO_10.out.1 k_ e_)); replace HB := Aside0.mk (hb); (try clear hb); (try clear hkp); (try clear hy0)) | ((with_reducible refine gate_callee (f := 26) rfl ?_); refine goesL_ (some 86) rfl rfl Tryd.func26 (by kernel_rfl) rfl #[.slice Ao80 t296.length co80, .int .i64 1] rfl (by (try simp only [List.map_toArray, List.map_cons, List.map_nil]); first | done | (rw [show t296.length = t276.length from (Kd.R_reads' HO_10.out).1.symm] <;> rfl) | rfl | (simp only [List.length_drop, List.length_take]; rfl)) ?_; (with_reducible refine (laws_heldInt64S.calls kj50 _ _ t296 1 t297 _ ?side1 ?side2 A71.out).mono ?_); (case side1 => have q_ := Aside0.mk (Kd.R_reads' HO_10.out).2.2; exact cQ q_); (case side2 => rw [show t296.length = t276.length from (Kd.R_reads' HO_10.out).1.symm]; exact (Kd.R_reads' HO_10.out).2.1); rintro e w' ⟨rfl, ⟨nd, rfl⟩⟩; refine ⟨_, rfl, ?_⟩; have hnb82 := NB255_272.out; have hnc82 := NB272_255.out; have hcz83_0 : w81.cell? ⟨gb255, 0, none⟩ = some (.int .i64 a0_0) := bc BK255 0; have hcz83_1 : w81.cell? ⟨gb255, 1, none⟩ = some (.slice A0_1 l0_1.length c0_1) := bc BK255 1; have hfz83_0 := blk_frozen BK255.out 0; have hfz83_1 := blk_frozen BK255.out 1) | ((with_reducible refine gate_callee (f := 17) rfl ?_); refine goesL_ (some 94) rfl rfl Tryd.func17 (by kernel_rfl) rfl #[.agg #[.int .i64 a0_0, .slice A0_1 l0_1.length c0_1]] rfl lz ?_; (with_reducible refine (laws_toAlphabet.calls kj50 a0_0 _ _ l0_1 t298 t299 _ ?side1 ?side2 A76.out).mono ?_); (case side1 => have q_ := Aside0.mk (Kd.C_below HR0_1.out (beQ HB)); exact cQ q_); (case side2 => exact HC0_1.out); rintro e w84 ⟨v300, rfl, ho0, hb⟩; refine ⟨_, rfl, ?_⟩; have HO301 := Aside0.mk (Kd.R_lower (Kd.R_new' (Kd.R_new' (Kd.R_new' ho0 (Kd.R_lt (kdQ HO_6))) (Kd.R_lt (kdQ HO_10))) (Kd.R_lt (kdQ HO_273001))) (below_size (beQ HB))); replace HO_6 := Aside0.mk (Kd.R_elder' (kdQ HO_6) (Kd.R_base ho0) hb); replace HO_10 := Aside0.mk (Kd.R_elder' (kdQ HO_10) (Kd.R_base ho0) hb); replace HO_273001 := Aside0.mk (Kd.R_elder' (kdQ HO_273001) (Kd.R_base ho0) hb); replace BK255 := bb BK255 hb; replace BK272 := bb BK272 hb; replace HB := Aside0.mk (below_step (beQ HB) hb); (try clear hb); (try clear hb2); (try clear hk); (try clear hi); (try clear ho0)) | ((with_reducible refine gate_callee (f := 18) rfl ?_); refine goesL_ (some 96) rfl rfl Tryd.func18 (by kernel_rfl) rfl #[.slice A1 l1.length c1] rfl lz ?_; (with_reducible refine (laws_toInt64S.calls kj50 _ _ l1 t302 _ ?side1 ?side2 A77.out).mono ?_); (case side1 => have q_ := Aside0.mk (Kd.C_below HR1.out HB.out); exact cQ q_); (case side2 => exact HC1.out); rintro e w85 ⟨v303, rfl, ho0, hb⟩; refine ⟨_, rfl, ?_⟩; have HO304 := Aside0.mk (Kd.R_lower (Kd.R_new' (Kd.R_new' (Kd.R_new' (Kd.R_new' ho0 (Kd.R_lt (kdQ HO_6))) (Kd.R_lt (kdQ HO_10))) (Kd.R_lt (kdQ HO_273001))) (Kd.R_lt (kdQ HO301))) (below_size (beQ HB))); replace HO_6 := Aside0.mk (Kd.R_elder' (kdQ HO_6) (Kd.R_base ho0) hb); replace HO_10 := Aside0.mk (Kd.R_elder' (kdQ HO_10) (Kd.R_base ho0) hb); replace HO_273001 := Aside0.mk (Kd.R_elder' (kdQ HO_273001) (Kd.R_base ho0) hb); replace HO301 := Aside0.mk (Kd.R_elder' (kdQ HO301) (Kd.R_base ho0) hb); replace BK255 := bb BK255 hb; replace BK272 := bb BK272 hb; replace HB := Aside0.mk (below_step (beQ HB) hb); (try clear hb); (try clear hb2); (try clear hk); (try clear hi); (try clear ho0); obtain ⟨Ao86, co86, eo86⟩ := Kd.R_slice HO301.out; subst eo86; obtain ⟨Ao87, co87, eo87⟩ := Kd.R_slice HO304.out; subst eo87) | ((with_reducible refine gate_callee (f := 23) rfl ?_); refine goesL_ (some 97) rfl rfl Tryd.func23 (by kernel_rfl) rfl #[.agg #[.int .i64 t298, .slice Ao86 t299.length co86], .slice Ao87 t302.length co87] rfl lz ?_; (with_reducible refine (impl_ContentOf.calls kj50 t298 _ _ t299 (fun k_ => some k_ = (.slice Ao87 t302.length co87 : Value).ownBlock) _ _ t302 t305 t308 _ ?side1 ?side2 ?side3 ?side4 A78.out).mono ?_); (case side1 => have q_ := Aside0.mk (Kd.R_reads' HO301.out).2.2; exact cQ q_); (case side2 => exact (Kd.R_reads' HO301.out).2.1); (case side3 => exact Kd.R_V (Kd.R_tight rfl (Kd.R_types (Kd.R_types (HO304.out) BK255.out (by decide)) BK272.out (by decide)))); (case side4 => exact TabW.below HT.out (beQ HB)); rintro e w88 ⟨v306, rfl, ho0, hb⟩; refine ⟨_, rfl, ?_⟩; have HO307 := Aside0.mk (Kd.R_lower (Kd.R_new' (Kd.R_new' (Kd.R_new' (Kd.R_new' (Kd.R_new' (Kd.R_mono (ok' := fun k_ => True) ho0 (fun _ hk_ => trivial)) (Kd.R_lt (kdQ HO_6))) (Kd.R_lt (kdQ HO_10))) (Kd.R_lt (kdQ HO_273001))) (Kd.R_lt (kdQ HO301))) (Kd.R_lt (kdQ HO304))) (below_size (beQ HB))); replace HO_6 := Aside0.mk (Kd.R_elder' (kdQ HO_6) (Kd.R_base ho0) hb); replace HO_10 := Aside0.mk (Kd.R_elder' (kdQ HO_10) (Kd.R_base ho0) hb); replace HO_273001 := Aside0.mk (Kd.R_elder' (kdQ HO_273001) (Kd.R_base ho0) hb); replace HO301 := Aside0.mk (Kd.R_elder' (kdQ HO301) (Kd.R_base ho0) hb); replace HO304 := Aside0.mk (Kd.R_elder' (kdQ HO304) (Kd.R_base ho0) hb); replace BK255 := bb BK255 hb; replace BK272 := bb BK272 hb; replace HB := Aside0.mk (below_step (beQ HB) hb); (try clear hb); (try clear hb2); (try clear hk); (try clear hi); (try clear ho0)))
             (try simp only [Act.put, List.setIfInBounds_toArray, List.set_cons_zero, List.set_cons_succ])
             go_cut [108] (fun v108 wc => ∃ (kq : Nat) (x108_78 : Bool), v108 = .bool x108_78 ∧ Aside0 (laws_FnExactContentOf.j2 kq t296 t295 x108_78 = some r) ∧ Aside0 (kq ≤ kj50) ∧ Aside0 (Kd.R (Kd.int .i64) 2 wc w.heap.size (fun k_ => some k_ ≠ ((.slice Ao31 t291.length co31) : Value).ownBlock) (.slice Ao80 t276.length co80) t296) ∧ Aside0 (Kd.R (Kd.int .i64) 2 wc w.heap.size (fun k_ => some k_ ≠ ((.slice Ao80 t276.length co80) : Value).ownBlock) (.slice Ao31 t291.length co31) t291) ∧ Aside0 (wc.heap[gb255]? = some (.cells #[.int .i64 a0_0, (.slice A0_1 l0_1.length c0_1)] 24 (0, 0))) ∧ Aside0 (wc.heap[gb272]? = some (.cells #[.int .i64 t268, (.slice Ao31 t291.length co31)] 28 (0, 0))) ∧ Aside0 (Below w.heap.size w wc))
             case first =>
              have H := HC79.out; clear HC79; replace H := Option.bind_eq_some_iff.mp H; obtain ⟨t309, A890, H⟩ := H
              replace H : (if t309 = true then (laws_FnExactContentOf.j2 kj50 t296 t295 (t308 != t267)) else (laws_FnExactContentOf.j2 kj50 t296 t295 true)) = some r := H
              have A89 := Aside0.mk A890; clear A890
              by_cases c90 : t309 = true
              ·subst c90
               have H1 : (laws_FnExactContentOf.j2 kj50 t296 t295 (t308 != t267)) = some r := by rw [if_pos rfl] at H; exact H
               clear H; have H := H1; clear H1
               have H' := Aside0.mk H
               clear H; obtain ⟨Ao91, co91, eo91⟩ := Kd.R_slice HO307.out; subst eo91; obtain ⟨Ao92, co92, eo92⟩ := Kd.R_slice HO_6.out; subst eo92
               go_wp2_with (first | ((with_reducible refine gate_callee (f := 21) rfl ?_); refine goesL_ (some 102) rfl rfl Tryd.func21 (by kernel_rfl) rfl #[.slice Ao91 t305.length co91, .slice Ao92 t264.length co92] rfl lz ?_; (with_reducible refine (laws_eqInt64S.calls kj50 _ _ t305 _ _ t264 true _ ?side1 ?side2 ?side3 ?side4 A89.out).mono ?_); (case side1 => have q_ := Aside0.mk (Kd.R_reads' HO307.out).2.2; exact cQ q_); (case side2 => exact (Kd.R_reads' HO307.out).2.1); (case side3 => have q_ := Aside0.mk (Kd.R_reads' HO_6.out).2.2; exact cQ q_); (case side4 => exact (Kd.R_reads' HO_6.out).2.1); rintro e w' ⟨rfl, ⟨nd, rfl⟩⟩; refine ⟨_, rfl, ?_⟩))
               go_meet
               case rel => exact ⟨_, ((t308 != t267)), sz, H', ⟨by have := HJ15.out; have := HJ50.out; first | omega | exact Nat.le_refl _⟩, ⟨by (try simp only [hl273001_50]); (with_reducible repeat (first | apply Kd.R_alloc | apply Kd.R_drewN | apply Kd.R_drew)); exact Kd.R_mono HO_10.out (fun _ hk => hk.1.1.1.2)⟩, ⟨by (try simp only [hl273001_50]); (with_reducible repeat (first | apply Kd.R_alloc | apply Kd.R_drewN | apply Kd.R_drew)); exact Kd.R_mono HO_273001.out (fun _ hk => hk.1.1.1.2)⟩, ⟨by (try simp only [hl273001_50]); (with_reducible repeat (first | refine blk_drewN ?_ _ | refine blk_drew ?_ | refine blk_alloc ?_ _)); exact BK255.out⟩, ⟨by (try simp only [hl273001_50]); (with_reducible repeat (first | refine blk_drewN ?_ _ | refine blk_drew ?_ | refine blk_alloc ?_ _)); exact BK272.out⟩, ⟨beQ HB⟩⟩
              ·replace c90 := Bool.eq_false_iff.mpr c90
               subst c90
               have H1 : (laws_FnExactContentOf.j2 kj50 t296 t295 true) = some r := by rw [if_neg (show ¬ (false = true) by decide)] at H; exact H
               clear H; have H := H1; clear H1
               have H' := Aside0.mk H
               clear H; obtain ⟨Ao93, co93, eo93⟩ := Kd.R_slice HO307.out; subst eo93; obtain ⟨Ao94, co94, eo94⟩ := Kd.R_slice HO_6.out; subst eo94
               go_wp2_with (first | ((with_reducible refine gate_callee (f := 21) rfl ?_); refine goesL_ (some 102) rfl rfl Tryd.func21 (by kernel_rfl) rfl #[.slice Ao93 t305.length co93, .slice Ao94 t264.length co94] rfl lz ?_; (with_reducible refine (laws_eqInt64S.calls kj50 _ _ t305 _ _ t264 false _ ?side1 ?side2 ?side3 ?side4 A89.out).mono ?_); (case side1 => have q_ := Aside0.mk (Kd.R_reads' HO307.out).2.2; exact cQ q_); (case side2 => exact (Kd.R_reads' HO307.out).2.1); (case side3 => have q_ := Aside0.mk (Kd.R_reads' HO_6.out).2.2; exact cQ q_); (case side4 => exact (Kd.R_reads' HO_6.out).2.1); rintro e w' ⟨rfl, ⟨nd, rfl⟩⟩; refine ⟨_, rfl, ?_⟩))
               go_meet
               case rel => exact ⟨_, (true), sz, H', ⟨by have := HJ15.out; have := HJ50.out; first | omega | exact Nat.le_refl _⟩, ⟨by (try simp only [hl273001_50]); (with_reducible repeat (first | apply Kd.R_alloc | apply Kd.R_drewN | apply Kd.R_drew)); exact Kd.R_mono HO_10.out (fun _ hk => hk.1.1.1.2)⟩, ⟨by (try simp only [hl273001_50]); (with_reducible repeat (first | apply Kd.R_alloc | apply Kd.R_drewN | apply Kd.R_drew)); exact Kd.R_mono HO_273001.out (fun _ hk => hk.1.1.1.2)⟩, ⟨by (try simp only [hl273001_50]); (with_reducible repeat (first | refine blk_drewN ?_ _ | refine blk_drew ?_ | refine blk_alloc ?_ _)); exact BK255.out⟩, ⟨by (try simp only [hl273001_50]); (with_reducible repeat (first | refine blk_drewN ?_ _ | refine blk_drew ?_ | refine blk_alloc ?_ _)); exact BK272.out⟩, ⟨beQ HB⟩⟩
             case rest =>
              clear HC79
              try clear c1
              try clear c2
              try clear p2
              try clear c3
              try clear c3b0
              try clear c3b1
              try clear c4
              try clear c5
              try clear c6
              try clear c6b0
              try clear c7
              try clear c8
              try clear c9
              try clear c15
              try clear c17
              try clear c18
              try clear c20
              try clear c21
              try clear c22
              try clear c23
              try clear c24
              try clear c25
              try clear c26
              try clear c29
              try clear c37
              try clear c42
              try clear c45
              try clear c48
              try clear c58
              try clear c62
              try clear c62b0
              try clear c64
              try clear c69
              try clear c72
              try clear c72b0
              try clear c75
              try clear c75b0
              try clear c75b1
              try clear c82
              try clear c90
              try clear hcz18_0
              try clear hcz18_1
              try clear hcz20_0
              try clear hcz20_1
              try clear hcz26_0
              try clear hcz26_1
              try clear hcz30_0
              try clear hcz30_1
              try clear hcz33_0
              try clear hcz33_1
              try clear hcz59_0
              try clear hcz59_1
              try clear hcz83_0
              try clear hcz83_1
              try clear hcz8_0
              try clear hcz8_1
              try clear hfz18_0
              try clear hfz18_1
              try clear hfz20_0
              try clear hfz20_1
              try clear hfz26_0
              try clear hfz26_1
              try clear hfz30_0
              try clear hfz30_1
              try clear hfz33_0
              try clear hfz33_1
              try clear hfz59_0
              try clear hfz59_1
              try clear hfz83_0
              try clear hfz83_1
              try clear hfz8_0
              try clear hfz8_1
              try clear p2
              obtain ⟨kq, x108_78, rfl, HA, HJ78, HO_10, HO_273001, BK255, BK272, HB⟩ := hcut; have hl10_78 := (Kd.R_reads' HO_10.out).1; rw [hl10_78] at HO_10
              (try simp only [hl10_78])
              (try simp only [hl10_78] at BK255)
              (try simp only [hl10_78] at BK272)
              (try simp only [hl10_78] at HO_273001)
              cases kq with
              | zero => exact absurd HA.out (by simp [laws_FnExactContentOf.j2])
              | succ kj78 =>
               have H := HA.out; clear HA
               simp only [laws_FnExactContentOf.j2] at H
               by_cases c95 : x108_78 = true
               ·subst c95
                have H1 : (some false) = some r := by rw [if_pos rfl] at H; exact H
                clear H; have H := H1; clear H1
                obtain rfl := Option.some.inj H
                go_wp2
                go_ret
                exact ⟨rz, beQ HB⟩
               ·replace c95 := Bool.eq_false_iff.mpr c95
                subst c95
                have H1 : ((laws_heldInt64S.f kj78 t296 1).bind fun t310 => (if t310 < 0 then (some false) else (if t310 = t295 then (some true) else (some false)))) = some r := by rw [if_neg (show ¬ (false = true) by decide)] at H; exact H
                clear H; have H := H1; clear H1; replace H := Option.bind_eq_some_iff.mp H; obtain ⟨t310, A960, H⟩ := H
                replace H : (if t310 < 0 then (some false) else (if t310 = t295 then (some true) else (some false))) = some r := H
                have A96 := Aside0.mk A960; clear A960
                by_cases c97 : t310 < 0
                ·rw [if_pos c97] at H
                 have c97b0 : decide (t310 < 0) = true := decide_eq_true c97
                 clear c97
                 obtain rfl := Option.some.inj H
                 go_wp2_with (first | ((with_reducible refine gate_callee (f := 26) rfl ?_); refine goesL_ (some 111) rfl rfl Tryd.func26 (by kernel_rfl) rfl #[.slice Ao80 t296.length co80, .int .i64 1] rfl lz ?_; (with_reducible refine (laws_heldInt64S.calls kj78 _ _ t296 1 t310 _ ?side1 ?side2 A96.out).mono ?_); (case side1 => have q_ := Aside0.mk (Kd.R_reads' HO_10.out).2.2; exact cQ q_); (case side2 => exact (Kd.R_reads' HO_10.out).2.1); rintro e w' ⟨rfl, ⟨nd, rfl⟩⟩; refine ⟨_, rfl, ?_⟩))
                 go_ret
                 exact ⟨rz, beQ HB⟩
                ·rw [if_neg c97] at H
                 have c97b0 : decide (t310 < 0) = false := decide_eq_false c97
                 clear c97
                 by_cases c98 : t310 = t295
                 ·rw [if_pos c98] at H
                  have c98b0 : (t310 == t295) = true := beq_iff_eq.mpr c98
                  have c98b1 : (t310 != t295) = false := bne_eq_false_iff_eq.mpr c98
                  clear c98
                  obtain rfl := Option.some.inj H
                  go_wp2_with (first | ((with_reducible refine gate_callee (f := 26) rfl ?_); refine goesL_ (some 111) rfl rfl Tryd.func26 (by kernel_rfl) rfl #[.slice Ao80 t296.length co80, .int .i64 1] rfl lz ?_; (with_reducible refine (laws_heldInt64S.calls kj78 _ _ t296 1 t310 _ ?side1 ?side2 A96.out).mono ?_); (case side1 => have q_ := Aside0.mk (Kd.R_reads' HO_10.out).2.2; exact cQ q_); (case side2 => exact (Kd.R_reads' HO_10.out).2.1); rintro e w' ⟨rfl, ⟨nd, rfl⟩⟩; refine ⟨_, rfl, ?_⟩))
                  go_ret
                  exact ⟨rz, beQ HB⟩
                 ·rw [if_neg c98] at H
                  have c98b0 : (t310 == t295) = false := beq_eq_false_iff_ne.mpr c98
                  have c98b1 : (t310 != t295) = true := bne_iff_ne.mpr c98
                  obtain rfl := Option.some.inj H
                  go_wp2_with (first | ((with_reducible refine gate_callee (f := 26) rfl ?_); refine goesL_ (some 111) rfl rfl Tryd.func26 (by kernel_rfl) rfl #[.slice Ao80 t296.length co80, .int .i64 1] rfl lz ?_; (with_reducible refine (laws_heldInt64S.calls kj78 _ _ t296 1 t310 _ ?side1 ?side2 A96.out).mono ?_); (case side1 => have q_ := Aside0.mk (Kd.R_reads' HO_10.out).2.2; exact cQ q_); (case side2 => exact (Kd.R_reads' HO_10.out).2.1); rintro e w' ⟨rfl, ⟨nd, rfl⟩⟩; refine ⟨_, rfl, ?_⟩))
                  go_ret
                  exact ⟨rz, beQ HB⟩
            ·rw [if_neg c75] at H
             have c75b0 : (t297 == t295) = false := beq_eq_false_iff_ne.mpr c75
             have c75b1 : (t297 != t295) = true := bne_iff_ne.mpr c75
             obtain rfl := Option.some.inj H
             obtain ⟨Ao99, co99, eo99⟩ := Kd.R_slice HO_10.out; subst eo99
             go_wp2_with (first | ((with_reducible refine gate_callee (f := 25) rfl ?_); refine goesL_ (some 83) rfl rfl Tryd.func25 (by kernel_rfl) rfl #[.slice Ao99 t276.length co99, .int .i64 1] rfl lz ?_; (with_reducible refine (laws_markInt64S.calls kj50 (fun k_ => some k_ = (.slice Ao99 t276.length co99 : Value).ownBlock) (.slice Ao99 t276.length co99) t276 1 t295 t296 w _ ?side1 ?side2 A70.out).mono ?_); (case side1 => repeat (first | (with_reducible first | exact HB.out | apply below_alloc | apply pw_below_drewN | apply below_drew1 | refine below_set ?_ GE255.out | refine below_set ?_ GE272.out) | exact HB.out)); (case side2 => exact Kd.R_tight rfl HO_10.out); rintro e w100 ⟨rfl, hy0, hb, hkp⟩; refine ⟨_, rfl, ?_⟩; replace HO_6 := Aside0.mk (Kd.R_mono (ok' := fun k_ => some k_ ≠ (.slice Ao99 t276.length co99 : Value).ownBlock ∧ some k_ ≠ (.slice Ao31 t291.length co31 : Value).ownBlock) (Kd.R_keptB (HO_6.out) hkp (fun k_ hk_ hs_ => (hk_.1) hs_)) (fun k_ hk_ => ⟨hk_.1.1, hk_.1.2⟩)); replace HO_273001 := Aside0.mk (Kd.R_mono (ok' := fun k_ => some k_ ≠ (v265 : Value).ownBlock ∧ some k_ ≠ (.slice Ao99 t276.length co99 : Value).ownBlock) (Kd.R_keptB (HO_273001.out) hkp (fun k_ hk_ hs_ => (hk_.2) hs_)) (fun k_ hk_ => ⟨hk_.1.1, hk_.1.2⟩)); replace BK255 := Aside0.mk (blk_kept (blkQ BK255) hkp (fun hs_ => (fun e_ => (Kd.R_ne HO_10.out BK255.out (by decide)) e_) hs_)); replace BK272 := Aside0.mk (blk_kept (blkQ BK272) hkp (fun hs_ => (fun e_ => (Kd.R_ne HO_10.out BK272.out (by decide)) e_) hs_)); replace HO_10 := Aside0.mk (Kd.R_reok rfl hy0 (fun k_ e_ => HO_10.out.1 k_ e_)); replace HB := Aside0.mk (hb); (try clear hb); (try clear hkp); (try clear hy0)) | ((with_reducible refine gate_callee (f := 26) rfl ?_); refine goesL_ (some 86) rfl rfl Tryd.func26 (by kernel_rfl) rfl #[.slice Ao99 t296.length co99, .int .i64 1] rfl (by (try simp only [List.map_toArray, List.map_cons, List.map_nil]); first | done | (rw [show t296.length = t276.length from (Kd.R_reads' HO_10.out).1.symm] <;> rfl) | rfl | (simp only [List.length_drop, List.length_take]; rfl)) ?_; (with_reducible refine (laws_heldInt64S.calls kj50 _ _ t296 1 t297 _ ?side1 ?side2 A71.out).mono ?_); (case side1 => have q_ := Aside0.mk (Kd.R_reads' HO_10.out).2.2; exact cQ q_); (case side2 => rw [show t296.length = t276.length from (Kd.R_reads' HO_10.out).1.symm]; exact (Kd.R_reads' HO_10.out).2.1); rintro e w' ⟨rfl, ⟨nd, rfl⟩⟩; refine ⟨_, rfl, ?_⟩))
             go_ret
             exact ⟨rz, beQ HB⟩
       ·replace c48 := Bool.eq_false_iff.mpr c48
        subst c48
        have H1 : (some false) = some r := by rw [if_neg (show ¬ (false = true) by decide)] at H; exact H
        clear H; have H := H1; clear H1
        obtain rfl := Option.some.inj H
        try go_wp2
        replace HO_6 := Aside0.mk (Kd.R_drew HO_6.out); replace HO_9 := Aside0.mk (Kd.R_drew HO_9.out); replace HO_10 := Aside0.mk (Kd.R_drew HO_10.out); replace HO_273001 := Aside0.mk (Kd.R_drew HO_273001.out); replace BK255 := Aside0.mk (blk_drew BK255.out); replace BK272 := Aside0.mk (blk_drew BK272.out); replace HB := Aside0.mk (below_drew1 HB.out)
        refine start_ (n := 5) (S := fun w' => w'.cell? ⟨gb272, 0, none⟩ = some (.int .i64 t268) ∧ w'.cell? ⟨gb272, 1, none⟩ = some (.slice Ao31 t269.length co31) ∧ w'.cell? ⟨gb255, 0, none⟩ = some (.int .i64 a0_0) ∧ w'.cell? ⟨gb255, 1, none⟩ = some (.slice A0_1 l0_1.length c0_1)) (ds := []) #[false, false, false, false, false] (by kernel_rfl) rfl rfl ⟨bc BK272 0, bc BK272 1, bc BK255 0, bc BK255 1⟩ (fun hHeld => ?_)
        generalize wc.drew = w101 at HO_6 HO_9 HO_10 HO_273001 BK255 BK272 HB hHeld ⊢
        refine take_ (i := 0) (N := some 52) (v := ?_) (a' := ?_) #[true, false, false, false, false] rfl rfl (by kernel_rfl) (fun _ _ _ h => h) (Or.inl ⟨by rfl, ?_⟩) hHeld ?_ ?_
        rotate_left
        ·rintro w' ⟨s0, s1, s2, s3⟩
         go_simp
         with_reducible rfl
        rotate_left
        ·simp only [Act.put, s1, s2, s3, i64_w, i32_w]
         rfl
        refine take_ (i := 1) (N := some 53) (v := ?_) (a' := ?_) #[true, true, false, false, false] rfl rfl (by kernel_rfl) (fun _ _ _ h => h) (Or.inl ⟨by rfl, ?_⟩) hHeld ?_ ?_
        rotate_left
        ·rintro w' ⟨s0, s1, s2, s3⟩
         go_simp
         with_reducible rfl
        rotate_left
        ·simp only [Act.put, s1, s2, s3, i64_w, i32_w]
         rfl
        refine one_ (i := 2) (N := some 54) #[true, true, true, false, false] rfl rfl (by kernel_rfl) (by decide) (fun K hK => ?_)
        refine goes_ Tryd.func17 (by kernel_rfl) rfl #[.agg #[.int .i64 a0_0, .slice A0_1 l0_1.length c0_1]] (by rfl) rfl rfl lz ?_
        with_reducible refine (laws_toAlphabet.calls kj15 a0_0 _ _ l0_1 t281 t282 _ ?side1 ?side2 A43.out).mono ?_
        (case side1 => have q_ := Aside0.mk (Kd.C_below HR0_1.out HB.out); exact cQ q_)
        (case side2 => exact HC0_1.out)
        rintro e w102 ⟨v283, rfl, ho0, hb⟩
        refine ⟨_, rfl, ?_⟩
        have HO284 := Aside0.mk (Kd.R_lower (Kd.R_new' (Kd.R_new' (Kd.R_new' (Kd.R_new' ho0 (Kd.R_lt (kdQ HO_6))) (Kd.R_lt (kdQ HO_9))) (Kd.R_lt (kdQ HO_10))) (Kd.R_lt (kdQ HO_273001))) (below_size (beQ HB))); replace HO_6 := Aside0.mk (Kd.R_elder' (kdQ HO_6) (Kd.R_base ho0) hb); replace HO_9 := Aside0.mk (Kd.R_elder' (kdQ HO_9) (Kd.R_base ho0) hb); replace HO_10 := Aside0.mk (Kd.R_elder' (kdQ HO_10) (Kd.R_base ho0) hb); replace HO_273001 := Aside0.mk (Kd.R_elder' (kdQ HO_273001) (Kd.R_base ho0) hb); replace BK255 := bb BK255 hb; replace BK272 := bb BK272 hb; replace HB := Aside0.mk (below_step (beQ HB) hb)
        (try clear hb)
        (try clear hb2)
        (try clear hk)
        (try clear hi)
        (try clear ho0)
        obtain ⟨Ao103, co103, eo103⟩ := Kd.R_slice HO284.out
        (first | subst eo103 | (injection eo103 with f1_ f2_ f3_; have f4_ := f1_.symm; have f5_ := f3_.symm; clear f1_ f2_ f3_; subst f4_; subst f5_))
        refine hK.out _ _ ⟨bc BK272 0, bc BK272 1, bc BK255 0, bc BK255 1⟩ (fun hHeld => ?_)
        clear hK K
        refine norm_ (a' := ?_) ?_ ?_
        rotate_left
        ·show Act.put _ (some 54) _ = _
         simp only [Act.put, s1, s2, s3, i64_w, i32_w]
         rfl
        refine one_ (i := 3) (N := some 55) #[true, true, true, true, false] rfl rfl (by kernel_rfl) (by decide) (fun K hK => ?_)
        refine goes_ Tryd.func20 (by kernel_rfl) rfl #[.agg #[.int .i64 t268, .slice Ao31 t269.length co31], .agg #[.int .i64 t281, .slice Ao103 t282.length co103]] (by rfl) rfl rfl lz ?_
        with_reducible refine (laws_eqAlphabet.calls kj15 t268 _ _ t269 t281 _ _ t282 true _ ?side1 ?side2 ?side3 ?side4 A44.out).mono ?_
        (case side1 => have q_ := Aside0.mk (Kd.R_reads' HO_273001.out).2.2; exact cQ q_)
        (case side2 => exact (Kd.R_reads' HO_273001.out).2.1)
        (case side3 => have q_ := Aside0.mk (Kd.R_reads' HO284.out).2.2; exact cQ q_)
        (case side4 => exact (Kd.R_reads' HO284.out).2.1)
        rintro e w104 ⟨rfl, hb⟩
        refine ⟨_, rfl, ?_⟩
        replace HO_6 := kb HO_6 hb; replace HO_9 := kb HO_9 hb; replace HO_10 := kb HO_10 hb; replace HO_273001 := kb HO_273001 hb; replace HO284 := kb HO284 hb; replace BK255 := bb BK255 hb; replace BK272 := bb BK272 hb; replace HB := Aside0.mk (below_step (beQ HB) hb)
        (try clear hb)
        (try clear hb2)
        (try clear hk)
        (try clear hi)
        refine hK.out _ _ ⟨bc BK272 0, bc BK272 1, bc BK255 0, bc BK255 1⟩ (fun hHeld => ?_)
        clear hK K
        refine norm_ (a' := ?_) ?_ ?_
        rotate_left
        ·show Act.put _ (some 55) _ = _
         simp only [Act.put, s1, s2, s3, i64_w, i32_w]
         rfl
        refine pure_ (i := 4) (N := some 56) (v := ?_) (a' := ?_) #[true, true, true, true, true] rfl rfl (by kernel_rfl) (fun _ _ _ h => h) (Or.inl ⟨by rfl, ?_⟩) ?_ ?_
        rotate_left
        ·intro w'
         go_simp
         with_reducible rfl
        rotate_left
        ·simp only [Act.put, s1, s2, s3, i64_w, i32_w]
         rfl
        refine done_ (by kernel_rfl) ?_
        try go_wp2_with (first | ((with_reducible refine gate_callee (f := 18) rfl ?_); refine goesL_ (some 59) rfl rfl Tryd.func18 (by kernel_rfl) rfl #[.slice A1 l1.length c1] rfl lz ?_; (with_reducible refine (laws_toInt64S.calls kj15 _ _ l1 t286 _ ?side1 ?side2 A46.out).mono ?_); (case side1 => have q_ := Aside0.mk (Kd.C_below HR1.out HB.out); exact cQ q_); (case side2 => exact HC1.out); rintro e w105 ⟨v287, rfl, ho0, hb⟩; refine ⟨_, rfl, ?_⟩; have HO288 := Aside0.mk (Kd.R_lower (Kd.R_new' (Kd.R_new' (Kd.R_new' (Kd.R_new' (Kd.R_new' ho0 (Kd.R_lt (kdQ HO_6))) (Kd.R_lt (kdQ HO_9))) (Kd.R_lt (kdQ HO_10))) (Kd.R_lt (kdQ HO_273001))) (Kd.R_lt (kdQ HO284))) (below_size (beQ HB))); replace HO_6 := Aside0.mk (Kd.R_elder' (kdQ HO_6) (Kd.R_base ho0) hb); replace HO_9 := Aside0.mk (Kd.R_elder' (kdQ HO_9) (Kd.R_base ho0) hb); replace HO_10 := Aside0.mk (Kd.R_elder' (kdQ HO_10) (Kd.R_base ho0) hb); replace HO_273001 := Aside0.mk (Kd.R_elder' (kdQ HO_273001) (Kd.R_base ho0) hb); replace HO284 := Aside0.mk (Kd.R_elder' (kdQ HO284) (Kd.R_base ho0) hb); replace BK255 := bb BK255 hb; replace BK272 := bb BK272 hb; replace HB := Aside0.mk (below_step (beQ HB) hb); (try clear hb); (try clear hb2); (try clear hk); (try clear hi); (try clear ho0); obtain ⟨Ao106, co106, eo106⟩ := Kd.R_slice HO288.out; subst eo106) | ((with_reducible refine gate_callee (f := 21) rfl ?_); refine goesL_ (some 60) rfl rfl Tryd.func21 (by kernel_rfl) rfl #[.slice Ao34 t273.length co34, .slice Ao106 t286.length co106] rfl lz ?_; (with_reducible refine (laws_eqInt64S.calls kj15 _ _ t273 _ _ t286 false _ ?side1 ?side2 ?side3 ?side4 A47.out).mono ?_); (case side1 => have q_ := Aside0.mk (Kd.R_reads' HO_9.out).2.2; exact cQ q_); (case side2 => exact (Kd.R_reads' HO_9.out).2.1); (case side3 => have q_ := Aside0.mk (Kd.R_reads' HO288.out).2.2; exact cQ q_); (case side4 => exact (Kd.R_reads' HO288.out).2.1); rintro e w' ⟨rfl, ⟨nd, rfl⟩⟩; refine ⟨_, rfl, ?_⟩))
        go_ret
        exact ⟨rz, beQ HB⟩
      ·replace c45 := Bool.eq_false_iff.mpr c45
       subst c45
       have H1 : (some false) = some r := by rw [if_neg (show ¬ (false = true) by decide)] at H; exact H
       clear H; have H := H1; clear H1
       obtain rfl := Option.some.inj H
       try go_wp2
       replace HO_6 := Aside0.mk (Kd.R_drew HO_6.out); replace HO_9 := Aside0.mk (Kd.R_drew HO_9.out); replace HO_10 := Aside0.mk (Kd.R_drew HO_10.out); replace HO_273001 := Aside0.mk (Kd.R_drew HO_273001.out); replace BK255 := Aside0.mk (blk_drew BK255.out); replace BK272 := Aside0.mk (blk_drew BK272.out); replace HB := Aside0.mk (below_drew1 HB.out)
       refine start_ (n := 5) (S := fun w' => w'.cell? ⟨gb272, 0, none⟩ = some (.int .i64 t268) ∧ w'.cell? ⟨gb272, 1, none⟩ = some (.slice Ao31 t269.length co31) ∧ w'.cell? ⟨gb255, 0, none⟩ = some (.int .i64 a0_0) ∧ w'.cell? ⟨gb255, 1, none⟩ = some (.slice A0_1 l0_1.length c0_1)) (ds := []) #[false, false, false, false, false] (by kernel_rfl) rfl rfl ⟨bc BK272 0, bc BK272 1, bc BK255 0, bc BK255 1⟩ (fun hHeld => ?_)
       generalize wc.drew = w107 at HO_6 HO_9 HO_10 HO_273001 BK255 BK272 HB hHeld ⊢
       refine take_ (i := 0) (N := some 52) (v := ?_) (a' := ?_) #[true, false, false, false, false] rfl rfl (by kernel_rfl) (fun _ _ _ h => h) (Or.inl ⟨by rfl, ?_⟩) hHeld ?_ ?_
       rotate_left
       ·rintro w' ⟨s0, s1, s2, s3⟩
        go_simp
        with_reducible rfl
       rotate_left
       ·simp only [Act.put, s1, s2, s3, i64_w, i32_w]
        rfl
       refine take_ (i := 1) (N := some 53) (v := ?_) (a' := ?_) #[true, true, false, false, false] rfl rfl (by kernel_rfl) (fun _ _ _ h => h) (Or.inl ⟨by rfl, ?_⟩) hHeld ?_ ?_
       rotate_left
       ·rintro w' ⟨s0, s1, s2, s3⟩
        go_simp
        with_reducible rfl
       rotate_left
       ·simp only [Act.put, s1, s2, s3, i64_w, i32_w]
        rfl
       refine one_ (i := 2) (N := some 54) #[true, true, true, false, false] rfl rfl (by kernel_rfl) (by decide) (fun K hK => ?_)
       refine goes_ Tryd.func17 (by kernel_rfl) rfl #[.agg #[.int .i64 a0_0, .slice A0_1 l0_1.length c0_1]] (by rfl) rfl rfl lz ?_
       with_reducible refine (laws_toAlphabet.calls kj15 a0_0 _ _ l0_1 t281 t282 _ ?side1 ?side2 A43.out).mono ?_
       (case side1 => have q_ := Aside0.mk (Kd.C_below HR0_1.out HB.out); exact cQ q_)
       (case side2 => exact HC0_1.out)
       rintro e w108 ⟨v283, rfl, ho0, hb⟩
       refine ⟨_, rfl, ?_⟩
       have HO284 := Aside0.mk (Kd.R_lower (Kd.R_new' (Kd.R_new' (Kd.R_new' (Kd.R_new' ho0 (Kd.R_lt (kdQ HO_6))) (Kd.R_lt (kdQ HO_9))) (Kd.R_lt (kdQ HO_10))) (Kd.R_lt (kdQ HO_273001))) (below_size (beQ HB))); replace HO_6 := Aside0.mk (Kd.R_elder' (kdQ HO_6) (Kd.R_base ho0) hb); replace HO_9 := Aside0.mk (Kd.R_elder' (kdQ HO_9) (Kd.R_base ho0) hb); replace HO_10 := Aside0.mk (Kd.R_elder' (kdQ HO_10) (Kd.R_base ho0) hb); replace HO_273001 := Aside0.mk (Kd.R_elder' (kdQ HO_273001) (Kd.R_base ho0) hb); replace BK255 := bb BK255 hb; replace BK272 := bb BK272 hb; replace HB := Aside0.mk (below_step (beQ HB) hb)
       (try clear hb)
       (try clear hb2)
       (try clear hk)
       (try clear hi)
       (try clear ho0)
       obtain ⟨Ao109, co109, eo109⟩ := Kd.R_slice HO284.out
       (first | subst eo109 | (injection eo109 with f1_ f2_ f3_; have f4_ := f1_.symm; have f5_ := f3_.symm; clear f1_ f2_ f3_; subst f4_; subst f5_))
       refine hK.out _ _ ⟨bc BK272 0, bc BK272 1, bc BK255 0, bc BK255 1⟩ (fun hHeld => ?_)
       clear hK K
       refine norm_ (a' := ?_) ?_ ?_
       rotate_left
       ·show Act.put _ (some 54) _ = _
        simp only [Act.put, s1, s2, s3, i64_w, i32_w]
        rfl
       refine one_ (i := 3) (N := some 55) #[true, true, true, true, false] rfl rfl (by kernel_rfl) (by decide) (fun K hK => ?_)
       refine goes_ Tryd.func20 (by kernel_rfl) rfl #[.agg #[.int .i64 t268, .slice Ao31 t269.length co31], .agg #[.int .i64 t281, .slice Ao109 t282.length co109]] (by rfl) rfl rfl lz ?_
       with_reducible refine (laws_eqAlphabet.calls kj15 t268 _ _ t269 t281 _ _ t282 false _ ?side1 ?side2 ?side3 ?side4 A44.out).mono ?_
       (case side1 => have q_ := Aside0.mk (Kd.R_reads' HO_273001.out).2.2; exact cQ q_)
       (case side2 => exact (Kd.R_reads' HO_273001.out).2.1)
       (case side3 => have q_ := Aside0.mk (Kd.R_reads' HO284.out).2.2; exact cQ q_)
       (case side4 => exact (Kd.R_reads' HO284.out).2.1)
       rintro e w110 ⟨rfl, hb⟩
       refine ⟨_, rfl, ?_⟩
       replace HO_6 := kb HO_6 hb; replace HO_9 := kb HO_9 hb; replace HO_10 := kb HO_10 hb; replace HO_273001 := kb HO_273001 hb; replace HO284 := kb HO284 hb; replace BK255 := bb BK255 hb; replace BK272 := bb BK272 hb; replace HB := Aside0.mk (below_step (beQ HB) hb)
       (try clear hb)
       (try clear hb2)
       (try clear hk)
       (try clear hi)
       refine hK.out _ _ ⟨bc BK272 0, bc BK272 1, bc BK255 0, bc BK255 1⟩ (fun hHeld => ?_)
       clear hK K
       refine norm_ (a' := ?_) ?_ ?_
       rotate_left
       ·show Act.put _ (some 55) _ = _
        simp only [Act.put, s1, s2, s3, i64_w, i32_w]
        rfl
       refine pure_ (i := 4) (N := some 56) (v := ?_) (a' := ?_) #[true, true, true, true, true] rfl rfl (by kernel_rfl) (fun _ _ _ h => h) (Or.inl ⟨by rfl, ?_⟩) ?_ ?_
       rotate_left
       ·intro w'
        go_simp
        with_reducible rfl
       rotate_left
       ·simp only [Act.put, s1, s2, s3, i64_w, i32_w]
        rfl
       refine done_ (by kernel_rfl) ?_
       try go_wp2
       go_ret
       exact ⟨rz, beQ HB⟩

end Go.Proofs.YtlpodkpnoopnnaaDoor.G
