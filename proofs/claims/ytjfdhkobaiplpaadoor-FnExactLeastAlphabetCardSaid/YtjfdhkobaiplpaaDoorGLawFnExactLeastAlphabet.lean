/- How the program's functions compute, function by function: each is told by a plain Lean function of the same answers, under the condition that this one answers. Written by a program of this project over the seat's translation; Lean checks it. -/
import Derived.Test.YtjfdhkobaiplpaaDoorG0
import Derived.Test.YtjfdhkobaiplpaaDoorGQ00
import Derived.Test.YtjfdhkobaiplpaaDoorGQ01e
import Derived.Test.YtjfdhkobaiplpaaDoorGQ01j
namespace Go.Proofs.YtjfdhkobaiplpaaDoor.G
open Go.RowKit Go.Proofs.YtjfdhkobaiplpaaDoorW.PrintWords Go.Proofs.YtjfdhkobaiplpaaDoorW.PrintLast Go.Proofs.YtjfdhkobaiplpaaDoorW.PrintMore
attribute [local go_sem] max2_int min2_int max_two min_two max_three min_three max_four min_four   -- for this text's walks alone
set_option linter.unusedVariables false
set_option linter.unusedSimpArgs false

/-! ### laws_FnExactLeastAlphabet: function 3 -/
mutual
def laws_FnExactLeastAlphabet.j0 : Nat → Int → Int → Bool → Int → List Int → Int → List Int → Int → List Int → Int → List Int → Option (Bool)
 | 0, _, _, _, _, _, _, _, _, _, _, _ => none
 | k + 1, x5, x8, x40, x294000, x294001, x305000, x305001, x310000, x310001, x316000, x316001 => if x40 = true then (some false) else ((laws_toAlphabet.f k x294000 x294001).bind fun bt317 => ((laws_eqAlphabet.f k x310000 x310001 bt317.1 bt317.2).bind fun t321 => (if t321 = true then ((laws_markAlphabet.f k x310000 x310001 1).bind fun bt322 => (if bt322.1 < 0 then (laws_FnExactLeastAlphabet.j1 k x5 true x294000 x294001 x305000 x305001 x316000 x316001) else ((laws_eqAlphabet.f k x316000 x316001 x305000 x305001).bind fun t324 => (if t324 = true then (laws_FnExactLeastAlphabet.j1 k x5 (x8 != x5) x294000 x294001 x305000 x305001 x316000 x316001) else (laws_FnExactLeastAlphabet.j1 k x5 true x294000 x294001 x305000 x305001 x316000 x316001))))) else (some false))))
def laws_FnExactLeastAlphabet.j1 : Nat → Int → Bool → Int → List Int → Int → List Int → Int → List Int → Option (Bool)
 | 0, _, _, _, _, _, _, _, _ => none
 | k + 1, x5, x61, x294000, x294001, x305000, x305001, x316000, x316001 => if x61 = true then (some false) else ((laws_markAlphabet.f k x316000 x316001 1).bind fun bt325 => ((laws_heldAlphabet.f k x316000 bt325.2 1).bind fun t327 => (if t327 < 0 then (some false) else (if t327 = bt325.1 then ((laws_toAlphabet.f k x294000 x294001).bind fun bt328 => ((impl_LeastAlphabet.f k bt328.1 bt328.2).bind fun bt332 => ((laws_eqAlphabet.f k bt332.1 bt332.2.1 x305000 x305001).bind fun t338 => (if t338 = true then (laws_FnExactLeastAlphabet.j2 k bt325.1 (bt332.2.2 != x5) x316000 bt325.2) else (laws_FnExactLeastAlphabet.j2 k bt325.1 true x316000 bt325.2))))) else (some false)))))
def laws_FnExactLeastAlphabet.j2 : Nat → Int → Bool → Int → List Int → Option (Bool)
 | 0, _, _, _, _ => none
 | k + 1, x10, x87, x316000, x316001 => if x87 = true then (some false) else ((laws_heldAlphabet.f k x316000 x316001 1).bind fun t339 => (if t339 < 0 then (some false) else (if t339 = x10 then (some true) else (some false))))
end
def laws_FnExactLeastAlphabet.f (k : Nat) (a0_0 : Int) (l0_1 : List Int) : Option (Bool) := (laws_szAlphabet.f a0_0 l0_1 1048576).bind fun t294 => (if t294 < 0 then (some true) else ((laws_toAlphabet.f k a0_0 l0_1).bind fun bt295 => ((spec_LeastAlphabet.f k bt295.1 bt295.2).bind fun bt299 => ((laws_toAlphabet.f k a0_0 l0_1).bind fun bt305 => ((impl_LeastAlphabet.f k bt305.1 bt305.2).bind fun bt310 => ((laws_eqAlphabet.f k bt310.1 bt310.2.1 bt299.1 bt299.2.1).bind fun t316 => (if t316 = true then (laws_FnExactLeastAlphabet.j0 k bt299.2.2 bt310.2.2 (bt310.2.2 != bt299.2.2) a0_0 l0_1 bt299.1 bt299.2.1 bt305.1 bt305.2 bt310.1 bt310.2.1) else (laws_FnExactLeastAlphabet.j0 k bt299.2.2 bt310.2.2 true a0_0 l0_1 bt299.1 bt299.2.1 bt305.1 bt305.2 bt310.1 bt310.2.1))))))))
theorem laws_FnExactLeastAlphabet.mono_l : ∀ k, (∀ y0 y1 y2 y3 y4 y5 y6 y7 y8 y9 y10, LeO (laws_FnExactLeastAlphabet.j0 k y0 y1 y2 y3 y4 y5 y6 y7 y8 y9 y10) (laws_FnExactLeastAlphabet.j0 (k + 1) y0 y1 y2 y3 y4 y5 y6 y7 y8 y9 y10)) ∧ (∀ y0 y1 y2 y3 y4 y5 y6 y7, LeO (laws_FnExactLeastAlphabet.j1 k y0 y1 y2 y3 y4 y5 y6 y7) (laws_FnExactLeastAlphabet.j1 (k + 1) y0 y1 y2 y3 y4 y5 y6 y7)) ∧ (∀ y0 y1 y2 y3, LeO (laws_FnExactLeastAlphabet.j2 k y0 y1 y2 y3) (laws_FnExactLeastAlphabet.j2 (k + 1) y0 y1 y2 y3))
 | 0 => ⟨fun _ _ _ _ _ _ _ _ _ _ _ r h => by simp [laws_FnExactLeastAlphabet.j0] at h, fun _ _ _ _ _ _ _ _ r h => by simp [laws_FnExactLeastAlphabet.j1] at h, fun _ _ _ _ r h => by simp [laws_FnExactLeastAlphabet.j2] at h⟩
 | k + 1 => by
  obtain ⟨ih0, ih1, ih2⟩ := laws_FnExactLeastAlphabet.mono_l k
  refine ⟨?_, ?_, ?_⟩
  ·intro y0 y1 y2 y3 y4 y5 y6 y7 y8 y9 y10
   unfold laws_FnExactLeastAlphabet.j0
   repeat' first
   | (with_reducible exact ih0 _ _ _ _ _ _ _ _ _ _ _)
   | (with_reducible exact ih1 _ _ _ _ _ _ _ _)
   | (with_reducible exact ih2 _ _ _ _)
   | (with_reducible exact impl_LeastAlphabet.mono _ _ _)
   | (with_reducible exact laws_eqAlphabet.mono _ _ _ _ _)
   | (with_reducible exact laws_heldAlphabet.mono _ _ _ _)
   | (with_reducible exact laws_markAlphabet.mono _ _ _ _)
   | (with_reducible exact laws_toAlphabet.mono _ _ _)
   | (with_reducible exact spec_LeastAlphabet.mono _ _ _)
   | (with_reducible exact LeO.refl _)
   | (with_reducible exact LeO.none _)
   | (with_reducible refine LeO.ite ?_ ?_)
   | (with_reducible refine LeO.bind ?_ (fun _ => ?_))
   | exact ih0 _ _ _ _ _ _ _ _ _ _ _
   | exact ih1 _ _ _ _ _ _ _ _
   | exact ih2 _ _ _ _
   | exact impl_LeastAlphabet.mono _ _ _
   | exact laws_eqAlphabet.mono _ _ _ _ _
   | exact laws_heldAlphabet.mono _ _ _ _
   | exact laws_markAlphabet.mono _ _ _ _
   | exact laws_toAlphabet.mono _ _ _
   | exact spec_LeastAlphabet.mono _ _ _
   | exact LeO.none _
   | refine LeO.ite ?_ ?_
   | refine LeO.bind ?_ (fun _ => ?_)
  ·intro y0 y1 y2 y3 y4 y5 y6 y7
   unfold laws_FnExactLeastAlphabet.j1
   repeat' first
   | (with_reducible exact ih0 _ _ _ _ _ _ _ _ _ _ _)
   | (with_reducible exact ih1 _ _ _ _ _ _ _ _)
   | (with_reducible exact ih2 _ _ _ _)
   | (with_reducible exact impl_LeastAlphabet.mono _ _ _)
   | (with_reducible exact laws_eqAlphabet.mono _ _ _ _ _)
   | (with_reducible exact laws_heldAlphabet.mono _ _ _ _)
   | (with_reducible exact laws_markAlphabet.mono _ _ _ _)
   | (with_reducible exact laws_toAlphabet.mono _ _ _)
   | (with_reducible exact spec_LeastAlphabet.mono _ _ _)
   | (with_reducible exact LeO.refl _)
   | (with_reducible exact LeO.none _)
   | (with_reducible refine LeO.ite ?_ ?_)
   | (with_reducible refine LeO.bind ?_ (fun _ => ?_))
   | exact ih0 _ _ _ _ _ _ _ _ _ _ _
   | exact ih1 _ _ _ _ _ _ _ _
   | exact ih2 _ _ _ _
   | exact impl_LeastAlphabet.mono _ _ _
   | exact laws_eqAlphabet.mono _ _ _ _ _
   | exact laws_heldAlphabet.mono _ _ _ _
   | exact laws_markAlphabet.mono _ _ _ _
   | exact laws_toAlphabet.mono _ _ _
   | exact spec_LeastAlphabet.mono _ _ _
   | exact LeO.none _
   | refine LeO.ite ?_ ?_
   | refine LeO.bind ?_ (fun _ => ?_)
  ·intro y0 y1 y2 y3
   unfold laws_FnExactLeastAlphabet.j2
   repeat' first
   | (with_reducible exact ih0 _ _ _ _ _ _ _ _ _ _ _)
   | (with_reducible exact ih1 _ _ _ _ _ _ _ _)
   | (with_reducible exact ih2 _ _ _ _)
   | (with_reducible exact impl_LeastAlphabet.mono _ _ _)
   | (with_reducible exact laws_eqAlphabet.mono _ _ _ _ _)
   | (with_reducible exact laws_heldAlphabet.mono _ _ _ _)
   | (with_reducible exact laws_markAlphabet.mono _ _ _ _)
   | (with_reducible exact laws_toAlphabet.mono _ _ _)
   | (with_reducible exact spec_LeastAlphabet.mono _ _ _)
   | (with_reducible exact LeO.refl _)
   | (with_reducible exact LeO.none _)
   | (with_reducible refine LeO.ite ?_ ?_)
   | (with_reducible refine LeO.bind ?_ (fun _ => ?_))
   | exact ih0 _ _ _ _ _ _ _ _ _ _ _
   | exact ih1 _ _ _ _ _ _ _ _
   | exact ih2 _ _ _ _
   | exact impl_LeastAlphabet.mono _ _ _
   | exact laws_eqAlphabet.mono _ _ _ _ _
   | exact laws_heldAlphabet.mono _ _ _ _
   | exact laws_markAlphabet.mono _ _ _ _
   | exact laws_toAlphabet.mono _ _ _
   | exact spec_LeastAlphabet.mono _ _ _
   | exact LeO.none _
   | refine LeO.ite ?_ ?_
   | refine LeO.bind ?_ (fun _ => ?_)
theorem laws_FnExactLeastAlphabet.mono : ∀ a0 a1 k, LeO (laws_FnExactLeastAlphabet.f k a0 a1) (laws_FnExactLeastAlphabet.f (k + 1) a0 a1) := by
 intro a0 a1 k
 obtain ⟨ih0, ih1, ih2⟩ := laws_FnExactLeastAlphabet.mono_l k
 unfold laws_FnExactLeastAlphabet.f
 repeat' first
   | (with_reducible exact ih0 _ _ _ _ _ _ _ _ _ _ _)
   | (with_reducible exact ih1 _ _ _ _ _ _ _ _)
   | (with_reducible exact ih2 _ _ _ _)
   | (with_reducible exact impl_LeastAlphabet.mono _ _ _)
   | (with_reducible exact laws_eqAlphabet.mono _ _ _ _ _)
   | (with_reducible exact laws_heldAlphabet.mono _ _ _ _)
   | (with_reducible exact laws_markAlphabet.mono _ _ _ _)
   | (with_reducible exact laws_toAlphabet.mono _ _ _)
   | (with_reducible exact spec_LeastAlphabet.mono _ _ _)
   | (with_reducible exact LeO.refl _)
   | (with_reducible exact LeO.none _)
   | (with_reducible refine LeO.ite ?_ ?_)
   | (with_reducible refine LeO.bind ?_ (fun _ => ?_))
   | exact ih0 _ _ _ _ _ _ _ _ _ _ _
   | exact ih1 _ _ _ _ _ _ _ _
   | exact ih2 _ _ _ _
   | exact impl_LeastAlphabet.mono _ _ _
   | exact laws_eqAlphabet.mono _ _ _ _ _
   | exact laws_heldAlphabet.mono _ _ _ _
   | exact laws_markAlphabet.mono _ _ _ _
   | exact laws_toAlphabet.mono _ _ _
   | exact spec_LeastAlphabet.mono _ _ _
   | exact LeO.none _
   | refine LeO.ite ?_ ?_
   | refine LeO.bind ?_ (fun _ => ?_)
set_option maxHeartbeats 8000000 in
set_option maxRecDepth 100000 in
theorem laws_FnExactLeastAlphabet.calls (k : Nat) (a0_0 : Int) (A0_1 : Option Addr) (c0_1 : Nat) (l0_1 : List Int) (r : Bool) (w : World) (hr0_1 : Kd.C (Kd.int .i64) w A0_1 l0_1.length l0_1) (hc0_1 : l0_1.length ≤ c0_1) (hT : TabW w) (h : laws_FnExactLeastAlphabet.f k a0_0 l0_1 = some r) :
  Calls Tryd.prog 3 #[.agg #[.int .i64 a0_0, .slice A0_1 l0_1.length c0_1]] w fun e w' => e = .returned (.bool r) ∧ Below w.heap.size w w' := by
 have hu24 := Tryd.underlying24; have hu26 := Tryd.underlying26; have HT := Aside0.mk hT; clear hT; have HR0_1 := Aside0.mk hr0_1; have HC0_1 := Aside0.mk hc0_1; clear hr0_1 hc0_1; have HB := Aside0.mk (Below.refl w.heap.size w)
 have H : ((laws_szAlphabet.f a0_0 l0_1 1048576).bind fun t294 => (if t294 < 0 then (some true) else ((laws_toAlphabet.f k a0_0 l0_1).bind fun bt295 => ((spec_LeastAlphabet.f k bt295.1 bt295.2).bind fun bt299 => ((laws_toAlphabet.f k a0_0 l0_1).bind fun bt305 => ((impl_LeastAlphabet.f k bt305.1 bt305.2).bind fun bt310 => ((laws_eqAlphabet.f k bt310.1 bt310.2.1 bt299.1 bt299.2.1).bind fun t316 => (if t316 = true then (laws_FnExactLeastAlphabet.j0 k bt299.2.2 bt310.2.2 (bt310.2.2 != bt299.2.2) a0_0 l0_1 bt299.1 bt299.2.1 bt305.1 bt305.2 bt310.1 bt310.2.1) else (laws_FnExactLeastAlphabet.j0 k bt299.2.2 bt310.2.2 true a0_0 l0_1 bt299.1 bt299.2.1 bt305.1 bt305.2 bt310.1 bt310.2.1))))))))) = some r := h
 clear h; replace H := Option.bind_eq_some_iff.mp H; obtain ⟨t294, A20, H⟩ := H
 replace H : (if t294 < 0 then (some true) else ((laws_toAlphabet.f k a0_0 l0_1).bind fun bt295 => ((spec_LeastAlphabet.f k bt295.1 bt295.2).bind fun bt299 => ((laws_toAlphabet.f k a0_0 l0_1).bind fun bt305 => ((impl_LeastAlphabet.f k bt305.1 bt305.2).bind fun bt310 => ((laws_eqAlphabet.f k bt310.1 bt310.2.1 bt299.1 bt299.2.1).bind fun t316 => (if t316 = true then (laws_FnExactLeastAlphabet.j0 k bt299.2.2 bt310.2.2 (bt310.2.2 != bt299.2.2) a0_0 l0_1 bt299.1 bt299.2.1 bt305.1 bt305.2 bt310.1 bt310.2.1) else (laws_FnExactLeastAlphabet.j0 k bt299.2.2 bt310.2.2 true a0_0 l0_1 bt299.1 bt299.2.1 bt305.1 bt305.2 bt310.1 bt310.2.1)))))))) = some r := H
 have A2 := Aside0.mk A20; clear A20
 by_cases c3 : t294 < 0
 ·rw [if_pos c3] at H
  have c3b0 : decide (t294 < 0) = true := decide_eq_true c3
  clear c3
  obtain rfl := Option.some.inj H
  go_enter Tryd.func3, Tryd.ntmps3
  go_wp2_with (first | ((with_reducible refine gate_dst (N := 1) rfl ?_); refine box_event ?hg (N := 1) ?hd (cs := #[.int .i64 a0_0, .slice A0_1 l0_1.length c0_1]) (t := 24) ?hr ?_; (case hd => rfl); (case hg => rfl); (case hr => first | (go_simp; done) | (go_simp; rfl)); intro gb293 hg w4 hbox hb; have BK293 := Aside0.mk (hbox); have GW293 := Aside0.mk ((by rw [hg]; exact (below_size (beQ HB)) : w.heap.size ≤ gb293)); have GE293 := Aside0.mk ((by rw [hg]; exact (below_size (beQ HB)) : w.heap.size ≤ gb293)); replace HB := Aside0.mk (below_step (beQ HB) hb); clear hb hbox hg; have hcz5_0 : w4.cell? ⟨gb293, 0, none⟩ = some (.int .i64 a0_0) := bc BK293 0; have hcz5_1 : w4.cell? ⟨gb293, 1, none⟩ = some (.slice A0_1 l0_1.length c0_1) := bc BK293 1; have hfz5_0 := blk_frozen BK293.out 0; have hfz5_1 := blk_frozen BK293.out 1) | ((with_reducible refine gate_callee (f := 5) rfl ?_); refine goesL_ (some 16) rfl rfl Tryd.func5 (by kernel_rfl) rfl #[.agg #[.int .i64 a0_0, .slice A0_1 l0_1.length c0_1], .int .i64 1048576] rfl lz ?_; (with_reducible refine (laws_szAlphabet.calls a0_0 _ _ l0_1 1048576 t294 _ ?side1 ?side2 A2.out).mono ?_); (case side1 => have q_ := Aside0.mk (Kd.C_below HR0_1.out HB.out); exact cQ q_); (case side2 => exact HC0_1.out); rintro e w6 ⟨rfl, hb⟩; refine ⟨_, rfl, ?_⟩; replace BK293 := bb BK293 hb; replace HB := Aside0.mk (below_step (beQ HB) hb); (try clear hb); (try clear hb2); (try clear hk); (try clear hi); (try clear hgw_)))
  go_ret
  exact ⟨rz, beQ HB⟩
 ·rw [if_neg c3] at H
  have c3b0 : decide (t294 < 0) = false := decide_eq_false c3
  clear c3; replace H := Option.bind_eq_some_iff.mp H
  obtain ⟨⟨t295, t296⟩, A70, H⟩ := H
  replace H : ((spec_LeastAlphabet.f k t295 t296).bind fun bt299 => ((laws_toAlphabet.f k a0_0 l0_1).bind fun bt305 => ((impl_LeastAlphabet.f k bt305.1 bt305.2).bind fun bt310 => ((laws_eqAlphabet.f k bt310.1 bt310.2.1 bt299.1 bt299.2.1).bind fun t316 => (if t316 = true then (laws_FnExactLeastAlphabet.j0 k bt299.2.2 bt310.2.2 (bt310.2.2 != bt299.2.2) a0_0 l0_1 bt299.1 bt299.2.1 bt305.1 bt305.2 bt310.1 bt310.2.1) else (laws_FnExactLeastAlphabet.j0 k bt299.2.2 bt310.2.2 true a0_0 l0_1 bt299.1 bt299.2.1 bt305.1 bt305.2 bt310.1 bt310.2.1)))))) = some r := H
  have A7 := Aside0.mk A70; clear A70; replace H := Option.bind_eq_some_iff.mp H
  obtain ⟨⟨t299, t300, t303⟩, A80, H⟩ := H
  replace H : ((laws_toAlphabet.f k a0_0 l0_1).bind fun bt305 => ((impl_LeastAlphabet.f k bt305.1 bt305.2).bind fun bt310 => ((laws_eqAlphabet.f k bt310.1 bt310.2.1 t299 t300).bind fun t316 => (if t316 = true then (laws_FnExactLeastAlphabet.j0 k t303 bt310.2.2 (bt310.2.2 != t303) a0_0 l0_1 t299 t300 bt305.1 bt305.2 bt310.1 bt310.2.1) else (laws_FnExactLeastAlphabet.j0 k t303 bt310.2.2 true a0_0 l0_1 t299 t300 bt305.1 bt305.2 bt310.1 bt310.2.1))))) = some r := H
  have A8 := Aside0.mk A80; clear A80; replace H := Option.bind_eq_some_iff.mp H
  obtain ⟨⟨t305, t306⟩, A90, H⟩ := H
  replace H : ((impl_LeastAlphabet.f k t305 t306).bind fun bt310 => ((laws_eqAlphabet.f k bt310.1 bt310.2.1 t299 t300).bind fun t316 => (if t316 = true then (laws_FnExactLeastAlphabet.j0 k t303 bt310.2.2 (bt310.2.2 != t303) a0_0 l0_1 t299 t300 t305 t306 bt310.1 bt310.2.1) else (laws_FnExactLeastAlphabet.j0 k t303 bt310.2.2 true a0_0 l0_1 t299 t300 t305 t306 bt310.1 bt310.2.1)))) = some r := H
  have A9 := Aside0.mk A90; clear A90; replace H := Option.bind_eq_some_iff.mp H
  obtain ⟨⟨t310, t311, t314⟩, A100, H⟩ := H
  replace H : ((laws_eqAlphabet.f k t310 t311 t299 t300).bind fun t316 => (if t316 = true then (laws_FnExactLeastAlphabet.j0 k t303 t314 (t314 != t303) a0_0 l0_1 t299 t300 t305 t306 t310 t311) else (laws_FnExactLeastAlphabet.j0 k t303 t314 true a0_0 l0_1 t299 t300 t305 t306 t310 t311))) = some r := H
  have A10 := Aside0.mk A100; clear A100; have HC11 := Aside0.mk H; clear H
  go_enter Tryd.func3, Tryd.ntmps3
  go_upto_region 8 with (first | ((with_reducible refine gate_dst (N := 1) rfl ?_); refine box_event ?hg (N := 1) ?hd (cs := #[.int .i64 a0_0, .slice A0_1 l0_1.length c0_1]) (t := 24) ?hr ?_; (case hd => rfl); (case hg => rfl); (case hr => first | (go_simp; done) | (go_simp; rfl)); intro gb293 hg w12 hbox hb; have BK293 := Aside0.mk (hbox); have GW293 := Aside0.mk ((by rw [hg]; exact (below_size (beQ HB)) : w.heap.size ≤ gb293)); have GE293 := Aside0.mk ((by rw [hg]; exact (below_size (beQ HB)) : w.heap.size ≤ gb293)); replace HB := Aside0.mk (below_step (beQ HB) hb); clear hb hbox hg; have hcz13_0 : w12.cell? ⟨gb293, 0, none⟩ = some (.int .i64 a0_0) := bc BK293 0; have hcz13_1 : w12.cell? ⟨gb293, 1, none⟩ = some (.slice A0_1 l0_1.length c0_1) := bc BK293 1; have hfz13_0 := blk_frozen BK293.out 0; have hfz13_1 := blk_frozen BK293.out 1) | ((with_reducible refine gate_callee (f := 5) rfl ?_); refine goesL_ (some 16) rfl rfl Tryd.func5 (by kernel_rfl) rfl #[.agg #[.int .i64 a0_0, .slice A0_1 l0_1.length c0_1], .int .i64 1048576] rfl lz ?_; (with_reducible refine (laws_szAlphabet.calls a0_0 _ _ l0_1 1048576 t294 _ ?side1 ?side2 A2.out).mono ?_); (case side1 => have q_ := Aside0.mk (Kd.C_below HR0_1.out HB.out); exact cQ q_); (case side2 => exact HC0_1.out); rintro e w14 ⟨rfl, hb⟩; refine ⟨_, rfl, ?_⟩; replace BK293 := bb BK293 hb; replace HB := Aside0.mk (below_step (beQ HB) hb); (try clear hb); (try clear hb2); (try clear hk); (try clear hi); (try clear hgw_); have hcz15_0 : w14.cell? ⟨gb293, 0, none⟩ = some (.int .i64 a0_0) := bc BK293 0; have hcz15_1 : w14.cell? ⟨gb293, 1, none⟩ = some (.slice A0_1 l0_1.length c0_1) := bc BK293 1; have hfz15_0 := blk_frozen BK293.out 0; have hfz15_1 := blk_frozen BK293.out 1) | ((with_reducible refine gate_callee (f := 7) rfl ?_); refine goesL_ (some 21) rfl rfl Tryd.func7 (by kernel_rfl) rfl #[.agg #[.int .i64 a0_0, .slice A0_1 l0_1.length c0_1]] rfl lz ?_; (with_reducible refine (laws_toAlphabet.calls k a0_0 _ _ l0_1 t295 t296 _ ?side1 ?side2 A7.out).mono ?_); (case side1 => have q_ := Aside0.mk (Kd.C_below HR0_1.out HB.out); exact cQ q_); (case side2 => exact HC0_1.out); rintro e w16 ⟨v297, rfl, ho0, hb⟩; refine ⟨_, rfl, ?_⟩; have HO298 := Aside0.mk (Kd.R_lower ho0 (below_size (beQ HB))); replace BK293 := bb BK293 hb; replace HB := Aside0.mk (below_step (beQ HB) hb); (try clear hb); (try clear hb2); (try clear hk); (try clear hi); (try clear hgw_); (try clear ho0); obtain ⟨Ao17, co17, eo17⟩ := Kd.R_slice HO298.out; subst eo17) | ((with_reducible refine gate_callee (f := 6) rfl ?_); refine goesL_ (some 22) rfl rfl Tryd.func6 (by kernel_rfl) rfl #[.agg #[.int .i64 t295, .slice Ao17 t296.length co17]] rfl lz ?_; (with_reducible refine (spec_LeastAlphabet.calls k t295 _ _ t296 t299 t300 t303 _ ?side1 ?side2 A8.out).mono ?_); (case side1 => have q_ := Aside0.mk (Kd.R_reads' HO298.out).2.2; exact cQ q_); (case side2 => exact (Kd.R_reads' HO298.out).2.1); rintro e w18 ⟨v301, rfl, ho0, hb⟩; refine ⟨_, rfl, ?_⟩; have HO302 := Aside0.mk (Kd.V_lower (Kd.V_mono (ok' := fun k_ => some k_ ≠ (.slice Ao17 t296.length co17 : Value).ownBlock ∧ k_ ≠ gb293) ho0 (fun k_ hk_ => ⟨(Kd.fresh' (Kd.R_lt (kdQ HO298)) k_ hk_), (Kd.freshB (g := gb293) (o := .cells #[.int .i64 a0_0, .slice A0_1 l0_1.length c0_1] 24 (0, 0)) (blkQ BK293) k_ hk_)⟩)) (below_size (beQ HB))); replace HO298 := kb HO298 hb; replace BK293 := bb BK293 hb; replace HB := Aside0.mk (below_step (beQ HB) hb); (try clear hb); (try clear hb2); (try clear hk); (try clear hi); (try clear hgw_); (try clear ho0)) | ((with_reducible refine gate_dst (N := 4) rfl ?_); refine box_event ?hg (N := 4) ?hd (cs := #[.int .i64 0, .slice none 0 0]) (t := 26) ?hr ?_; (case hd => rfl); (case hg => rfl); (case hr => first | (go_simp; done) | (go_simp; rfl)); intro gb304 hg w19 hbox hb; replace HO298 := kb HO298 hb; replace HO302 := Aside0.mk (Kd.V_below (Kd.V_elderB (by (with_reducible repeat (first | apply Kd.V_alloc | apply Kd.V_drewN | apply Kd.V_drew)); exact HO302.out) gb304 (Nat.le_of_eq hg.symm)) hb); have BK304 := Aside0.mk (hbox); have GW304 := Aside0.mk ((by rw [hg]; exact (below_size (beQ HB)) : w.heap.size ≤ gb304)); have GE304 := Aside0.mk ((by rw [hg]; exact (below_size (beQ HB)) : w.heap.size ≤ gb304)); replace HB := Aside0.mk (below_step (beQ HB) hb); have NB293_304 := Aside0.mk ((by rw [hg]; exact Nat.ne_of_lt (blk_lt (blkQ BK293)) : gb293 ≠ gb304)); have NB304_293 := Aside0.mk ((by rw [hg]; exact Nat.ne_of_gt (blk_lt (blkQ BK293)) : gb304 ≠ gb293)); replace BK293 := bb BK293 hb; clear hb hbox hg; have hnb20 := NB304_293.out; have hnc20 := NB293_304.out; have hcz21_0 : w19.cell? ⟨gb304, 0, none⟩ = some (.int .i64 0) := bc BK304 0; have hcz21_1 : w19.cell? ⟨gb304, 1, none⟩ = some (.slice none 0 0) := bc BK304 1; have hfz21_0 := blk_frozen BK304.out 0; have hfz21_1 := blk_frozen BK304.out 1; obtain ⟨Ao22, co22, eo22⟩ := Kd.V_slice HO302.out; subst eo22; have hcz23_0 : w19.cell? ⟨gb293, 0, none⟩ = some (.int .i64 a0_0) := bc BK293 0; have hcz23_1 : w19.cell? ⟨gb293, 1, none⟩ = some (.slice A0_1 l0_1.length c0_1) := bc BK293 1; have hfz23_0 := blk_frozen BK293.out 0; have hfz23_1 := blk_frozen BK293.out 1) | ((with_reducible refine gate_callee (f := 7) rfl ?_); refine goesL_ (some 26) rfl rfl Tryd.func7 (by kernel_rfl) rfl #[.agg #[.int .i64 a0_0, .slice A0_1 l0_1.length c0_1]] rfl lz ?_; (with_reducible refine (laws_toAlphabet.calls k a0_0 _ _ l0_1 t305 t306 _ ?side1 ?side2 A9.out).mono ?_); (case side1 => exact Kd.C_below HR0_1.out (beQ HB)); (case side2 => exact HC0_1.out); rintro e w24 ⟨v307, rfl, ho0, hb⟩; refine ⟨_, rfl, ?_⟩; replace HO302 := Aside0.mk (Kd.V_elder' (by (with_reducible repeat (first | apply Kd.V_alloc | apply Kd.V_drewN | apply Kd.V_drew)); exact (Kd.V_mono (Kd.V_far (p := ⟨gb304, 1, none⟩) (Kd.V_far (p := ⟨gb304, 0, none⟩) (Kd.V_mono HO302.out (fun k_ hk => (⟨hk, hk.2⟩ : _ ∧ k_ ≠ gb304))) (fun _ hk => hk.2) (.int .i64 t299)) (fun _ hk => hk.2) (.slice Ao22 t300.length co22)) (fun _ h_ => h_.1))) (Kd.R_base ho0) hb); have HO308 := Aside0.mk (Kd.R_lower (Kd.R_new' ho0 (Kd.R_lt (by (with_reducible repeat (first | apply Kd.R_alloc | apply Kd.R_drewN | apply Kd.R_drew)); exact (Kd.R_mono (Kd.R_far (p := ⟨gb304, 1, none⟩) (Kd.R_far (p := ⟨gb304, 0, none⟩) (Kd.R_types HO298.out BK304.out (by decide)) (fun _ hk => hk.2) (.int .i64 t299)) (fun _ hk => hk.2) (.slice Ao22 t300.length co22)) (fun _ h_ => h_.1))))) (below_size (beQ HB))); replace HO298 := Aside0.mk (Kd.R_elder' (by (with_reducible repeat (first | apply Kd.R_alloc | apply Kd.R_drewN | apply Kd.R_drew)); exact (Kd.R_mono (Kd.R_far (p := ⟨gb304, 1, none⟩) (Kd.R_far (p := ⟨gb304, 0, none⟩) (Kd.R_types HO298.out BK304.out (by decide)) (fun _ hk => hk.2) (.int .i64 t299)) (fun _ hk => hk.2) (.slice Ao22 t300.length co22)) (fun _ h_ => h_.1))) (Kd.R_base ho0) hb); replace BK293 := Aside0.mk (blk_below (blkF BK293) hb); replace BK304 := Aside0.mk (blk_below (g := gb304) (o := .cells #[.int .i64 t299, .slice Ao22 t300.length co22] 26 (0, 0)) (by (with_reducible repeat (first | refine blk_drewN ?_ _ | refine blk_drew ?_ | refine blk_alloc ?_ _)); refine blk_put (cs := #[.int .i64 t299, .slice none 0 0]) ?_ 1 _ rfl; (with_reducible repeat (first | refine blk_drewN ?_ _ | refine blk_drew ?_ | refine blk_alloc ?_ _)); refine blk_put (cs := #[.int .i64 0, .slice none 0 0]) ?_ 0 _ rfl; (with_reducible repeat (first | refine blk_drewN ?_ _ | refine blk_drew ?_ | refine blk_alloc ?_ _)); exact BK304.out) hb); replace HB := Aside0.mk (below_step (beQ HB) hb); (try clear hb); (try clear hb2); (try clear hk); (try clear hi); (try clear hgw_); (try clear ho0)) | ((with_reducible refine gate_dst (N := 6) rfl ?_); refine box_event ?hg (N := 6) ?hd (cs := #[.int .i64 0, .slice none 0 0]) (t := 26) ?hr ?_; (case hd => rfl); (case hg => rfl); (case hr => first | (go_simp; done) | (go_simp; rfl)); intro gb309 hg w25 hbox hb; replace HO298 := kb HO298 hb; replace HO302 := Aside0.mk (Kd.V_below (Kd.V_elderB (by (with_reducible repeat (first | apply Kd.V_alloc | apply Kd.V_drewN | apply Kd.V_drew)); exact HO302.out) gb309 (Nat.le_of_eq hg.symm)) hb); replace HO308 := kb HO308 hb; have BK309 := Aside0.mk (hbox); have GW309 := Aside0.mk ((by rw [hg]; exact (below_size (beQ HB)) : w.heap.size ≤ gb309)); have GE309 := Aside0.mk ((by rw [hg]; exact (below_size (beQ HB)) : w.heap.size ≤ gb309)); replace HB := Aside0.mk (below_step (beQ HB) hb); have NB293_309 := Aside0.mk ((by rw [hg]; exact Nat.ne_of_lt (blk_lt (blkQ BK293)) : gb293 ≠ gb309)); have NB309_293 := Aside0.mk ((by rw [hg]; exact Nat.ne_of_gt (blk_lt (blkQ BK293)) : gb309 ≠ gb293)); replace BK293 := bb BK293 hb; have NB304_309 := Aside0.mk ((by rw [hg]; exact Nat.ne_of_lt (blk_lt (blkQ BK304)) : gb304 ≠ gb309)); have NB309_304 := Aside0.mk ((by rw [hg]; exact Nat.ne_of_gt (blk_lt (blkQ BK304)) : gb309 ≠ gb304)); replace BK304 := bb BK304 hb; clear hb hbox hg; have hnb26 := NB309_293.out; have hnc26 := NB293_309.out; have hnb27 := NB309_304.out; have hnc27 := NB304_309.out; have hcz28_0 : w25.cell? ⟨gb309, 0, none⟩ = some (.int .i64 0) := bc BK309 0; have hcz28_1 : w25.cell? ⟨gb309, 1, none⟩ = some (.slice none 0 0) := bc BK309 1; have hfz28_0 := blk_frozen BK309.out 0; have hfz28_1 := blk_frozen BK309.out 1; obtain ⟨Ao29, co29, eo29⟩ := Kd.R_slice HO308.out; subst eo29) | ((with_reducible refine gate_callee (f := 8) rfl ?_); refine goesL_ (some 29) rfl rfl Tryd.func8 (by kernel_rfl) rfl #[.agg #[.int .i64 t305, .slice Ao29 t306.length co29]] rfl lz ?_; (with_reducible refine (impl_LeastAlphabet.calls k t305 _ _ t306 t310 t311 t314 _ ?side1 ?side2 ?side3 A10.out).mono ?_); (case side1 => refine (Kd.R_reads' (e := 2) (base := w.heap.size) (ok := fun k_ => (True ∧ some k_ ≠ (.slice Ao17 t296.length co17 : Value).ownBlock)) (n := t306.length) (c := co29) ?_).2.2; exact (by (with_reducible repeat (first | apply Kd.R_alloc | apply Kd.R_drewN | apply Kd.R_drew)); exact (Kd.R_mono (Kd.R_far (p := ⟨gb309, 1, none⟩) (Kd.R_far (p := ⟨gb309, 0, none⟩) (Kd.R_types HO308.out BK309.out (by decide)) (fun _ hk => hk.2) (.int .i64 t305)) (fun _ hk => hk.2) (.slice Ao29 t306.length co29)) (fun _ h_ => h_.1)))); (case side2 => exact (Kd.R_reads' HO308.out).2.1); (case side3 => exact TabW.below HT.out (beQ HB)); rintro e w30 ⟨v312, rfl, ho0, hb⟩; refine ⟨_, rfl, ?_⟩; replace HO302 := Aside0.mk (Kd.V_elder' (by (with_reducible repeat (first | apply Kd.V_alloc | apply Kd.V_drewN | apply Kd.V_drew)); exact (Kd.V_mono (Kd.V_far (p := ⟨gb309, 1, none⟩) (Kd.V_far (p := ⟨gb309, 0, none⟩) (Kd.V_mono HO302.out (fun k_ hk => (⟨hk, hk.2⟩ : _ ∧ k_ ≠ gb309))) (fun _ hk => hk.2) (.int .i64 t305)) (fun _ hk => hk.2) (.slice Ao29 t306.length co29)) (fun _ h_ => h_.1))) (Kd.R_base ho0) hb); have HO313 := Aside0.mk (Kd.R_lower (Kd.R_new' (Kd.R_new' ho0 (Kd.R_lt (by (with_reducible repeat (first | apply Kd.R_alloc | apply Kd.R_drewN | apply Kd.R_drew)); exact (Kd.R_mono (Kd.R_far (p := ⟨gb309, 1, none⟩) (Kd.R_far (p := ⟨gb309, 0, none⟩) (Kd.R_types HO298.out BK309.out (by decide)) (fun _ hk => hk.2) (.int .i64 t305)) (fun _ hk => hk.2) (.slice Ao29 t306.length co29)) (fun _ h_ => h_.1))))) (Kd.R_lt (by (with_reducible repeat (first | apply Kd.R_alloc | apply Kd.R_drewN | apply Kd.R_drew)); exact (Kd.R_mono (Kd.R_far (p := ⟨gb309, 1, none⟩) (Kd.R_far (p := ⟨gb309, 0, none⟩) (Kd.R_types HO308.out BK309.out (by decide)) (fun _ hk => hk.2) (.int .i64 t305)) (fun _ hk => hk.2) (.slice Ao29 t306.length co29)) (fun _ h_ => h_.1))))) (below_size (beQ HB))); replace HO298 := Aside0.mk (Kd.R_elder' (by (with_reducible repeat (first | apply Kd.R_alloc | apply Kd.R_drewN | apply Kd.R_drew)); exact (Kd.R_mono (Kd.R_far (p := ⟨gb309, 1, none⟩) (Kd.R_far (p := ⟨gb309, 0, none⟩) (Kd.R_types HO298.out BK309.out (by decide)) (fun _ hk => hk.2) (.int .i64 t305)) (fun _ hk => hk.2) (.slice Ao29 t306.length co29)) (fun _ h_ => h_.1))) (Kd.R_base ho0) hb); replace HO308 := Aside0.mk (Kd.R_elder' (by (with_reducible repeat (first | apply Kd.R_alloc | apply Kd.R_drewN | apply Kd.R_drew)); exact (Kd.R_mono (Kd.R_far (p := ⟨gb309, 1, none⟩) (Kd.R_far (p := ⟨gb309, 0, none⟩) (Kd.R_types HO308.out BK309.out (by decide)) (fun _ hk => hk.2) (.int .i64 t305)) (fun _ hk => hk.2) (.slice Ao29 t306.length co29)) (fun _ h_ => h_.1))) (Kd.R_base ho0) hb); replace BK293 := Aside0.mk (blk_below (blkF BK293) hb); replace BK304 := Aside0.mk (blk_below (blkF BK304) hb); replace BK309 := Aside0.mk (blk_below (g := gb309) (o := .cells #[.int .i64 t305, .slice Ao29 t306.length co29] 26 (0, 0)) (by (with_reducible repeat (first | refine blk_drewN ?_ _ | refine blk_drew ?_ | refine blk_alloc ?_ _)); refine blk_put (cs := #[.int .i64 t305, .slice none 0 0]) ?_ 1 _ rfl; (with_reducible repeat (first | refine blk_drewN ?_ _ | refine blk_drew ?_ | refine blk_alloc ?_ _)); refine blk_put (cs := #[.int .i64 0, .slice none 0 0]) ?_ 0 _ rfl; (with_reducible repeat (first | refine blk_drewN ?_ _ | refine blk_drew ?_ | refine blk_alloc ?_ _)); exact BK309.out) hb); replace HB := Aside0.mk (below_step (beQ HB) hb); (try clear hb); (try clear hb2); (try clear hk); (try clear hi); (try clear hgw_); (try clear ho0)) | ((with_reducible refine gate_dst (N := 7) rfl ?_); refine box_event ?hg (N := 7) ?hd (cs := #[.int .i64 0, .slice none 0 0]) (t := 26) ?hr ?_; (case hd => rfl); (case hg => rfl); (case hr => first | (go_simp; done) | (go_simp; rfl)); intro gb315 hg w31 hbox hb; replace HO298 := kb HO298 hb; replace HO302 := Aside0.mk (Kd.V_below (Kd.V_elderB (by (with_reducible repeat (first | apply Kd.V_alloc | apply Kd.V_drewN | apply Kd.V_drew)); exact HO302.out) gb315 (Nat.le_of_eq hg.symm)) hb); replace HO308 := kb HO308 hb; replace HO313 := kb HO313 hb; have BK315 := Aside0.mk (hbox); have GW315 := Aside0.mk ((by rw [hg]; exact (below_size (beQ HB)) : w.heap.size ≤ gb315)); have GE315 := Aside0.mk ((by rw [hg]; exact (below_size (beQ HB)) : w.heap.size ≤ gb315)); replace HB := Aside0.mk (below_step (beQ HB) hb); have NB293_315 := Aside0.mk ((by rw [hg]; exact Nat.ne_of_lt (blk_lt (blkQ BK293)) : gb293 ≠ gb315)); have NB315_293 := Aside0.mk ((by rw [hg]; exact Nat.ne_of_gt (blk_lt (blkQ BK293)) : gb315 ≠ gb293)); replace BK293 := bb BK293 hb; have NB304_315 := Aside0.mk ((by rw [hg]; exact Nat.ne_of_lt (blk_lt (blkQ BK304)) : gb304 ≠ gb315)); have NB315_304 := Aside0.mk ((by rw [hg]; exact Nat.ne_of_gt (blk_lt (blkQ BK304)) : gb315 ≠ gb304)); replace BK304 := bb BK304 hb; have NB309_315 := Aside0.mk ((by rw [hg]; exact Nat.ne_of_lt (blk_lt (blkQ BK309)) : gb309 ≠ gb315)); have NB315_309 := Aside0.mk ((by rw [hg]; exact Nat.ne_of_gt (blk_lt (blkQ BK309)) : gb315 ≠ gb309)); replace BK309 := bb BK309 hb; clear hb hbox hg; have hnb32 := NB315_293.out; have hnc32 := NB293_315.out; have hnb33 := NB315_304.out; have hnc33 := NB304_315.out; have hnb34 := NB315_309.out; have hnc34 := NB309_315.out; have hcz35_0 : w31.cell? ⟨gb315, 0, none⟩ = some (.int .i64 0) := bc BK315 0; have hcz35_1 : w31.cell? ⟨gb315, 1, none⟩ = some (.slice none 0 0) := bc BK315 1; have hfz35_0 := blk_frozen BK315.out 0; have hfz35_1 := blk_frozen BK315.out 1; obtain ⟨Ao36, co36, eo36⟩ := Kd.R_slice HO313.out; subst eo36))
  (try simp only [Act.put, List.setIfInBounds_toArray, List.set_cons_zero, List.set_cons_succ])
  go_cut [40] (fun v40 wc => ∃ (kq : Nat) (x40_10 : Bool), v40 = .bool x40_10 ∧ Aside0 (laws_FnExactLeastAlphabet.j0 kq t303 t314 x40_10 a0_0 l0_1 t299 t300 t305 t306 t310 t311 = some r) ∧ Aside0 (kq ≤ k) ∧ Aside0 (Kd.V (Kd.int .i64) 2 wc w.heap.size (fun k_ => some k_ ≠ ((.slice Ao29 t306.length co29) : Value).ownBlock ∧ some k_ ≠ ((.slice Ao36 t311.length co36) : Value).ownBlock ∧ k_ ≠ gb293 ∧ k_ ≠ gb304 ∧ k_ ≠ gb309 ∧ k_ ≠ gb315) (.slice Ao22 t300.length co22) t300) ∧ Aside0 (Kd.R (Kd.int .i64) 2 wc w.heap.size (fun k_ => some k_ ≠ ((.slice Ao36 t311.length co36) : Value).ownBlock) (.slice Ao29 t306.length co29) t306) ∧ Aside0 (Kd.R (Kd.int .i64) 2 wc w.heap.size (fun k_ => some k_ ≠ ((.slice Ao29 t306.length co29) : Value).ownBlock) (.slice Ao36 t311.length co36) t311) ∧ Aside0 (wc.heap[gb293]? = some (.cells #[.int .i64 a0_0, (.slice A0_1 l0_1.length c0_1)] 24 (0, 0))) ∧ Aside0 (wc.heap[gb304]? = some (.cells #[.int .i64 t299, (.slice Ao22 t300.length co22)] 26 (0, 0))) ∧ Aside0 (wc.heap[gb309]? = some (.cells #[.int .i64 t305, (.slice Ao29 t306.length co29)] 26 (0, 0))) ∧ Aside0 (wc.heap[gb315]? = some (.cells #[.int .i64 t310, (.slice Ao36 t311.length co36)] 26 (0, 0))) ∧ Aside0 (Below w.heap.size w wc))
  case first =>
   have H := HC11.out; clear HC11; replace H := Option.bind_eq_some_iff.mp H; obtain ⟨t316, A370, H⟩ := H
   replace H : (if t316 = true then (laws_FnExactLeastAlphabet.j0 k t303 t314 (t314 != t303) a0_0 l0_1 t299 t300 t305 t306 t310 t311) else (laws_FnExactLeastAlphabet.j0 k t303 t314 true a0_0 l0_1 t299 t300 t305 t306 t310 t311)) = some r := H
   have A37 := Aside0.mk A370; clear A370
   by_cases c38 : t316 = true
   ·subst c38
    have H1 : (laws_FnExactLeastAlphabet.j0 k t303 t314 (t314 != t303) a0_0 l0_1 t299 t300 t305 t306 t310 t311) = some r := by rw [if_pos rfl] at H; exact H
    clear H; have H := H1; clear H1
    have H' := Aside0.mk H
    clear H; have hnb39 := NB315_293.out; have hnc39 := NB293_315.out; have hnb40 := NB315_304.out; have hnc40 := NB304_315.out; have hnb41 := NB315_309.out; have hnc41 := NB309_315.out
    have hcz42_0 : w31.cell? ⟨gb315, 0, none⟩ = some (.int .i64 0) := bc BK315 0
    have hcz42_1 : w31.cell? ⟨gb315, 1, none⟩ = some (.slice none 0 0) := bc BK315 1
    have hfz42_0 := blk_frozen BK315.out 0; have hfz42_1 := blk_frozen BK315.out 1; have hnb43 := NB304_293.out; have hnc43 := NB293_304.out; have hnb44 := NB304_309.out; have hnc44 := NB309_304.out
    have hcz45_0 : w31.cell? ⟨gb304, 0, none⟩ = some (.int .i64 t299) := bc BK304 0
    have hcz45_1 : w31.cell? ⟨gb304, 1, none⟩ = some (.slice Ao22 t300.length co22) := bc BK304 1
    have hfz45_0 := blk_frozen BK304.out 0; have hfz45_1 := blk_frozen BK304.out 1
    go_wp2_with (first | ((with_reducible refine gate_callee (f := 9) rfl ?_); refine goesL_ (some 34) rfl rfl Tryd.func9 (by kernel_rfl) rfl #[.agg #[.int .i64 t310, .slice Ao36 t311.length co36], .agg #[.int .i64 t299, .slice Ao22 t300.length co22]] rfl lz ?_; (with_reducible refine (laws_eqAlphabet.calls k t310 _ _ t311 t299 _ _ t300 true _ ?side1 ?side2 ?side3 ?side4 A37.out).mono ?_); (case side1 => refine (Kd.R_reads' (e := 2) (base := w.heap.size) (ok := fun k_ => ((True ∧ some k_ ≠ (.slice Ao17 t296.length co17 : Value).ownBlock) ∧ some k_ ≠ (.slice Ao29 t306.length co29 : Value).ownBlock)) (n := t311.length) (c := co36) ?_).2.2; exact (by (with_reducible repeat (first | apply Kd.R_alloc | apply Kd.R_drewN | apply Kd.R_drew)); exact (Kd.R_mono (Kd.R_far (p := ⟨gb315, 1, none⟩) (Kd.R_far (p := ⟨gb315, 0, none⟩) (Kd.R_types HO313.out BK315.out (by decide)) (fun _ hk => hk.2) (.int .i64 t310)) (fun _ hk => hk.2) (.slice Ao36 t311.length co36)) (fun _ h_ => h_.1)))); (case side2 => exact (Kd.R_reads' HO313.out).2.1); (case side3 => refine (Kd.V_reads' (e := 2) (base := w.heap.size) (ok := fun k_ => ((((((some k_ ≠ (.slice Ao17 t296.length co17 : Value).ownBlock ∧ k_ ≠ gb293) ∧ k_ ≠ gb304) ∧ some k_ ≠ (.slice Ao29 t306.length co29 : Value).ownBlock) ∧ k_ ≠ gb309) ∧ some k_ ≠ (.slice Ao36 t311.length co36 : Value).ownBlock) ∧ k_ ≠ gb315)) (n := t300.length) (c := co22) ?_).2.2; exact (by (with_reducible repeat (first | apply Kd.V_alloc | apply Kd.V_drewN | apply Kd.V_drew)); exact (Kd.V_mono (Kd.V_far (p := ⟨gb315, 1, none⟩) (Kd.V_far (p := ⟨gb315, 0, none⟩) (Kd.V_mono HO302.out (fun k_ hk => (⟨hk, hk.2⟩ : _ ∧ k_ ≠ gb315))) (fun _ hk => hk.2) (.int .i64 t310)) (fun _ hk => hk.2) (.slice Ao36 t311.length co36)) (fun _ h_ => h_.1)))); (case side4 => exact (Kd.V_reads' HO302.out).2.1); rintro e w46 ⟨rfl, hb⟩; refine ⟨_, rfl, ?_⟩; replace HO298 := Aside0.mk (Kd.R_below (by (with_reducible repeat (first | apply Kd.R_alloc | apply Kd.R_drewN | apply Kd.R_drew)); exact (Kd.R_mono (Kd.R_far (p := ⟨gb315, 1, none⟩) (Kd.R_far (p := ⟨gb315, 0, none⟩) (Kd.R_types HO298.out BK315.out (by decide)) (fun _ hk => hk.2) (.int .i64 t310)) (fun _ hk => hk.2) (.slice Ao36 t311.length co36)) (fun _ h_ => h_.1))) hb); replace HO302 := Aside0.mk (Kd.V_below (by (with_reducible repeat (first | apply Kd.V_alloc | apply Kd.V_drewN | apply Kd.V_drew)); exact (Kd.V_mono (Kd.V_far (p := ⟨gb315, 1, none⟩) (Kd.V_far (p := ⟨gb315, 0, none⟩) (Kd.V_mono HO302.out (fun k_ hk => (⟨hk, hk.2⟩ : _ ∧ k_ ≠ gb315))) (fun _ hk => hk.2) (.int .i64 t310)) (fun _ hk => hk.2) (.slice Ao36 t311.length co36)) (fun _ h_ => h_.1))) hb); replace HO308 := Aside0.mk (Kd.R_below (by (with_reducible repeat (first | apply Kd.R_alloc | apply Kd.R_drewN | apply Kd.R_drew)); exact (Kd.R_mono (Kd.R_far (p := ⟨gb315, 1, none⟩) (Kd.R_far (p := ⟨gb315, 0, none⟩) (Kd.R_types HO308.out BK315.out (by decide)) (fun _ hk => hk.2) (.int .i64 t310)) (fun _ hk => hk.2) (.slice Ao36 t311.length co36)) (fun _ h_ => h_.1))) hb); replace HO313 := Aside0.mk (Kd.R_below (by (with_reducible repeat (first | apply Kd.R_alloc | apply Kd.R_drewN | apply Kd.R_drew)); exact (Kd.R_mono (Kd.R_far (p := ⟨gb315, 1, none⟩) (Kd.R_far (p := ⟨gb315, 0, none⟩) (Kd.R_types HO313.out BK315.out (by decide)) (fun _ hk => hk.2) (.int .i64 t310)) (fun _ hk => hk.2) (.slice Ao36 t311.length co36)) (fun _ h_ => h_.1))) hb); replace BK293 := Aside0.mk (blk_below (blkF BK293) hb); replace BK304 := Aside0.mk (blk_below (blkF BK304) hb); replace BK309 := Aside0.mk (blk_below (blkF BK309) hb); replace BK315 := Aside0.mk (blk_below (g := gb315) (o := .cells #[.int .i64 t310, .slice Ao36 t311.length co36] 26 (0, 0)) (by (with_reducible repeat (first | refine blk_drewN ?_ _ | refine blk_drew ?_ | refine blk_alloc ?_ _)); refine blk_put (cs := #[.int .i64 t310, .slice none 0 0]) ?_ 1 _ rfl; (with_reducible repeat (first | refine blk_drewN ?_ _ | refine blk_drew ?_ | refine blk_alloc ?_ _)); refine blk_put (cs := #[.int .i64 0, .slice none 0 0]) ?_ 0 _ rfl; (with_reducible repeat (first | refine blk_drewN ?_ _ | refine blk_drew ?_ | refine blk_alloc ?_ _)); exact BK315.out) hb); replace HB := Aside0.mk (below_step (beQ HB) hb); (try clear hb); (try clear hb2); (try clear hk); (try clear hi); (try clear hgw_)))
    go_meet
    case rel => exact ⟨_, ((t314 != t303)), sz, H', ⟨by first | omega | exact Nat.le_refl _⟩, ⟨by (with_reducible repeat (first | apply Kd.V_alloc | apply Kd.V_drewN | apply Kd.V_drew)); exact Kd.V_mono HO302.out (fun _ hk => ⟨hk.1.1.1.2, ⟨hk.1.2, ⟨hk.1.1.1.1.1.2, ⟨hk.1.1.1.1.2, ⟨hk.1.1.2, hk.2⟩⟩⟩⟩⟩)⟩, ⟨by (with_reducible repeat (first | apply Kd.R_alloc | apply Kd.R_drewN | apply Kd.R_drew)); exact Kd.R_mono HO308.out (fun _ hk => hk.2)⟩, ⟨by (with_reducible repeat (first | apply Kd.R_alloc | apply Kd.R_drewN | apply Kd.R_drew)); exact Kd.R_mono HO313.out (fun _ hk => hk.2)⟩, ⟨blkQ BK293⟩, ⟨blkQ BK304⟩, ⟨blkQ BK309⟩, ⟨blkQ BK315⟩, ⟨beQ HB⟩⟩
   ·replace c38 := Bool.eq_false_iff.mpr c38
    subst c38
    have H1 : (laws_FnExactLeastAlphabet.j0 k t303 t314 true a0_0 l0_1 t299 t300 t305 t306 t310 t311) = some r := by rw [if_neg (show ¬ (false = true) by decide)] at H; exact H
    clear H; have H := H1; clear H1
    have H' := Aside0.mk H
    clear H; have hnb47 := NB315_293.out; have hnc47 := NB293_315.out; have hnb48 := NB315_304.out; have hnc48 := NB304_315.out; have hnb49 := NB315_309.out; have hnc49 := NB309_315.out
    have hcz50_0 : w31.cell? ⟨gb315, 0, none⟩ = some (.int .i64 0) := bc BK315 0
    have hcz50_1 : w31.cell? ⟨gb315, 1, none⟩ = some (.slice none 0 0) := bc BK315 1
    have hfz50_0 := blk_frozen BK315.out 0; have hfz50_1 := blk_frozen BK315.out 1; have hnb51 := NB304_293.out; have hnc51 := NB293_304.out; have hnb52 := NB304_309.out; have hnc52 := NB309_304.out
    have hcz53_0 : w31.cell? ⟨gb304, 0, none⟩ = some (.int .i64 t299) := bc BK304 0
    have hcz53_1 : w31.cell? ⟨gb304, 1, none⟩ = some (.slice Ao22 t300.length co22) := bc BK304 1
    have hfz53_0 := blk_frozen BK304.out 0; have hfz53_1 := blk_frozen BK304.out 1
    go_wp2_with (first | ((with_reducible refine gate_callee (f := 9) rfl ?_); refine goesL_ (some 34) rfl rfl Tryd.func9 (by kernel_rfl) rfl #[.agg #[.int .i64 t310, .slice Ao36 t311.length co36], .agg #[.int .i64 t299, .slice Ao22 t300.length co22]] rfl lz ?_; (with_reducible refine (laws_eqAlphabet.calls k t310 _ _ t311 t299 _ _ t300 false _ ?side1 ?side2 ?side3 ?side4 A37.out).mono ?_); (case side1 => refine (Kd.R_reads' (e := 2) (base := w.heap.size) (ok := fun k_ => ((True ∧ some k_ ≠ (.slice Ao17 t296.length co17 : Value).ownBlock) ∧ some k_ ≠ (.slice Ao29 t306.length co29 : Value).ownBlock)) (n := t311.length) (c := co36) ?_).2.2; exact (by (with_reducible repeat (first | apply Kd.R_alloc | apply Kd.R_drewN | apply Kd.R_drew)); exact (Kd.R_mono (Kd.R_far (p := ⟨gb315, 1, none⟩) (Kd.R_far (p := ⟨gb315, 0, none⟩) (Kd.R_types HO313.out BK315.out (by decide)) (fun _ hk => hk.2) (.int .i64 t310)) (fun _ hk => hk.2) (.slice Ao36 t311.length co36)) (fun _ h_ => h_.1)))); (case side2 => exact (Kd.R_reads' HO313.out).2.1); (case side3 => refine (Kd.V_reads' (e := 2) (base := w.heap.size) (ok := fun k_ => ((((((some k_ ≠ (.slice Ao17 t296.length co17 : Value).ownBlock ∧ k_ ≠ gb293) ∧ k_ ≠ gb304) ∧ some k_ ≠ (.slice Ao29 t306.length co29 : Value).ownBlock) ∧ k_ ≠ gb309) ∧ some k_ ≠ (.slice Ao36 t311.length co36 : Value).ownBlock) ∧ k_ ≠ gb315)) (n := t300.length) (c := co22) ?_).2.2; exact (by (with_reducible repeat (first | apply Kd.V_alloc | apply Kd.V_drewN | apply Kd.V_drew)); exact (Kd.V_mono (Kd.V_far (p := ⟨gb315, 1, none⟩) (Kd.V_far (p := ⟨gb315, 0, none⟩) (Kd.V_mono HO302.out (fun k_ hk => (⟨hk, hk.2⟩ : _ ∧ k_ ≠ gb315))) (fun _ hk => hk.2) (.int .i64 t310)) (fun _ hk => hk.2) (.slice Ao36 t311.length co36)) (fun _ h_ => h_.1)))); (case side4 => exact (Kd.V_reads' HO302.out).2.1); rintro e w54 ⟨rfl, hb⟩; refine ⟨_, rfl, ?_⟩; replace HO298 := Aside0.mk (Kd.R_below (by (with_reducible repeat (first | apply Kd.R_alloc | apply Kd.R_drewN | apply Kd.R_drew)); exact (Kd.R_mono (Kd.R_far (p := ⟨gb315, 1, none⟩) (Kd.R_far (p := ⟨gb315, 0, none⟩) (Kd.R_types HO298.out BK315.out (by decide)) (fun _ hk => hk.2) (.int .i64 t310)) (fun _ hk => hk.2) (.slice Ao36 t311.length co36)) (fun _ h_ => h_.1))) hb); replace HO302 := Aside0.mk (Kd.V_below (by (with_reducible repeat (first | apply Kd.V_alloc | apply Kd.V_drewN | apply Kd.V_drew)); exact (Kd.V_mono (Kd.V_far (p := ⟨gb315, 1, none⟩) (Kd.V_far (p := ⟨gb315, 0, none⟩) (Kd.V_mono HO302.out (fun k_ hk => (⟨hk, hk.2⟩ : _ ∧ k_ ≠ gb315))) (fun _ hk => hk.2) (.int .i64 t310)) (fun _ hk => hk.2) (.slice Ao36 t311.length co36)) (fun _ h_ => h_.1))) hb); replace HO308 := Aside0.mk (Kd.R_below (by (with_reducible repeat (first | apply Kd.R_alloc | apply Kd.R_drewN | apply Kd.R_drew)); exact (Kd.R_mono (Kd.R_far (p := ⟨gb315, 1, none⟩) (Kd.R_far (p := ⟨gb315, 0, none⟩) (Kd.R_types HO308.out BK315.out (by decide)) (fun _ hk => hk.2) (.int .i64 t310)) (fun _ hk => hk.2) (.slice Ao36 t311.length co36)) (fun _ h_ => h_.1))) hb); replace HO313 := Aside0.mk (Kd.R_below (by (with_reducible repeat (first | apply Kd.R_alloc | apply Kd.R_drewN | apply Kd.R_drew)); exact (Kd.R_mono (Kd.R_far (p := ⟨gb315, 1, none⟩) (Kd.R_far (p := ⟨gb315, 0, none⟩) (Kd.R_types HO313.out BK315.out (by decide)) (fun _ hk => hk.2) (.int .i64 t310)) (fun _ hk => hk.2) (.slice Ao36 t311.length co36)) (fun _ h_ => h_.1))) hb); replace BK293 := Aside0.mk (blk_below (blkF BK293) hb); replace BK304 := Aside0.mk (blk_below (blkF BK304) hb); replace BK309 := Aside0.mk (blk_below (blkF BK309) hb); replace BK315 := Aside0.mk (blk_below (g := gb315) (o := .cells #[.int .i64 t310, .slice Ao36 t311.length co36] 26 (0, 0)) (by (with_reducible repeat (first | refine blk_drewN ?_ _ | refine blk_drew ?_ | refine blk_alloc ?_ _)); refine blk_put (cs := #[.int .i64 t310, .slice none 0 0]) ?_ 1 _ rfl; (with_reducible repeat (first | refine blk_drewN ?_ _ | refine blk_drew ?_ | refine blk_alloc ?_ _)); refine blk_put (cs := #[.int .i64 0, .slice none 0 0]) ?_ 0 _ rfl; (with_reducible repeat (first | refine blk_drewN ?_ _ | refine blk_drew ?_ | refine blk_alloc ?_ _)); exact BK315.out) hb); replace HB := Aside0.mk (below_step (beQ HB) hb); (try clear hb); (try clear hb2); (try clear hk); (try clear hi); (try clear hgw_)))
    go_meet
    case rel => exact ⟨_, (true), sz, H', ⟨by first | omega | exact Nat.le_refl _⟩, ⟨by (with_reducible repeat (first | apply Kd.V_alloc | apply Kd.V_drewN | apply Kd.V_drew)); exact Kd.V_mono HO302.out (fun _ hk => ⟨hk.1.1.1.2, ⟨hk.1.2, ⟨hk.1.1.1.1.1.2, ⟨hk.1.1.1.1.2, ⟨hk.1.1.2, hk.2⟩⟩⟩⟩⟩)⟩, ⟨by (with_reducible repeat (first | apply Kd.R_alloc | apply Kd.R_drewN | apply Kd.R_drew)); exact Kd.R_mono HO308.out (fun _ hk => hk.2)⟩, ⟨by (with_reducible repeat (first | apply Kd.R_alloc | apply Kd.R_drewN | apply Kd.R_drew)); exact Kd.R_mono HO313.out (fun _ hk => hk.2)⟩, ⟨blkQ BK293⟩, ⟨blkQ BK304⟩, ⟨blkQ BK309⟩, ⟨blkQ BK315⟩, ⟨beQ HB⟩⟩
  case rest =>
   clear HC11
   try clear c2
   try clear p2
   try clear c3
   try clear c3b0
   try clear c4
   try clear c5
   try clear c6
   try clear c7
   try clear c8
   try clear c9
   try clear c20
   try clear c26
   try clear c27
   try clear c32
   try clear c33
   try clear c34
   try clear c38
   try clear c39
   try clear c40
   try clear c41
   try clear c43
   try clear c44
   try clear c47
   try clear c48
   try clear c49
   try clear c51
   try clear c52
   try clear hcz13_0
   try clear hcz13_1
   try clear hcz15_0
   try clear hcz15_1
   try clear hcz21_0
   try clear hcz21_1
   try clear hcz23_0
   try clear hcz23_1
   try clear hcz28_0
   try clear hcz28_1
   try clear hcz35_0
   try clear hcz35_1
   try clear hcz42_0
   try clear hcz42_1
   try clear hcz45_0
   try clear hcz45_1
   try clear hcz50_0
   try clear hcz50_1
   try clear hcz53_0
   try clear hcz53_1
   try clear hcz5_0
   try clear hcz5_1
   try clear hfz13_0
   try clear hfz13_1
   try clear hfz15_0
   try clear hfz15_1
   try clear hfz21_0
   try clear hfz21_1
   try clear hfz23_0
   try clear hfz23_1
   try clear hfz28_0
   try clear hfz28_1
   try clear hfz35_0
   try clear hfz35_1
   try clear hfz42_0
   try clear hfz42_1
   try clear hfz45_0
   try clear hfz45_1
   try clear hfz50_0
   try clear hfz50_1
   try clear hfz53_0
   try clear hfz53_1
   try clear hfz5_0
   try clear hfz5_1
   obtain ⟨kq, x40_10, rfl, HA, HJ10, HO_305001, HO_310001, HO_316001, BK293, BK304, BK309, BK315, HB⟩ := hcut
   cases kq with
   | zero => exact absurd HA.out (by simp [laws_FnExactLeastAlphabet.j0])
   | succ kj10 =>
    have H := HA.out; clear HA
    simp only [laws_FnExactLeastAlphabet.j0] at H
    by_cases c55 : x40_10 = true
    ·subst c55
     have H1 : (some false) = some r := by rw [if_pos rfl] at H; exact H
     clear H; have H := H1; clear H1
     obtain rfl := Option.some.inj H
     go_wp2
     go_ret
     exact ⟨rz, beQ HB⟩
    ·replace c55 := Bool.eq_false_iff.mpr c55
     subst c55
     have H1 : ((laws_toAlphabet.f kj10 a0_0 l0_1).bind fun bt317 => ((laws_eqAlphabet.f kj10 t305 t306 bt317.1 bt317.2).bind fun t321 => (if t321 = true then ((laws_markAlphabet.f kj10 t305 t306 1).bind fun bt322 => (if bt322.1 < 0 then (laws_FnExactLeastAlphabet.j1 kj10 t303 true a0_0 l0_1 t299 t300 t310 t311) else ((laws_eqAlphabet.f kj10 t310 t311 t299 t300).bind fun t324 => (if t324 = true then (laws_FnExactLeastAlphabet.j1 kj10 t303 (t314 != t303) a0_0 l0_1 t299 t300 t310 t311) else (laws_FnExactLeastAlphabet.j1 kj10 t303 true a0_0 l0_1 t299 t300 t310 t311))))) else (some false)))) = some r := by rw [if_neg (show ¬ (false = true) by decide)] at H; exact H
     clear H; have H := H1; clear H1; replace H := Option.bind_eq_some_iff.mp H
     obtain ⟨⟨t317, t318⟩, A560, H⟩ := H
     replace H : ((laws_eqAlphabet.f kj10 t305 t306 t317 t318).bind fun t321 => (if t321 = true then ((laws_markAlphabet.f kj10 t305 t306 1).bind fun bt322 => (if bt322.1 < 0 then (laws_FnExactLeastAlphabet.j1 kj10 t303 true a0_0 l0_1 t299 t300 t310 t311) else ((laws_eqAlphabet.f kj10 t310 t311 t299 t300).bind fun t324 => (if t324 = true then (laws_FnExactLeastAlphabet.j1 kj10 t303 (t314 != t303) a0_0 l0_1 t299 t300 t310 t311) else (laws_FnExactLeastAlphabet.j1 kj10 t303 true a0_0 l0_1 t299 t300 t310 t311))))) else (some false))) = some r := H
     have A56 := Aside0.mk A560; clear A560; replace H := Option.bind_eq_some_iff.mp H; obtain ⟨t321, A570, H⟩ := H
     replace H : (if t321 = true then ((laws_markAlphabet.f kj10 t305 t306 1).bind fun bt322 => (if bt322.1 < 0 then (laws_FnExactLeastAlphabet.j1 kj10 t303 true a0_0 l0_1 t299 t300 t310 t311) else ((laws_eqAlphabet.f kj10 t310 t311 t299 t300).bind fun t324 => (if t324 = true then (laws_FnExactLeastAlphabet.j1 kj10 t303 (t314 != t303) a0_0 l0_1 t299 t300 t310 t311) else (laws_FnExactLeastAlphabet.j1 kj10 t303 true a0_0 l0_1 t299 t300 t310 t311))))) else (some false)) = some r := H
     have A57 := Aside0.mk A570; clear A570
     by_cases c58 : t321 = true
     ·subst c58
      have H1 : ((laws_markAlphabet.f kj10 t305 t306 1).bind fun bt322 => (if bt322.1 < 0 then (laws_FnExactLeastAlphabet.j1 kj10 t303 true a0_0 l0_1 t299 t300 t310 t311) else ((laws_eqAlphabet.f kj10 t310 t311 t299 t300).bind fun t324 => (if t324 = true then (laws_FnExactLeastAlphabet.j1 kj10 t303 (t314 != t303) a0_0 l0_1 t299 t300 t310 t311) else (laws_FnExactLeastAlphabet.j1 kj10 t303 true a0_0 l0_1 t299 t300 t310 t311))))) = some r := by rw [if_pos rfl] at H; exact H
      clear H; have H := H1; clear H1; replace H := Option.bind_eq_some_iff.mp H
      obtain ⟨⟨t322, t323⟩, A590, H⟩ := H
      replace H : (if t322 < 0 then (laws_FnExactLeastAlphabet.j1 kj10 t303 true a0_0 l0_1 t299 t300 t310 t311) else ((laws_eqAlphabet.f kj10 t310 t311 t299 t300).bind fun t324 => (if t324 = true then (laws_FnExactLeastAlphabet.j1 kj10 t303 (t314 != t303) a0_0 l0_1 t299 t300 t310 t311) else (laws_FnExactLeastAlphabet.j1 kj10 t303 true a0_0 l0_1 t299 t300 t310 t311)))) = some r := H
      have A59 := Aside0.mk A590; clear A590; have HC60 := Aside0.mk H; clear H
      try go_wp2
      replace HO_305001 := Aside0.mk (Kd.V_drew HO_305001.out); replace HO_310001 := Aside0.mk (Kd.R_drew HO_310001.out); replace HO_316001 := Aside0.mk (Kd.R_drew HO_316001.out); replace BK293 := Aside0.mk (blk_drew BK293.out); replace BK304 := Aside0.mk (blk_drew BK304.out); replace BK309 := Aside0.mk (blk_drew BK309.out); replace BK315 := Aside0.mk (blk_drew BK315.out); replace HB := Aside0.mk (below_drew1 HB.out)
      refine start_ (n := 5) (S := fun w' => w'.cell? ⟨gb309, 0, none⟩ = some (.int .i64 t305) ∧ w'.cell? ⟨gb309, 1, none⟩ = some (.slice Ao29 t306.length co29) ∧ w'.cell? ⟨gb293, 0, none⟩ = some (.int .i64 a0_0) ∧ w'.cell? ⟨gb293, 1, none⟩ = some (.slice A0_1 l0_1.length c0_1)) (ds := []) #[false, false, false, false, false] (by kernel_rfl) rfl rfl ⟨bc BK309 0, bc BK309 1, bc BK293 0, bc BK293 1⟩ (fun hHeld => ?_)
      generalize wc.drew = w61 at HO_305001 HO_310001 HO_316001 BK293 BK304 BK309 BK315 HB hHeld ⊢
      refine take_ (i := 0) (N := some 41) (v := ?_) (a' := ?_) #[true, false, false, false, false] rfl rfl (by kernel_rfl) (fun _ _ _ h => h) (Or.inl ⟨by rfl, ?_⟩) hHeld ?_ ?_
      rotate_left
      ·rintro w' ⟨s0, s1, s2, s3⟩
       go_simp
       with_reducible rfl
      rotate_left
      ·simp only [Act.put, s1, s2, s3, i64_w, i32_w]
       rfl
      refine take_ (i := 1) (N := some 42) (v := ?_) (a' := ?_) #[true, true, false, false, false] rfl rfl (by kernel_rfl) (fun _ _ _ h => h) (Or.inl ⟨by rfl, ?_⟩) hHeld ?_ ?_
      rotate_left
      ·rintro w' ⟨s0, s1, s2, s3⟩
       go_simp
       with_reducible rfl
      rotate_left
      ·simp only [Act.put, s1, s2, s3, i64_w, i32_w]
       rfl
      refine one_ (i := 2) (N := some 43) #[true, true, true, false, false] rfl rfl (by kernel_rfl) (by decide) (fun K hK => ?_)
      refine goes_ Tryd.func7 (by kernel_rfl) rfl #[.agg #[.int .i64 a0_0, .slice A0_1 l0_1.length c0_1]] (by rfl) rfl rfl lz ?_
      with_reducible refine (laws_toAlphabet.calls kj10 a0_0 _ _ l0_1 t317 t318 _ ?side1 ?side2 A56.out).mono ?_
      (case side1 => have q_ := Aside0.mk (Kd.C_below HR0_1.out HB.out); exact cQ q_)
      (case side2 => exact HC0_1.out)
      rintro e w62 ⟨v319, rfl, ho0, hb⟩
      refine ⟨_, rfl, ?_⟩
      replace HO_305001 := Aside0.mk (Kd.V_elder' (by (with_reducible repeat (first | apply Kd.V_alloc | apply Kd.V_drewN | apply Kd.V_drew)); exact HO_305001.out) (Kd.R_base ho0) hb)
      have HO320 := Aside0.mk (Kd.R_lower (Kd.R_new' (Kd.R_new' ho0 (Kd.R_lt (kdQ HO_310001))) (Kd.R_lt (kdQ HO_316001))) (below_size (beQ HB))); replace HO_310001 := Aside0.mk (Kd.R_elder' (kdQ HO_310001) (Kd.R_base ho0) hb); replace HO_316001 := Aside0.mk (Kd.R_elder' (kdQ HO_316001) (Kd.R_base ho0) hb); replace BK293 := bb BK293 hb; replace BK304 := bb BK304 hb; replace BK309 := bb BK309 hb; replace BK315 := bb BK315 hb; replace HB := Aside0.mk (below_step (beQ HB) hb)
      (try clear hb)
      (try clear hb2)
      (try clear hk)
      (try clear hi)
      (try clear hgw_)
      (try clear ho0)
      obtain ⟨Ao63, co63, eo63⟩ := Kd.R_slice HO320.out
      (first | subst eo63 | (injection eo63 with f1_ f2_ f3_; have f4_ := f1_.symm; have f5_ := f3_.symm; clear f1_ f2_ f3_; subst f4_; subst f5_))
      refine hK.out _ _ ⟨bc BK309 0, bc BK309 1, bc BK293 0, bc BK293 1⟩ (fun hHeld => ?_)
      clear hK K
      refine norm_ (a' := ?_) ?_ ?_
      rotate_left
      ·show Act.put _ (some 43) _ = _
       simp only [Act.put, s1, s2, s3, i64_w, i32_w]
       rfl
      refine one_ (i := 3) (N := some 44) #[true, true, true, true, false] rfl rfl (by kernel_rfl) (by decide) (fun K hK => ?_)
      refine goes_ Tryd.func9 (by kernel_rfl) rfl #[.agg #[.int .i64 t305, .slice Ao29 t306.length co29], .agg #[.int .i64 t317, .slice Ao63 t318.length co63]] (by rfl) rfl rfl lz ?_
      with_reducible refine (laws_eqAlphabet.calls kj10 t305 _ _ t306 t317 _ _ t318 true _ ?side1 ?side2 ?side3 ?side4 A57.out).mono ?_
      (case side1 => have q_ := Aside0.mk (Kd.R_reads' HO_310001.out).2.2; exact cQ q_)
      (case side2 => exact (Kd.R_reads' HO_310001.out).2.1)
      (case side3 => have q_ := Aside0.mk (Kd.R_reads' HO320.out).2.2; exact cQ q_)
      (case side4 => exact (Kd.R_reads' HO320.out).2.1)
      rintro e w64 ⟨rfl, hb⟩
      refine ⟨_, rfl, ?_⟩
      replace HO_305001 := Aside0.mk (Kd.V_below (by (with_reducible repeat (first | apply Kd.V_alloc | apply Kd.V_drewN | apply Kd.V_drew)); exact HO_305001.out) hb)
      replace HO_310001 := kb HO_310001 hb; replace HO_316001 := kb HO_316001 hb; replace HO320 := kb HO320 hb; replace BK293 := bb BK293 hb; replace BK304 := bb BK304 hb; replace BK309 := bb BK309 hb; replace BK315 := bb BK315 hb; replace HB := Aside0.mk (below_step (beQ HB) hb)
      (try clear hb)
      (try clear hb2)
      (try clear hk)
      (try clear hi)
      (try clear hgw_)
      refine hK.out _ _ ⟨bc BK309 0, bc BK309 1, bc BK293 0, bc BK293 1⟩ (fun hHeld => ?_)
      clear hK K
      refine norm_ (a' := ?_) ?_ ?_
      rotate_left
      ·show Act.put _ (some 44) _ = _
       simp only [Act.put, s1, s2, s3, i64_w, i32_w]
       rfl
      refine pure_ (i := 4) (N := some 45) (v := ?_) (a' := ?_) #[true, true, true, true, true] rfl rfl (by kernel_rfl) (fun _ _ _ h => h) (Or.inl ⟨by rfl, ?_⟩) ?_ ?_
      rotate_left
      ·intro w'
       go_simp
       with_reducible rfl
      rotate_left
      ·simp only [Act.put, s1, s2, s3, i64_w, i32_w]
       rfl
      refine done_ (by kernel_rfl) ?_
      have hnb65 := NB309_293.out; have hnc65 := NB293_309.out; have hnb66 := NB309_304.out; have hnc66 := NB304_309.out; have hnb67 := NB309_315.out; have hnc67 := NB315_309.out
      have hcz68_0 : w64.cell? ⟨gb309, 0, none⟩ = some (.int .i64 t305) := bc BK309 0
      have hcz68_1 : w64.cell? ⟨gb309, 1, none⟩ = some (.slice Ao29 t306.length co29) := bc BK309 1
      have hfz68_0 := blk_frozen BK309.out 0; have hfz68_1 := blk_frozen BK309.out 1
      go_upto_region 14 with (first | ((with_reducible refine gate_callee (f := 10) rfl ?_); refine goesL_ (some 48) rfl rfl Tryd.func10 (by kernel_rfl) rfl #[.agg #[.int .i64 t305, .slice Ao29 t306.length co29], .int .i64 1] rfl lz ?_; (with_reducible refine (laws_markAlphabet.calls kj10 t305 (fun k_ => some k_ = (.slice Ao29 t306.length co29 : Value).ownBlock) (.slice Ao29 t306.length co29) t306 1 t322 t323 w _ ?side1 ?side2 A59.out).mono ?_); (case side1 => repeat (first | (with_reducible first | exact HB.out | apply below_alloc | apply pw_below_drewN | apply below_drew1 | refine below_set ?_ GE293.out | refine below_set ?_ GE304.out | refine below_set ?_ GE309.out | refine below_set ?_ GE315.out) | exact HB.out)); (case side2 => exact Kd.R_tight rfl HO_310001.out); rintro e w69 ⟨rfl, hy0, hb, hkp⟩; refine ⟨_, rfl, ?_⟩; replace HO_305001 := Aside0.mk (Kd.V_mono (ok' := fun k_ => some k_ ≠ (.slice Ao29 t306.length co29 : Value).ownBlock ∧ some k_ ≠ (.slice Ao36 t311.length co36 : Value).ownBlock ∧ some k_ ≠ (.slice Ao63 t318.length co63 : Value).ownBlock ∧ k_ ≠ gb293 ∧ k_ ≠ gb304 ∧ k_ ≠ gb309 ∧ k_ ≠ gb315) (Kd.V_keptB (HO_305001.out) hkp (fun k_ hk_ hs_ => (hk_.1.1) hs_)) (fun k_ hk_ => ⟨hk_.1.1.1, hk_.1.1.2.1, hk_.1.2, hk_.1.1.2.2.1, hk_.1.1.2.2.2.1, hk_.1.1.2.2.2.2.1, hk_.1.1.2.2.2.2.2⟩)); replace HO_316001 := Aside0.mk (Kd.R_mono (ok' := fun k_ => some k_ ≠ (.slice Ao29 t306.length co29 : Value).ownBlock ∧ some k_ ≠ (.slice Ao63 t318.length co63 : Value).ownBlock) (Kd.R_keptB (HO_316001.out) hkp (fun k_ hk_ hs_ => (hk_.1) hs_)) (fun k_ hk_ => ⟨hk_.1.1, hk_.1.2⟩)); replace BK293 := Aside0.mk (blk_kept (blkQ BK293) hkp (fun hs_ => (fun e_ => (Kd.R_ne HO_310001.out BK293.out (by decide)) e_) hs_)); replace BK304 := Aside0.mk (blk_kept (blkQ BK304) hkp (fun hs_ => (fun e_ => (Kd.R_ne HO_310001.out BK304.out (by decide)) e_) hs_)); replace BK309 := Aside0.mk (blk_kept (blkQ BK309) hkp (fun hs_ => (fun e_ => (Kd.R_ne HO_310001.out BK309.out (by decide)) e_) hs_)); replace BK315 := Aside0.mk (blk_kept (blkQ BK315) hkp (fun hs_ => (fun e_ => (Kd.R_ne HO_310001.out BK315.out (by decide)) e_) hs_)); replace HO_310001 := Aside0.mk (Kd.R_reok rfl hy0 (fun k_ e_ => HO_310001.out.1 k_ e_)); replace HO320 := Aside0.mk (Kd.R_mono (ok' := fun k_ => some k_ ≠ (.slice Ao29 t306.length co29 : Value).ownBlock ∧ some k_ ≠ (.slice Ao36 t311.length co36 : Value).ownBlock) (Kd.R_keptB (HO320.out) hkp (fun k_ hk_ hs_ => (hk_.1.2) hs_)) (fun k_ hk_ => ⟨hk_.1.1.2, hk_.1.2⟩)); replace HB := Aside0.mk (hb); (try clear hb); (try clear hkp); (try clear hy0)))
      (try simp only [Act.put, List.setIfInBounds_toArray, List.set_cons_zero, List.set_cons_succ])
      go_cut [61] (fun v61 wc => ∃ (kq : Nat) (x61_59 : Bool), v61 = .bool x61_59 ∧ Aside0 (laws_FnExactLeastAlphabet.j1 kq t303 x61_59 a0_0 l0_1 t299 t300 t310 t311 = some r) ∧ Aside0 (kq ≤ kj10) ∧ Aside0 (Kd.V (Kd.int .i64) 2 wc w.heap.size (fun k_ => some k_ ≠ ((.slice Ao29 t306.length co29) : Value).ownBlock ∧ some k_ ≠ ((.slice Ao36 t311.length co36) : Value).ownBlock ∧ k_ ≠ gb293 ∧ k_ ≠ gb304 ∧ k_ ≠ gb309 ∧ k_ ≠ gb315) (.slice Ao22 t300.length co22) t300) ∧ Aside0 (Kd.R (Kd.int .i64) 2 wc w.heap.size (fun k_ => some k_ ≠ ((.slice Ao36 t311.length co36) : Value).ownBlock) (.slice Ao29 t306.length co29) t323) ∧ Aside0 (Kd.R (Kd.int .i64) 2 wc w.heap.size (fun k_ => some k_ ≠ ((.slice Ao29 t306.length co29) : Value).ownBlock) (.slice Ao36 t311.length co36) t311) ∧ Aside0 (wc.heap[gb293]? = some (.cells #[.int .i64 a0_0, (.slice A0_1 l0_1.length c0_1)] 24 (0, 0))) ∧ Aside0 (wc.heap[gb304]? = some (.cells #[.int .i64 t299, (.slice Ao22 t300.length co22)] 26 (0, 0))) ∧ Aside0 (wc.heap[gb309]? = some (.cells #[.int .i64 t305, (.slice Ao29 t306.length co29)] 26 (0, 0))) ∧ Aside0 (wc.heap[gb315]? = some (.cells #[.int .i64 t310, (.slice Ao36 t311.length co36)] 26 (0, 0))) ∧ Aside0 (Below w.heap.size w wc))
      case first =>
       have H := HC60.out; clear HC60
       by_cases c70 : t322 < 0
       ·rw [if_pos c70] at H
        have c70b0 : decide (t322 < 0) = true := decide_eq_true c70
        clear c70
        (first | rw [c70b0] | (simp only [i64_w, i32_w]; rw [c70b0]) | skip)
        have H' := Aside0.mk H
        clear H
        go_wp2
        go_meet
        case rel => exact ⟨_, (true), sz, H', ⟨by have := HJ10.out; first | omega | exact Nat.le_refl _⟩, ⟨by (with_reducible repeat (first | apply Kd.V_alloc | apply Kd.V_drewN | apply Kd.V_drew)); exact Kd.V_mono HO_305001.out (fun _ hk => ⟨hk.1, ⟨hk.2.1, ⟨hk.2.2.2.1, ⟨hk.2.2.2.2.1, ⟨hk.2.2.2.2.2.1, hk.2.2.2.2.2.2⟩⟩⟩⟩⟩)⟩, ⟨by (with_reducible repeat (first | apply Kd.R_alloc | apply Kd.R_drewN | apply Kd.R_drew)); exact Kd.R_mono HO_310001.out (fun _ hk => hk.1)⟩, ⟨by (with_reducible repeat (first | apply Kd.R_alloc | apply Kd.R_drewN | apply Kd.R_drew)); exact Kd.R_mono HO_316001.out (fun _ hk => hk.1)⟩, ⟨blkQ BK293⟩, ⟨blkQ BK304⟩, ⟨blkQ BK309⟩, ⟨blkQ BK315⟩, ⟨beQ HB⟩⟩
       ·rw [if_neg c70] at H
        have c70b0 : decide (t322 < 0) = false := decide_eq_false c70
        clear c70
        (first | rw [c70b0] | (simp only [i64_w, i32_w]; rw [c70b0]) | skip)
        replace H := Option.bind_eq_some_iff.mp H; obtain ⟨t324, A710, H⟩ := H
        replace H : (if t324 = true then (laws_FnExactLeastAlphabet.j1 kj10 t303 (t314 != t303) a0_0 l0_1 t299 t300 t310 t311) else (laws_FnExactLeastAlphabet.j1 kj10 t303 true a0_0 l0_1 t299 t300 t310 t311)) = some r := H
        have A71 := Aside0.mk A710; clear A710
        by_cases c72 : t324 = true
        ·subst c72
         have H1 : (laws_FnExactLeastAlphabet.j1 kj10 t303 (t314 != t303) a0_0 l0_1 t299 t300 t310 t311) = some r := by rw [if_pos rfl] at H; exact H
         clear H; have H := H1; clear H1
         have H' := Aside0.mk H
         clear H; have hnb73 := NB315_293.out; have hnc73 := NB293_315.out; have hnb74 := NB315_304.out; have hnc74 := NB304_315.out; have hnb75 := NB315_309.out; have hnc75 := NB309_315.out
         have hcz76_0 : w69.cell? ⟨gb315, 0, none⟩ = some (.int .i64 t310) := bc BK315 0
         have hcz76_1 : w69.cell? ⟨gb315, 1, none⟩ = some (.slice Ao36 t311.length co36) := bc BK315 1
         have hfz76_0 := blk_frozen BK315.out 0; have hfz76_1 := blk_frozen BK315.out 1; have hnb77 := NB304_293.out; have hnc77 := NB293_304.out; have hnb78 := NB304_309.out; have hnc78 := NB309_304.out
         have hcz79_0 : w69.cell? ⟨gb304, 0, none⟩ = some (.int .i64 t299) := bc BK304 0
         have hcz79_1 : w69.cell? ⟨gb304, 1, none⟩ = some (.slice Ao22 t300.length co22) := bc BK304 1
         have hfz79_0 := blk_frozen BK304.out 0; have hfz79_1 := blk_frozen BK304.out 1
         go_wp2_with (first | (go_at_call 9; (with_reducible refine (laws_eqAlphabet.calls kj10 t310 _ _ t311 t299 _ _ t300 true _ ?side1 ?side2 ?side3 ?side4 A71.out).mono ?_); (case side1 => have q_ := Aside0.mk (Kd.R_reads' HO_316001.out).2.2; exact cQ q_); (case side2 => exact (Kd.R_reads' HO_316001.out).2.1); (case side3 => have q_ := Aside0.mk (Kd.V_reads' HO_305001.out).2.2; exact cQ q_); (case side4 => exact (Kd.V_reads' HO_305001.out).2.1); rintro e w80 ⟨rfl, hb⟩; replace HO_305001 := Aside0.mk (Kd.V_below (by (with_reducible repeat (first | apply Kd.V_alloc | apply Kd.V_drewN | apply Kd.V_drew)); exact HO_305001.out) hb); replace HO_310001 := kb HO_310001 hb; replace HO_316001 := kb HO_316001 hb; replace HO320 := kb HO320 hb; replace BK293 := bb BK293 hb; replace BK304 := bb BK304 hb; replace BK309 := bb BK309 hb; replace BK315 := bb BK315 hb; replace HB := Aside0.mk (below_step (beQ HB) hb); (try clear hb); (try clear hb2); (try clear hk); (try clear hi); (try clear hgw_)))
         go_meet
         case rel => exact ⟨_, ((t314 != t303)), sz, H', ⟨by have := HJ10.out; first | omega | exact Nat.le_refl _⟩, ⟨by (with_reducible repeat (first | apply Kd.V_alloc | apply Kd.V_drewN | apply Kd.V_drew)); exact Kd.V_mono HO_305001.out (fun _ hk => ⟨hk.1, ⟨hk.2.1, ⟨hk.2.2.2.1, ⟨hk.2.2.2.2.1, ⟨hk.2.2.2.2.2.1, hk.2.2.2.2.2.2⟩⟩⟩⟩⟩)⟩, ⟨by (with_reducible repeat (first | apply Kd.R_alloc | apply Kd.R_drewN | apply Kd.R_drew)); exact Kd.R_mono HO_310001.out (fun _ hk => hk.1)⟩, ⟨by (with_reducible repeat (first | apply Kd.R_alloc | apply Kd.R_drewN | apply Kd.R_drew)); exact Kd.R_mono HO_316001.out (fun _ hk => hk.1)⟩, ⟨blkQ BK293⟩, ⟨blkQ BK304⟩, ⟨blkQ BK309⟩, ⟨blkQ BK315⟩, ⟨beQ HB⟩⟩
        ·replace c72 := Bool.eq_false_iff.mpr c72
         subst c72
         have H1 : (laws_FnExactLeastAlphabet.j1 kj10 t303 true a0_0 l0_1 t299 t300 t310 t311) = some r := by rw [if_neg (show ¬ (false = true) by decide)] at H; exact H
         clear H; have H := H1; clear H1
         have H' := Aside0.mk H
         clear H; have hnb81 := NB315_293.out; have hnc81 := NB293_315.out; have hnb82 := NB315_304.out; have hnc82 := NB304_315.out; have hnb83 := NB315_309.out; have hnc83 := NB309_315.out
         have hcz84_0 : w69.cell? ⟨gb315, 0, none⟩ = some (.int .i64 t310) := bc BK315 0
         have hcz84_1 : w69.cell? ⟨gb315, 1, none⟩ = some (.slice Ao36 t311.length co36) := bc BK315 1
         have hfz84_0 := blk_frozen BK315.out 0; have hfz84_1 := blk_frozen BK315.out 1; have hnb85 := NB304_293.out; have hnc85 := NB293_304.out; have hnb86 := NB304_309.out; have hnc86 := NB309_304.out
         have hcz87_0 : w69.cell? ⟨gb304, 0, none⟩ = some (.int .i64 t299) := bc BK304 0
         have hcz87_1 : w69.cell? ⟨gb304, 1, none⟩ = some (.slice Ao22 t300.length co22) := bc BK304 1
         have hfz87_0 := blk_frozen BK304.out 0; have hfz87_1 := blk_frozen BK304.out 1
         go_wp2_with (first | (go_at_call 9; (with_reducible refine (laws_eqAlphabet.calls kj10 t310 _ _ t311 t299 _ _ t300 false _ ?side1 ?side2 ?side3 ?side4 A71.out).mono ?_); (case side1 => have q_ := Aside0.mk (Kd.R_reads' HO_316001.out).2.2; exact cQ q_); (case side2 => exact (Kd.R_reads' HO_316001.out).2.1); (case side3 => have q_ := Aside0.mk (Kd.V_reads' HO_305001.out).2.2; exact cQ q_); (case side4 => exact (Kd.V_reads' HO_305001.out).2.1); rintro e w88 ⟨rfl, hb⟩; replace HO_305001 := Aside0.mk (Kd.V_below (by (with_reducible repeat (first | apply Kd.V_alloc | apply Kd.V_drewN | apply Kd.V_drew)); exact HO_305001.out) hb); replace HO_310001 := kb HO_310001 hb; replace HO_316001 := kb HO_316001 hb; replace HO320 := kb HO320 hb; replace BK293 := bb BK293 hb; replace BK304 := bb BK304 hb; replace BK309 := bb BK309 hb; replace BK315 := bb BK315 hb; replace HB := Aside0.mk (below_step (beQ HB) hb); (try clear hb); (try clear hb2); (try clear hk); (try clear hi); (try clear hgw_)))
         go_meet
         case rel => exact ⟨_, (true), sz, H', ⟨by have := HJ10.out; first | omega | exact Nat.le_refl _⟩, ⟨by (with_reducible repeat (first | apply Kd.V_alloc | apply Kd.V_drewN | apply Kd.V_drew)); exact Kd.V_mono HO_305001.out (fun _ hk => ⟨hk.1, ⟨hk.2.1, ⟨hk.2.2.2.1, ⟨hk.2.2.2.2.1, ⟨hk.2.2.2.2.2.1, hk.2.2.2.2.2.2⟩⟩⟩⟩⟩)⟩, ⟨by (with_reducible repeat (first | apply Kd.R_alloc | apply Kd.R_drewN | apply Kd.R_drew)); exact Kd.R_mono HO_310001.out (fun _ hk => hk.1)⟩, ⟨by (with_reducible repeat (first | apply Kd.R_alloc | apply Kd.R_drewN | apply Kd.R_drew)); exact Kd.R_mono HO_316001.out (fun _ hk => hk.1)⟩, ⟨blkQ BK293⟩, ⟨blkQ BK304⟩, ⟨blkQ BK309⟩, ⟨blkQ BK315⟩, ⟨beQ HB⟩⟩
      case rest =>
       clear HC60
       try clear c1
       try clear c2
       try clear p2
       try clear c3
       try clear c3b0
       try clear c4
       try clear c5
       try clear c6
       try clear c7
       try clear c8
       try clear c9
       try clear c10
       try clear c20
       try clear c26
       try clear c27
       try clear c32
       try clear c33
       try clear c34
       try clear c38
       try clear c39
       try clear c40
       try clear c41
       try clear c43
       try clear c44
       try clear c47
       try clear c48
       try clear c49
       try clear c51
       try clear c52
       try clear c55
       try clear c58
       try clear c65
       try clear c66
       try clear c67
       try clear c70
       try clear c70b0
       try clear c72
       try clear c73
       try clear c74
       try clear c75
       try clear c77
       try clear c78
       try clear c81
       try clear c82
       try clear c83
       try clear c85
       try clear c86
       try clear hcz13_0
       try clear hcz13_1
       try clear hcz15_0
       try clear hcz15_1
       try clear hcz21_0
       try clear hcz21_1
       try clear hcz23_0
       try clear hcz23_1
       try clear hcz28_0
       try clear hcz28_1
       try clear hcz35_0
       try clear hcz35_1
       try clear hcz42_0
       try clear hcz42_1
       try clear hcz45_0
       try clear hcz45_1
       try clear hcz50_0
       try clear hcz50_1
       try clear hcz53_0
       try clear hcz53_1
       try clear hcz5_0
       try clear hcz5_1
       try clear hcz68_0
       try clear hcz68_1
       try clear hcz76_0
       try clear hcz76_1
       try clear hcz79_0
       try clear hcz79_1
       try clear hcz84_0
       try clear hcz84_1
       try clear hcz87_0
       try clear hcz87_1
       try clear hfz13_0
       try clear hfz13_1
       try clear hfz15_0
       try clear hfz15_1
       try clear hfz21_0
       try clear hfz21_1
       try clear hfz23_0
       try clear hfz23_1
       try clear hfz28_0
       try clear hfz28_1
       try clear hfz35_0
       try clear hfz35_1
       try clear hfz42_0
       try clear hfz42_1
       try clear hfz45_0
       try clear hfz45_1
       try clear hfz50_0
       try clear hfz50_1
       try clear hfz53_0
       try clear hfz53_1
       try clear hfz5_0
       try clear hfz5_1
       try clear hfz68_0
       try clear hfz68_1
       try clear hfz76_0
       try clear hfz76_1
       try clear hfz79_0
       try clear hfz79_1
       try clear hfz84_0
       try clear hfz84_1
       try clear hfz87_0
       try clear hfz87_1
       try clear p2
       obtain ⟨kq, x61_59, rfl, HA, HJ59, HO_305001, HO_310001, HO_316001, BK293, BK304, BK309, BK315, HB⟩ := hcut; have hl310001_59 := (Kd.R_reads' HO_310001.out).1; rw [hl310001_59] at HO_310001
       (try simp only [hl310001_59])
       (try simp only [hl310001_59] at BK293)
       (try simp only [hl310001_59] at BK304)
       (try simp only [hl310001_59] at BK309)
       (try simp only [hl310001_59] at BK315)
       (try simp only [hl310001_59] at HO_305001)
       (try simp only [hl310001_59] at HO_316001)
       cases kq with
       | zero => exact absurd HA.out (by simp [laws_FnExactLeastAlphabet.j1])
       | succ kj59 =>
        have H := HA.out; clear HA
        simp only [laws_FnExactLeastAlphabet.j1] at H
        by_cases c89 : x61_59 = true
        ·subst c89
         have H1 : (some false) = some r := by rw [if_pos rfl] at H; exact H
         clear H; have H := H1; clear H1
         obtain rfl := Option.some.inj H
         go_wp2
         go_ret
         exact ⟨rz, beQ HB⟩
        ·replace c89 := Bool.eq_false_iff.mpr c89
         subst c89
         have H1 : ((laws_markAlphabet.f kj59 t310 t311 1).bind fun bt325 => ((laws_heldAlphabet.f kj59 t310 bt325.2 1).bind fun t327 => (if t327 < 0 then (some false) else (if t327 = bt325.1 then ((laws_toAlphabet.f kj59 a0_0 l0_1).bind fun bt328 => ((impl_LeastAlphabet.f kj59 bt328.1 bt328.2).bind fun bt332 => ((laws_eqAlphabet.f kj59 bt332.1 bt332.2.1 t299 t300).bind fun t338 => (if t338 = true then (laws_FnExactLeastAlphabet.j2 kj59 bt325.1 (bt332.2.2 != t303) t310 bt325.2) else (laws_FnExactLeastAlphabet.j2 kj59 bt325.1 true t310 bt325.2))))) else (some false))))) = some r := by rw [if_neg (show ¬ (false = true) by decide)] at H; exact H
         clear H; have H := H1; clear H1; replace H := Option.bind_eq_some_iff.mp H
         obtain ⟨⟨t325, t326⟩, A900, H⟩ := H
         replace H : ((laws_heldAlphabet.f kj59 t310 t326 1).bind fun t327 => (if t327 < 0 then (some false) else (if t327 = t325 then ((laws_toAlphabet.f kj59 a0_0 l0_1).bind fun bt328 => ((impl_LeastAlphabet.f kj59 bt328.1 bt328.2).bind fun bt332 => ((laws_eqAlphabet.f kj59 bt332.1 bt332.2.1 t299 t300).bind fun t338 => (if t338 = true then (laws_FnExactLeastAlphabet.j2 kj59 t325 (bt332.2.2 != t303) t310 t326) else (laws_FnExactLeastAlphabet.j2 kj59 t325 true t310 t326))))) else (some false)))) = some r := H
         have A90 := Aside0.mk A900; clear A900; replace H := Option.bind_eq_some_iff.mp H; obtain ⟨t327, A910, H⟩ := H
         replace H : (if t327 < 0 then (some false) else (if t327 = t325 then ((laws_toAlphabet.f kj59 a0_0 l0_1).bind fun bt328 => ((impl_LeastAlphabet.f kj59 bt328.1 bt328.2).bind fun bt332 => ((laws_eqAlphabet.f kj59 bt332.1 bt332.2.1 t299 t300).bind fun t338 => (if t338 = true then (laws_FnExactLeastAlphabet.j2 kj59 t325 (bt332.2.2 != t303) t310 t326) else (laws_FnExactLeastAlphabet.j2 kj59 t325 true t310 t326))))) else (some false))) = some r := H
         have A91 := Aside0.mk A910; clear A910
         by_cases c92 : t327 < 0
         ·rw [if_pos c92] at H
          have c92b0 : decide (t327 < 0) = true := decide_eq_true c92
          clear c92
          obtain rfl := Option.some.inj H
          have hnb93 := NB315_293.out; have hnc93 := NB293_315.out; have hnb94 := NB315_304.out; have hnc94 := NB304_315.out; have hnb95 := NB315_309.out; have hnc95 := NB309_315.out
          have hcz96_0 : wc.cell? ⟨gb315, 0, none⟩ = some (.int .i64 t310) := bc BK315 0
          have hcz96_1 : wc.cell? ⟨gb315, 1, none⟩ = some (.slice Ao36 t311.length co36) := bc BK315 1
          have hfz96_0 := blk_frozen BK315.out 0; have hfz96_1 := blk_frozen BK315.out 1
          go_wp2_with (first | ((with_reducible refine gate_callee (f := 10) rfl ?_); refine goesL_ (some 64) rfl rfl Tryd.func10 (by kernel_rfl) rfl #[.agg #[.int .i64 t310, .slice Ao36 t311.length co36], .int .i64 1] rfl lz ?_; (with_reducible refine (laws_markAlphabet.calls kj59 t310 (fun k_ => some k_ = (.slice Ao36 t311.length co36 : Value).ownBlock) (.slice Ao36 t311.length co36) t311 1 t325 t326 w _ ?side1 ?side2 A90.out).mono ?_); (case side1 => repeat (first | (with_reducible first | exact HB.out | apply below_alloc | apply pw_below_drewN | apply below_drew1 | refine below_set ?_ GE293.out | refine below_set ?_ GE304.out | refine below_set ?_ GE309.out | refine below_set ?_ GE315.out) | exact HB.out)); (case side2 => exact Kd.R_tight rfl HO_316001.out); rintro e w97 ⟨rfl, hy0, hb, hkp⟩; refine ⟨_, rfl, ?_⟩; replace HO_305001 := Aside0.mk (Kd.V_mono (ok' := fun k_ => some k_ ≠ (.slice Ao29 t323.length co29 : Value).ownBlock ∧ some k_ ≠ (.slice Ao36 t311.length co36 : Value).ownBlock ∧ k_ ≠ gb293 ∧ k_ ≠ gb304 ∧ k_ ≠ gb309 ∧ k_ ≠ gb315) (Kd.V_keptB (HO_305001.out) hkp (fun k_ hk_ hs_ => (hk_.2.1) hs_)) (fun k_ hk_ => ⟨hk_.1.1, hk_.1.2.1, hk_.1.2.2.1, hk_.1.2.2.2.1, hk_.1.2.2.2.2.1, hk_.1.2.2.2.2.2⟩)); replace HO_310001 := Aside0.mk (Kd.R_mono (ok' := fun k_ => some k_ ≠ (.slice Ao36 t311.length co36 : Value).ownBlock) (Kd.R_keptB (HO_310001.out) hkp (fun k_ hk_ hs_ => (hk_) hs_)) (fun k_ hk_ => hk_.1)); replace BK293 := Aside0.mk (blk_kept (blkQ BK293) hkp (fun hs_ => (fun e_ => (Kd.R_ne HO_316001.out BK293.out (by decide)) e_) hs_)); replace BK304 := Aside0.mk (blk_kept (blkQ BK304) hkp (fun hs_ => (fun e_ => (Kd.R_ne HO_316001.out BK304.out (by decide)) e_) hs_)); replace BK309 := Aside0.mk (blk_kept (blkQ BK309) hkp (fun hs_ => (fun e_ => (Kd.R_ne HO_316001.out BK309.out (by decide)) e_) hs_)); replace BK315 := Aside0.mk (blk_kept (blkQ BK315) hkp (fun hs_ => (fun e_ => (Kd.R_ne HO_316001.out BK315.out (by decide)) e_) hs_)); replace HO_316001 := Aside0.mk (Kd.R_reok rfl hy0 (fun k_ e_ => HO_316001.out.1 k_ e_)); replace HB := Aside0.mk (hb); (try clear hb); (try clear hkp); (try clear hy0); have hcz98_0 : w97.cell? ⟨gb315, 0, none⟩ = some (.int .i64 t310) := bc BK315 0; have hcz98_1 : w97.cell? ⟨gb315, 1, none⟩ = some (.slice Ao36 t311.length co36) := bc BK315 1; have hfz98_0 := blk_frozen BK315.out 0; have hfz98_1 := blk_frozen BK315.out 1) | ((with_reducible refine gate_callee (f := 11) rfl ?_); refine goesL_ (some 67) rfl rfl Tryd.func11 (by kernel_rfl) rfl #[.agg #[.int .i64 t310, .slice Ao36 t326.length co36], .int .i64 1] rfl (by (try simp only [List.map_toArray, List.map_cons, List.map_nil]); first | done | (rw [show t326.length = t311.length from (Kd.R_reads' HO_316001.out).1.symm] <;> rfl) | rfl | (simp only [List.length_drop, List.length_take]; rfl)) ?_; (with_reducible refine (laws_heldAlphabet.calls kj59 t310 _ _ t326 1 t327 _ ?side1 ?side2 A91.out).mono ?_); (case side1 => have q_ := Aside0.mk (Kd.R_reads' HO_316001.out).2.2; exact cQ q_); (case side2 => rw [show t326.length = t311.length from (Kd.R_reads' HO_316001.out).1.symm]; exact (Kd.R_reads' HO_316001.out).2.1); rintro e w99 ⟨rfl, hb⟩; refine ⟨_, rfl, ?_⟩; replace HO_305001 := Aside0.mk (Kd.V_below (by (with_reducible repeat (first | apply Kd.V_alloc | apply Kd.V_drewN | apply Kd.V_drew)); exact HO_305001.out) hb); replace HO_310001 := kb HO_310001 hb; replace HO_316001 := kb HO_316001 hb; replace BK293 := bb BK293 hb; replace BK304 := bb BK304 hb; replace BK309 := bb BK309 hb; replace BK315 := bb BK315 hb; replace HB := Aside0.mk (below_step (beQ HB) hb); (try clear hb); (try clear hb2); (try clear hk); (try clear hi); (try clear hgw_)))
          go_ret
          exact ⟨rz, beQ HB⟩
         ·rw [if_neg c92] at H
          have c92b0 : decide (t327 < 0) = false := decide_eq_false c92
          clear c92
          by_cases c100 : t327 = t325
          ·rw [if_pos c100] at H
           have c100b0 : (t327 == t325) = true := beq_iff_eq.mpr c100
           have c100b1 : (t327 != t325) = false := bne_eq_false_iff_eq.mpr c100
           clear c100; replace H := Option.bind_eq_some_iff.mp H
           obtain ⟨⟨t328, t329⟩, A1010, H⟩ := H
           replace H : ((impl_LeastAlphabet.f kj59 t328 t329).bind fun bt332 => ((laws_eqAlphabet.f kj59 bt332.1 bt332.2.1 t299 t300).bind fun t338 => (if t338 = true then (laws_FnExactLeastAlphabet.j2 kj59 t325 (bt332.2.2 != t303) t310 t326) else (laws_FnExactLeastAlphabet.j2 kj59 t325 true t310 t326)))) = some r := H
           have A101 := Aside0.mk A1010; clear A1010; replace H := Option.bind_eq_some_iff.mp H
           obtain ⟨⟨t332, t333, t336⟩, A1020, H⟩ := H
           replace H : ((laws_eqAlphabet.f kj59 t332 t333 t299 t300).bind fun t338 => (if t338 = true then (laws_FnExactLeastAlphabet.j2 kj59 t325 (t336 != t303) t310 t326) else (laws_FnExactLeastAlphabet.j2 kj59 t325 true t310 t326))) = some r := H
           have A102 := Aside0.mk A1020; clear A1020; have HC103 := Aside0.mk H; clear H; have hnb104 := NB315_293.out; have hnc104 := NB293_315.out; have hnb105 := NB315_304.out; have hnc105 := NB304_315.out; have hnb106 := NB315_309.out; have hnc106 := NB309_315.out
           have hcz107_0 : wc.cell? ⟨gb315, 0, none⟩ = some (.int .i64 t310) := bc BK315 0
           have hcz107_1 : wc.cell? ⟨gb315, 1, none⟩ = some (.slice Ao36 t311.length co36) := bc BK315 1
           have hfz107_0 := blk_frozen BK315.out 0; have hfz107_1 := blk_frozen BK315.out 1
           go_upto_region 25 with (first | ((with_reducible refine gate_callee (f := 10) rfl ?_); refine goesL_ (some 64) rfl rfl Tryd.func10 (by kernel_rfl) rfl #[.agg #[.int .i64 t310, .slice Ao36 t311.length co36], .int .i64 1] rfl lz ?_; (with_reducible refine (laws_markAlphabet.calls kj59 t310 (fun k_ => some k_ = (.slice Ao36 t311.length co36 : Value).ownBlock) (.slice Ao36 t311.length co36) t311 1 t325 t326 w _ ?side1 ?side2 A90.out).mono ?_); (case side1 => repeat (first | (with_reducible first | exact HB.out | apply below_alloc | apply pw_below_drewN | apply below_drew1 | refine below_set ?_ GE293.out | refine below_set ?_ GE304.out | refine below_set ?_ GE309.out | refine below_set ?_ GE315.out) | exact HB.out)); (case side2 => exact Kd.R_tight rfl HO_316001.out); rintro e w108 ⟨rfl, hy0, hb, hkp⟩; refine ⟨_, rfl, ?_⟩; replace HO_305001 := Aside0.mk (Kd.V_mono (ok' := fun k_ => some k_ ≠ (.slice Ao29 t323.length co29 : Value).ownBlock ∧ some k_ ≠ (.slice Ao36 t311.length co36 : Value).ownBlock ∧ k_ ≠ gb293 ∧ k_ ≠ gb304 ∧ k_ ≠ gb309 ∧ k_ ≠ gb315) (Kd.V_keptB (HO_305001.out) hkp (fun k_ hk_ hs_ => (hk_.2.1) hs_)) (fun k_ hk_ => ⟨hk_.1.1, hk_.1.2.1, hk_.1.2.2.1, hk_.1.2.2.2.1, hk_.1.2.2.2.2.1, hk_.1.2.2.2.2.2⟩)); replace HO_310001 := Aside0.mk (Kd.R_mono (ok' := fun k_ => some k_ ≠ (.slice Ao36 t311.length co36 : Value).ownBlock) (Kd.R_keptB (HO_310001.out) hkp (fun k_ hk_ hs_ => (hk_) hs_)) (fun k_ hk_ => hk_.1)); replace BK293 := Aside0.mk (blk_kept (blkQ BK293) hkp (fun hs_ => (fun e_ => (Kd.R_ne HO_316001.out BK293.out (by decide)) e_) hs_)); replace BK304 := Aside0.mk (blk_kept (blkQ BK304) hkp (fun hs_ => (fun e_ => (Kd.R_ne HO_316001.out BK304.out (by decide)) e_) hs_)); replace BK309 := Aside0.mk (blk_kept (blkQ BK309) hkp (fun hs_ => (fun e_ => (Kd.R_ne HO_316001.out BK309.out (by decide)) e_) hs_)); replace BK315 := Aside0.mk (blk_kept (blkQ BK315) hkp (fun hs_ => (fun e_ => (Kd.R_ne HO_316001.out BK315.out (by decide)) e_) hs_)); replace HO_316001 := Aside0.mk (Kd.R_reok rfl hy0 (fun k_ e_ => HO_316001.out.1 k_ e_)); replace HB := Aside0.mk (hb); (try clear hb); (try clear hkp); (try clear hy0); have hcz109_0 : w108.cell? ⟨gb315, 0, none⟩ = some (.int .i64 t310) := bc BK315 0; have hcz109_1 : w108.cell? ⟨gb315, 1, none⟩ = some (.slice Ao36 t311.length co36) := bc BK315 1; have hfz109_0 := blk_frozen BK315.out 0; have hfz109_1 := blk_frozen BK315.out 1) | ((with_reducible refine gate_callee (f := 11) rfl ?_); refine goesL_ (some 67) rfl rfl Tryd.func11 (by kernel_rfl) rfl #[.agg #[.int .i64 t310, .slice Ao36 t326.length co36], .int .i64 1] rfl (by (try simp only [List.map_toArray, List.map_cons, List.map_nil]); first | done | (rw [show t326.length = t311.length from (Kd.R_reads' HO_316001.out).1.symm] <;> rfl) | rfl | (simp only [List.length_drop, List.length_take]; rfl)) ?_; (with_reducible refine (laws_heldAlphabet.calls kj59 t310 _ _ t326 1 t327 _ ?side1 ?side2 A91.out).mono ?_); (case side1 => have q_ := Aside0.mk (Kd.R_reads' HO_316001.out).2.2; exact cQ q_); (case side2 => rw [show t326.length = t311.length from (Kd.R_reads' HO_316001.out).1.symm]; exact (Kd.R_reads' HO_316001.out).2.1); rintro e w110 ⟨rfl, hb⟩; refine ⟨_, rfl, ?_⟩; replace HO_305001 := Aside0.mk (Kd.V_below (by (with_reducible repeat (first | apply Kd.V_alloc | apply Kd.V_drewN | apply Kd.V_drew)); exact HO_305001.out) hb); replace HO_310001 := kb HO_310001 hb; replace HO_316001 := kb HO_316001 hb; replace BK293 := bb BK293 hb; replace BK304 := bb BK304 hb; replace BK309 := bb BK309 hb; replace BK315 := bb BK315 hb; replace HB := Aside0.mk (below_step (beQ HB) hb); (try clear hb); (try clear hb2); (try clear hk); (try clear hi); (try clear hgw_); have hnb111 := NB293_304.out; have hnc111 := NB304_293.out; have hnb112 := NB293_309.out; have hnc112 := NB309_293.out; have hcz113_0 : w110.cell? ⟨gb293, 0, none⟩ = some (.int .i64 a0_0) := bc BK293 0; have hcz113_1 : w110.cell? ⟨gb293, 1, none⟩ = some (.slice A0_1 l0_1.length c0_1) := bc BK293 1; have hfz113_0 := blk_frozen BK293.out 0; have hfz113_1 := blk_frozen BK293.out 1) | ((with_reducible refine gate_callee (f := 7) rfl ?_); refine goesL_ (some 75) rfl rfl Tryd.func7 (by kernel_rfl) rfl #[.agg #[.int .i64 a0_0, .slice A0_1 l0_1.length c0_1]] rfl lz ?_; (with_reducible refine (laws_toAlphabet.calls kj59 a0_0 _ _ l0_1 t328 t329 _ ?side1 ?side2 A101.out).mono ?_); (case side1 => have q_ := Aside0.mk (Kd.C_below HR0_1.out HB.out); exact cQ q_); (case side2 => exact HC0_1.out); rintro e w114 ⟨v330, rfl, ho0, hb⟩; refine ⟨_, rfl, ?_⟩; replace HO_305001 := Aside0.mk (Kd.V_elder' (by (with_reducible repeat (first | apply Kd.V_alloc | apply Kd.V_drewN | apply Kd.V_drew)); exact HO_305001.out) (Kd.R_base ho0) hb); have HO331 := Aside0.mk (Kd.R_lower (Kd.R_new' (Kd.R_new' ho0 (Kd.R_lt (kdQ HO_310001))) (Kd.R_lt (kdQ HO_316001))) (below_size (beQ HB))); replace HO_310001 := Aside0.mk (Kd.R_elder' (kdQ HO_310001) (Kd.R_base ho0) hb); replace HO_316001 := Aside0.mk (Kd.R_elder' (kdQ HO_316001) (Kd.R_base ho0) hb); replace BK293 := bb BK293 hb; replace BK304 := bb BK304 hb; replace BK309 := bb BK309 hb; replace BK315 := bb BK315 hb; replace HB := Aside0.mk (below_step (beQ HB) hb); (try clear hb); (try clear hb2); (try clear hk); (try clear hi); (try clear hgw_); (try clear ho0); obtain ⟨Ao115, co115, eo115⟩ := Kd.R_slice HO331.out; subst eo115) | ((with_reducible refine gate_callee (f := 8) rfl ?_); refine goesL_ (some 76) rfl rfl Tryd.func8 (by kernel_rfl) rfl #[.agg #[.int .i64 t328, .slice Ao115 t329.length co115]] rfl lz ?_; (with_reducible refine (impl_LeastAlphabet.calls kj59 t328 _ _ t329 t332 t333 t336 _ ?side1 ?side2 ?side3 A102.out).mono ?_); (case side1 => have q_ := Aside0.mk (Kd.R_reads' HO331.out).2.2; exact cQ q_); (case side2 => exact (Kd.R_reads' HO331.out).2.1); (case side3 => exact TabW.below HT.out (beQ HB)); rintro e w116 ⟨v334, rfl, ho0, hb⟩; refine ⟨_, rfl, ?_⟩; replace HO_305001 := Aside0.mk (Kd.V_elder' (by (with_reducible repeat (first | apply Kd.V_alloc | apply Kd.V_drewN | apply Kd.V_drew)); exact HO_305001.out) (Kd.R_base ho0) hb); have HO335 := Aside0.mk (Kd.R_lower (Kd.R_new' (Kd.R_new' (Kd.R_new' ho0 (Kd.R_lt (kdQ HO_310001))) (Kd.R_lt (kdQ HO_316001))) (Kd.R_lt (kdQ HO331))) (below_size (beQ HB))); replace HO_310001 := Aside0.mk (Kd.R_elder' (kdQ HO_310001) (Kd.R_base ho0) hb); replace HO_316001 := Aside0.mk (Kd.R_elder' (kdQ HO_316001) (Kd.R_base ho0) hb); replace HO331 := Aside0.mk (Kd.R_elder' (kdQ HO331) (Kd.R_base ho0) hb); replace BK293 := bb BK293 hb; replace BK304 := bb BK304 hb; replace BK309 := bb BK309 hb; replace BK315 := bb BK315 hb; replace HB := Aside0.mk (below_step (beQ HB) hb); (try clear hb); (try clear hb2); (try clear hk); (try clear hi); (try clear hgw_); (try clear ho0)) | ((with_reducible refine gate_dst (N := 12) rfl ?_); refine box_event ?hg (N := 12) ?hd (cs := #[.int .i64 0, .slice none 0 0]) (t := 26) ?hr ?_; (case hd => rfl); (case hg => rfl); (case hr => first | (go_simp; done) | (go_simp; rfl)); intro gb337 hg w117 hbox hb; replace HO_305001 := Aside0.mk (Kd.V_below (Kd.V_elderB (by (with_reducible repeat (first | apply Kd.V_alloc | apply Kd.V_drewN | apply Kd.V_drew)); exact HO_305001.out) gb337 (Nat.le_of_eq hg.symm)) hb); replace HO_310001 := kb HO_310001 hb; replace HO_316001 := kb HO_316001 hb; replace HO331 := kb HO331 hb; replace HO335 := kb HO335 hb; have BK337 := Aside0.mk (hbox); have GW337 := Aside0.mk ((by rw [hg]; exact (below_size (beQ HB)) : w.heap.size ≤ gb337)); have GE337 := Aside0.mk ((by rw [hg]; exact (below_size (beQ HB)) : w.heap.size ≤ gb337)); replace HB := Aside0.mk (below_step (beQ HB) hb); have NB293_337 := Aside0.mk ((by rw [hg]; exact Nat.ne_of_lt (blk_lt (blkQ BK293)) : gb293 ≠ gb337)); have NB337_293 := Aside0.mk ((by rw [hg]; exact Nat.ne_of_gt (blk_lt (blkQ BK293)) : gb337 ≠ gb293)); replace BK293 := bb BK293 hb; have NB304_337 := Aside0.mk ((by rw [hg]; exact Nat.ne_of_lt (blk_lt (blkQ BK304)) : gb304 ≠ gb337)); have NB337_304 := Aside0.mk ((by rw [hg]; exact Nat.ne_of_gt (blk_lt (blkQ BK304)) : gb337 ≠ gb304)); replace BK304 := bb BK304 hb; have NB309_337 := Aside0.mk ((by rw [hg]; exact Nat.ne_of_lt (blk_lt (blkQ BK309)) : gb309 ≠ gb337)); have NB337_309 := Aside0.mk ((by rw [hg]; exact Nat.ne_of_gt (blk_lt (blkQ BK309)) : gb337 ≠ gb309)); replace BK309 := bb BK309 hb; have NB315_337 := Aside0.mk ((by rw [hg]; exact Nat.ne_of_lt (blk_lt (blkQ BK315)) : gb315 ≠ gb337)); have NB337_315 := Aside0.mk ((by rw [hg]; exact Nat.ne_of_gt (blk_lt (blkQ BK315)) : gb337 ≠ gb315)); replace BK315 := bb BK315 hb; clear hb hbox hg; have hnb118 := NB337_293.out; have hnc118 := NB293_337.out; have hnb119 := NB337_304.out; have hnc119 := NB304_337.out; have hnb120 := NB337_309.out; have hnc120 := NB309_337.out; have hnb121 := NB337_315.out; have hnc121 := NB315_337.out; have hcz122_0 : w117.cell? ⟨gb337, 0, none⟩ = some (.int .i64 0) := bc BK337 0; have hcz122_1 : w117.cell? ⟨gb337, 1, none⟩ = some (.slice none 0 0) := bc BK337 1; have hfz122_0 := blk_frozen BK337.out 0; have hfz122_1 := blk_frozen BK337.out 1; obtain ⟨Ao123, co123, eo123⟩ := Kd.R_slice HO335.out; subst eo123))
           (try simp only [Act.put, List.setIfInBounds_toArray, List.set_cons_zero, List.set_cons_succ])
           go_cut [87] (fun v87 wc => ∃ (kq : Nat) (x87_102 : Bool), v87 = .bool x87_102 ∧ Aside0 (laws_FnExactLeastAlphabet.j2 kq t325 x87_102 t310 t326 = some r) ∧ Aside0 (kq ≤ kj59) ∧ Aside0 (Kd.V (Kd.int .i64) 2 wc w.heap.size (fun k_ => some k_ ≠ ((.slice Ao29 t323.length co29) : Value).ownBlock ∧ some k_ ≠ ((.slice Ao36 t311.length co36) : Value).ownBlock ∧ some k_ ≠ ((.slice Ao123 t333.length co123) : Value).ownBlock ∧ k_ ≠ gb293 ∧ k_ ≠ gb304 ∧ k_ ≠ gb309 ∧ k_ ≠ gb315 ∧ k_ ≠ gb337) (.slice Ao22 t300.length co22) t300) ∧ Aside0 (Kd.R (Kd.int .i64) 2 wc w.heap.size (fun k_ => some k_ ≠ ((.slice Ao36 t311.length co36) : Value).ownBlock ∧ some k_ ≠ ((.slice Ao123 t333.length co123) : Value).ownBlock) (.slice Ao29 t323.length co29) t323) ∧ Aside0 (Kd.R (Kd.int .i64) 2 wc w.heap.size (fun k_ => some k_ ≠ ((.slice Ao29 t323.length co29) : Value).ownBlock ∧ some k_ ≠ ((.slice Ao123 t333.length co123) : Value).ownBlock) (.slice Ao36 t311.length co36) t326) ∧ Aside0 (Kd.R (Kd.int .i64) 2 wc w.heap.size (fun k_ => some k_ ≠ ((.slice Ao29 t323.length co29) : Value).ownBlock ∧ some k_ ≠ ((.slice Ao36 t311.length co36) : Value).ownBlock) (.slice Ao123 t333.length co123) t333) ∧ Aside0 (wc.heap[gb293]? = some (.cells #[.int .i64 a0_0, (.slice A0_1 l0_1.length c0_1)] 24 (0, 0))) ∧ Aside0 (wc.heap[gb304]? = some (.cells #[.int .i64 t299, (.slice Ao22 t300.length co22)] 26 (0, 0))) ∧ Aside0 (wc.heap[gb309]? = some (.cells #[.int .i64 t305, (.slice Ao29 t323.length co29)] 26 (0, 0))) ∧ Aside0 (wc.heap[gb315]? = some (.cells #[.int .i64 t310, (.slice Ao36 t311.length co36)] 26 (0, 0))) ∧ Aside0 (wc.heap[gb337]? = some (.cells #[.int .i64 t332, (.slice Ao123 t333.length co123)] 26 (0, 0))) ∧ Aside0 (Below w.heap.size w wc))
           case first =>
            have H := HC103.out; clear HC103; replace H := Option.bind_eq_some_iff.mp H; obtain ⟨t338, A1240, H⟩ := H
            replace H : (if t338 = true then (laws_FnExactLeastAlphabet.j2 kj59 t325 (t336 != t303) t310 t326) else (laws_FnExactLeastAlphabet.j2 kj59 t325 true t310 t326)) = some r := H
            have A124 := Aside0.mk A1240; clear A1240
            by_cases c125 : t338 = true
            ·subst c125
             have H1 : (laws_FnExactLeastAlphabet.j2 kj59 t325 (t336 != t303) t310 t326) = some r := by rw [if_pos rfl] at H; exact H
             clear H; have H := H1; clear H1
             have H' := Aside0.mk H
             clear H; have hnb126 := NB337_293.out; have hnc126 := NB293_337.out; have hnb127 := NB337_304.out; have hnc127 := NB304_337.out; have hnb128 := NB337_309.out; have hnc128 := NB309_337.out; have hnb129 := NB337_315.out; have hnc129 := NB315_337.out
             have hcz130_0 : w117.cell? ⟨gb337, 0, none⟩ = some (.int .i64 0) := bc BK337 0
             have hcz130_1 : w117.cell? ⟨gb337, 1, none⟩ = some (.slice none 0 0) := bc BK337 1
             have hfz130_0 := blk_frozen BK337.out 0; have hfz130_1 := blk_frozen BK337.out 1; have hnb131 := NB304_293.out; have hnc131 := NB293_304.out; have hnb132 := NB304_309.out; have hnc132 := NB309_304.out; have hnb133 := NB304_315.out; have hnc133 := NB315_304.out
             have hcz134_0 : w117.cell? ⟨gb304, 0, none⟩ = some (.int .i64 t299) := bc BK304 0
             have hcz134_1 : w117.cell? ⟨gb304, 1, none⟩ = some (.slice Ao22 t300.length co22) := bc BK304 1
             have hfz134_0 := blk_frozen BK304.out 0; have hfz134_1 := blk_frozen BK304.out 1
             go_wp2_with (first | ((with_reducible refine gate_callee (f := 9) rfl ?_); refine goesL_ (some 81) rfl rfl Tryd.func9 (by kernel_rfl) rfl #[.agg #[.int .i64 t332, .slice Ao123 t333.length co123], .agg #[.int .i64 t299, .slice Ao22 t300.length co22]] rfl lz ?_; (with_reducible refine (laws_eqAlphabet.calls kj59 t332 _ _ t333 t299 _ _ t300 true _ ?side1 ?side2 ?side3 ?side4 A124.out).mono ?_); (case side1 => refine (Kd.R_reads' (e := 2) (base := w.heap.size) (ok := fun k_ => (((True ∧ some k_ ≠ (.slice Ao29 t323.length co29 : Value).ownBlock) ∧ some k_ ≠ (.slice Ao36 t311.length co36 : Value).ownBlock) ∧ some k_ ≠ (.slice Ao115 t329.length co115 : Value).ownBlock)) (n := t333.length) (c := co123) ?_).2.2; exact (by (with_reducible repeat (first | apply Kd.R_alloc | apply Kd.R_drewN | apply Kd.R_drew)); exact (Kd.R_mono (Kd.R_far (p := ⟨gb337, 1, none⟩) (Kd.R_far (p := ⟨gb337, 0, none⟩) (Kd.R_types HO335.out BK337.out (by decide)) (fun _ hk => hk.2) (.int .i64 t332)) (fun _ hk => hk.2) (.slice Ao123 t333.length co123)) (fun _ h_ => h_.1)))); (case side2 => exact (Kd.R_reads' HO335.out).2.1); (case side3 => refine (Kd.V_reads' (e := 2) (base := w.heap.size) (ok := fun k_ => ((((some k_ ≠ (.slice Ao29 t323.length co29 : Value).ownBlock ∧ (some k_ ≠ (.slice Ao36 t311.length co36 : Value).ownBlock ∧ (k_ ≠ gb293 ∧ (k_ ≠ gb304 ∧ (k_ ≠ gb309 ∧ k_ ≠ gb315))))) ∧ some k_ ≠ (.slice Ao115 t329.length co115 : Value).ownBlock) ∧ some k_ ≠ (.slice Ao123 t333.length co123 : Value).ownBlock) ∧ k_ ≠ gb337)) (n := t300.length) (c := co22) ?_).2.2; exact (by (with_reducible repeat (first | apply Kd.V_alloc | apply Kd.V_drewN | apply Kd.V_drew)); exact (Kd.V_mono (Kd.V_far (p := ⟨gb337, 1, none⟩) (Kd.V_far (p := ⟨gb337, 0, none⟩) (Kd.V_mono HO_305001.out (fun k_ hk => (⟨hk, hk.2⟩ : _ ∧ k_ ≠ gb337))) (fun _ hk => hk.2) (.int .i64 t332)) (fun _ hk => hk.2) (.slice Ao123 t333.length co123)) (fun _ h_ => h_.1)))); (case side4 => exact (Kd.V_reads' HO_305001.out).2.1); rintro e w135 ⟨rfl, hb⟩; refine ⟨_, rfl, ?_⟩; replace HO_305001 := Aside0.mk (Kd.V_below (by (with_reducible repeat (first | apply Kd.V_alloc | apply Kd.V_drewN | apply Kd.V_drew)); exact (Kd.V_mono (Kd.V_far (p := ⟨gb337, 1, none⟩) (Kd.V_far (p := ⟨gb337, 0, none⟩) (Kd.V_mono HO_305001.out (fun k_ hk => (⟨hk, hk.2⟩ : _ ∧ k_ ≠ gb337))) (fun _ hk => hk.2) (.int .i64 t332)) (fun _ hk => hk.2) (.slice Ao123 t333.length co123)) (fun _ h_ => h_.1))) hb); replace HO_310001 := Aside0.mk (Kd.R_below (by (with_reducible repeat (first | apply Kd.R_alloc | apply Kd.R_drewN | apply Kd.R_drew)); exact (Kd.R_mono (Kd.R_far (p := ⟨gb337, 1, none⟩) (Kd.R_far (p := ⟨gb337, 0, none⟩) (Kd.R_types HO_310001.out BK337.out (by decide)) (fun _ hk => hk.2) (.int .i64 t332)) (fun _ hk => hk.2) (.slice Ao123 t333.length co123)) (fun _ h_ => h_.1))) hb); replace HO_316001 := Aside0.mk (Kd.R_below (by (with_reducible repeat (first | apply Kd.R_alloc | apply Kd.R_drewN | apply Kd.R_drew)); exact (Kd.R_mono (Kd.R_far (p := ⟨gb337, 1, none⟩) (Kd.R_far (p := ⟨gb337, 0, none⟩) (Kd.R_types HO_316001.out BK337.out (by decide)) (fun _ hk => hk.2) (.int .i64 t332)) (fun _ hk => hk.2) (.slice Ao123 t333.length co123)) (fun _ h_ => h_.1))) hb); replace HO331 := Aside0.mk (Kd.R_below (by (with_reducible repeat (first | apply Kd.R_alloc | apply Kd.R_drewN | apply Kd.R_drew)); exact (Kd.R_mono (Kd.R_far (p := ⟨gb337, 1, none⟩) (Kd.R_far (p := ⟨gb337, 0, none⟩) (Kd.R_types HO331.out BK337.out (by decide)) (fun _ hk => hk.2) (.int .i64 t332)) (fun _ hk => hk.2) (.slice Ao123 t333.length co123)) (fun _ h_ => h_.1))) hb); replace HO335 := Aside0.mk (Kd.R_below (by (with_reducible repeat (first | apply Kd.R_alloc | apply Kd.R_drewN | apply Kd.R_drew)); exact (Kd.R_mono (Kd.R_far (p := ⟨gb337, 1, none⟩) (Kd.R_far (p := ⟨gb337, 0, none⟩) (Kd.R_types HO335.out BK337.out (by decide)) (fun _ hk => hk.2) (.int .i64 t332)) (fun _ hk => hk.2) (.slice Ao123 t333.length co123)) (fun _ h_ => h_.1))) hb); replace BK293 := Aside0.mk (blk_below (blkF BK293) hb); replace BK304 := Aside0.mk (blk_below (blkF BK304) hb); replace BK309 := Aside0.mk (blk_below (blkF BK309) hb); replace BK315 := Aside0.mk (blk_below (blkF BK315) hb); replace BK337 := Aside0.mk (blk_below (g := gb337) (o := .cells #[.int .i64 t332, .slice Ao123 t333.length co123] 26 (0, 0)) (by (with_reducible repeat (first | refine blk_drewN ?_ _ | refine blk_drew ?_ | refine blk_alloc ?_ _)); refine blk_put (cs := #[.int .i64 t332, .slice none 0 0]) ?_ 1 _ rfl; (with_reducible repeat (first | refine blk_drewN ?_ _ | refine blk_drew ?_ | refine blk_alloc ?_ _)); refine blk_put (cs := #[.int .i64 0, .slice none 0 0]) ?_ 0 _ rfl; (with_reducible repeat (first | refine blk_drewN ?_ _ | refine blk_drew ?_ | refine blk_alloc ?_ _)); exact BK337.out) hb); replace HB := Aside0.mk (below_step (beQ HB) hb); (try clear hb); (try clear hb2); (try clear hk); (try clear hi); (try clear hgw_)))
             go_meet
             case rel => exact ⟨_, ((t336 != t303)), sz, H', ⟨by have := HJ10.out; have := HJ59.out; first | omega | exact Nat.le_refl _⟩, ⟨by (try simp only [hl310001_59]); (with_reducible repeat (first | apply Kd.V_alloc | apply Kd.V_drewN | apply Kd.V_drew)); exact Kd.V_mono HO_305001.out (fun _ hk => ⟨hk.1.1.1.1, ⟨hk.1.1.1.2.1, ⟨hk.1.2, ⟨hk.1.1.1.2.2.1, ⟨hk.1.1.1.2.2.2.1, ⟨hk.1.1.1.2.2.2.2.1, ⟨hk.1.1.1.2.2.2.2.2, hk.2⟩⟩⟩⟩⟩⟩⟩)⟩, ⟨by (try simp only [hl310001_59]); (with_reducible repeat (first | apply Kd.R_alloc | apply Kd.R_drewN | apply Kd.R_drew)); exact Kd.R_mono HO_310001.out (fun _ hk => ⟨hk.1.1, hk.2⟩)⟩, ⟨by (try simp only [hl310001_59]); (with_reducible repeat (first | apply Kd.R_alloc | apply Kd.R_drewN | apply Kd.R_drew)); exact Kd.R_mono HO_316001.out (fun _ hk => ⟨hk.1.1, hk.2⟩)⟩, ⟨by (try simp only [hl310001_59]); (with_reducible repeat (first | apply Kd.R_alloc | apply Kd.R_drewN | apply Kd.R_drew)); exact Kd.R_mono HO335.out (fun _ hk => ⟨hk.1.1.2, hk.1.2⟩)⟩, ⟨by (try simp only [hl310001_59]); (with_reducible repeat (first | refine blk_drewN ?_ _ | refine blk_drew ?_ | refine blk_alloc ?_ _)); exact BK293.out⟩, ⟨by (try simp only [hl310001_59]); (with_reducible repeat (first | refine blk_drewN ?_ _ | refine blk_drew ?_ | refine blk_alloc ?_ _)); exact BK304.out⟩, ⟨by (try simp only [hl310001_59]); (with_reducible repeat (first | refine blk_drewN ?_ _ | refine blk_drew ?_ | refine blk_alloc ?_ _)); exact BK309.out⟩, ⟨by (try simp only [hl310001_59]); (with_reducible repeat (first | refine blk_drewN ?_ _ | refine blk_drew ?_ | refine blk_alloc ?_ _)); exact BK315.out⟩, ⟨by (try simp only [hl310001_59]); (with_reducible repeat (first | refine blk_drewN ?_ _ | refine blk_drew ?_ | refine blk_alloc ?_ _)); exact BK337.out⟩, ⟨beQ HB⟩⟩
            ·replace c125 := Bool.eq_false_iff.mpr c125
             subst c125
             have H1 : (laws_FnExactLeastAlphabet.j2 kj59 t325 true t310 t326) = some r := by rw [if_neg (show ¬ (false = true) by decide)] at H; exact H
             clear H; have H := H1; clear H1
             have H' := Aside0.mk H
             clear H; have hnb136 := NB337_293.out; have hnc136 := NB293_337.out; have hnb137 := NB337_304.out; have hnc137 := NB304_337.out; have hnb138 := NB337_309.out; have hnc138 := NB309_337.out; have hnb139 := NB337_315.out; have hnc139 := NB315_337.out
             have hcz140_0 : w117.cell? ⟨gb337, 0, none⟩ = some (.int .i64 0) := bc BK337 0
             have hcz140_1 : w117.cell? ⟨gb337, 1, none⟩ = some (.slice none 0 0) := bc BK337 1
             have hfz140_0 := blk_frozen BK337.out 0; have hfz140_1 := blk_frozen BK337.out 1; have hnb141 := NB304_293.out; have hnc141 := NB293_304.out; have hnb142 := NB304_309.out; have hnc142 := NB309_304.out; have hnb143 := NB304_315.out; have hnc143 := NB315_304.out
             have hcz144_0 : w117.cell? ⟨gb304, 0, none⟩ = some (.int .i64 t299) := bc BK304 0
             have hcz144_1 : w117.cell? ⟨gb304, 1, none⟩ = some (.slice Ao22 t300.length co22) := bc BK304 1
             have hfz144_0 := blk_frozen BK304.out 0; have hfz144_1 := blk_frozen BK304.out 1
             go_wp2_with (first | ((with_reducible refine gate_callee (f := 9) rfl ?_); refine goesL_ (some 81) rfl rfl Tryd.func9 (by kernel_rfl) rfl #[.agg #[.int .i64 t332, .slice Ao123 t333.length co123], .agg #[.int .i64 t299, .slice Ao22 t300.length co22]] rfl lz ?_; (with_reducible refine (laws_eqAlphabet.calls kj59 t332 _ _ t333 t299 _ _ t300 false _ ?side1 ?side2 ?side3 ?side4 A124.out).mono ?_); (case side1 => refine (Kd.R_reads' (e := 2) (base := w.heap.size) (ok := fun k_ => (((True ∧ some k_ ≠ (.slice Ao29 t323.length co29 : Value).ownBlock) ∧ some k_ ≠ (.slice Ao36 t311.length co36 : Value).ownBlock) ∧ some k_ ≠ (.slice Ao115 t329.length co115 : Value).ownBlock)) (n := t333.length) (c := co123) ?_).2.2; exact (by (with_reducible repeat (first | apply Kd.R_alloc | apply Kd.R_drewN | apply Kd.R_drew)); exact (Kd.R_mono (Kd.R_far (p := ⟨gb337, 1, none⟩) (Kd.R_far (p := ⟨gb337, 0, none⟩) (Kd.R_types HO335.out BK337.out (by decide)) (fun _ hk => hk.2) (.int .i64 t332)) (fun _ hk => hk.2) (.slice Ao123 t333.length co123)) (fun _ h_ => h_.1)))); (case side2 => exact (Kd.R_reads' HO335.out).2.1); (case side3 => refine (Kd.V_reads' (e := 2) (base := w.heap.size) (ok := fun k_ => ((((some k_ ≠ (.slice Ao29 t323.length co29 : Value).ownBlock ∧ (some k_ ≠ (.slice Ao36 t311.length co36 : Value).ownBlock ∧ (k_ ≠ gb293 ∧ (k_ ≠ gb304 ∧ (k_ ≠ gb309 ∧ k_ ≠ gb315))))) ∧ some k_ ≠ (.slice Ao115 t329.length co115 : Value).ownBlock) ∧ some k_ ≠ (.slice Ao123 t333.length co123 : Value).ownBlock) ∧ k_ ≠ gb337)) (n := t300.length) (c := co22) ?_).2.2; exact (by (with_reducible repeat (first | apply Kd.V_alloc | apply Kd.V_drewN | apply Kd.V_drew)); exact (Kd.V_mono (Kd.V_far (p := ⟨gb337, 1, none⟩) (Kd.V_far (p := ⟨gb337, 0, none⟩) (Kd.V_mono HO_305001.out (fun k_ hk => (⟨hk, hk.2⟩ : _ ∧ k_ ≠ gb337))) (fun _ hk => hk.2) (.int .i64 t332)) (fun _ hk => hk.2) (.slice Ao123 t333.length co123)) (fun _ h_ => h_.1)))); (case side4 => exact (Kd.V_reads' HO_305001.out).2.1); rintro e w145 ⟨rfl, hb⟩; refine ⟨_, rfl, ?_⟩; replace HO_305001 := Aside0.mk (Kd.V_below (by (with_reducible repeat (first | apply Kd.V_alloc | apply Kd.V_drewN | apply Kd.V_drew)); exact (Kd.V_mono (Kd.V_far (p := ⟨gb337, 1, none⟩) (Kd.V_far (p := ⟨gb337, 0, none⟩) (Kd.V_mono HO_305001.out (fun k_ hk => (⟨hk, hk.2⟩ : _ ∧ k_ ≠ gb337))) (fun _ hk => hk.2) (.int .i64 t332)) (fun _ hk => hk.2) (.slice Ao123 t333.length co123)) (fun _ h_ => h_.1))) hb); replace HO_310001 := Aside0.mk (Kd.R_below (by (with_reducible repeat (first | apply Kd.R_alloc | apply Kd.R_drewN | apply Kd.R_drew)); exact (Kd.R_mono (Kd.R_far (p := ⟨gb337, 1, none⟩) (Kd.R_far (p := ⟨gb337, 0, none⟩) (Kd.R_types HO_310001.out BK337.out (by decide)) (fun _ hk => hk.2) (.int .i64 t332)) (fun _ hk => hk.2) (.slice Ao123 t333.length co123)) (fun _ h_ => h_.1))) hb); replace HO_316001 := Aside0.mk (Kd.R_below (by (with_reducible repeat (first | apply Kd.R_alloc | apply Kd.R_drewN | apply Kd.R_drew)); exact (Kd.R_mono (Kd.R_far (p := ⟨gb337, 1, none⟩) (Kd.R_far (p := ⟨gb337, 0, none⟩) (Kd.R_types HO_316001.out BK337.out (by decide)) (fun _ hk => hk.2) (.int .i64 t332)) (fun _ hk => hk.2) (.slice Ao123 t333.length co123)) (fun _ h_ => h_.1))) hb); replace HO331 := Aside0.mk (Kd.R_below (by (with_reducible repeat (first | apply Kd.R_alloc | apply Kd.R_drewN | apply Kd.R_drew)); exact (Kd.R_mono (Kd.R_far (p := ⟨gb337, 1, none⟩) (Kd.R_far (p := ⟨gb337, 0, none⟩) (Kd.R_types HO331.out BK337.out (by decide)) (fun _ hk => hk.2) (.int .i64 t332)) (fun _ hk => hk.2) (.slice Ao123 t333.length co123)) (fun _ h_ => h_.1))) hb); replace HO335 := Aside0.mk (Kd.R_below (by (with_reducible repeat (first | apply Kd.R_alloc | apply Kd.R_drewN | apply Kd.R_drew)); exact (Kd.R_mono (Kd.R_far (p := ⟨gb337, 1, none⟩) (Kd.R_far (p := ⟨gb337, 0, none⟩) (Kd.R_types HO335.out BK337.out (by decide)) (fun _ hk => hk.2) (.int .i64 t332)) (fun _ hk => hk.2) (.slice Ao123 t333.length co123)) (fun _ h_ => h_.1))) hb); replace BK293 := Aside0.mk (blk_below (blkF BK293) hb); replace BK304 := Aside0.mk (blk_below (blkF BK304) hb); replace BK309 := Aside0.mk (blk_below (blkF BK309) hb); replace BK315 := Aside0.mk (blk_below (blkF BK315) hb); replace BK337 := Aside0.mk (blk_below (g := gb337) (o := .cells #[.int .i64 t332, .slice Ao123 t333.length co123] 26 (0, 0)) (by (with_reducible repeat (first | refine blk_drewN ?_ _ | refine blk_drew ?_ | refine blk_alloc ?_ _)); refine blk_put (cs := #[.int .i64 t332, .slice none 0 0]) ?_ 1 _ rfl; (with_reducible repeat (first | refine blk_drewN ?_ _ | refine blk_drew ?_ | refine blk_alloc ?_ _)); refine blk_put (cs := #[.int .i64 0, .slice none 0 0]) ?_ 0 _ rfl; (with_reducible repeat (first | refine blk_drewN ?_ _ | refine blk_drew ?_ | refine blk_alloc ?_ _)); exact BK337.out) hb); replace HB := Aside0.mk (below_step (beQ HB) hb); (try clear hb); (try clear hb2); (try clear hk); (try clear hi); (try clear hgw_)))
             go_meet
             case rel => exact ⟨_, (true), sz, H', ⟨by have := HJ10.out; have := HJ59.out; first | omega | exact Nat.le_refl _⟩, ⟨by (try simp only [hl310001_59]); (with_reducible repeat (first | apply Kd.V_alloc | apply Kd.V_drewN | apply Kd.V_drew)); exact Kd.V_mono HO_305001.out (fun _ hk => ⟨hk.1.1.1.1, ⟨hk.1.1.1.2.1, ⟨hk.1.2, ⟨hk.1.1.1.2.2.1, ⟨hk.1.1.1.2.2.2.1, ⟨hk.1.1.1.2.2.2.2.1, ⟨hk.1.1.1.2.2.2.2.2, hk.2⟩⟩⟩⟩⟩⟩⟩)⟩, ⟨by (try simp only [hl310001_59]); (with_reducible repeat (first | apply Kd.R_alloc | apply Kd.R_drewN | apply Kd.R_drew)); exact Kd.R_mono HO_310001.out (fun _ hk => ⟨hk.1.1, hk.2⟩)⟩, ⟨by (try simp only [hl310001_59]); (with_reducible repeat (first | apply Kd.R_alloc | apply Kd.R_drewN | apply Kd.R_drew)); exact Kd.R_mono HO_316001.out (fun _ hk => ⟨hk.1.1, hk.2⟩)⟩, ⟨by (try simp only [hl310001_59]); (with_reducible repeat (first | apply Kd.R_alloc | apply Kd.R_drewN | apply Kd.R_drew)); exact Kd.R_mono HO335.out (fun _ hk => ⟨hk.1.1.2, hk.1.2⟩)⟩, ⟨by (try simp only [hl310001_59]); (with_reducible repeat (first | refine blk_drewN ?_ _ | refine blk_drew ?_ | refine blk_alloc ?_ _)); exact BK293.out⟩, ⟨by (try simp only [hl310001_59]); (with_reducible repeat (first | refine blk_drewN ?_ _ | refine blk_drew ?_ | refine blk_alloc ?_ _)); exact BK304.out⟩, ⟨by (try simp only [hl310001_59]); (with_reducible repeat (first | refine blk_drewN ?_ _ | refine blk_drew ?_ | refine blk_alloc ?_ _)); exact BK309.out⟩, ⟨by (try simp only [hl310001_59]); (with_reducible repeat (first | refine blk_drewN ?_ _ | refine blk_drew ?_ | refine blk_alloc ?_ _)); exact BK315.out⟩, ⟨by (try simp only [hl310001_59]); (with_reducible repeat (first | refine blk_drewN ?_ _ | refine blk_drew ?_ | refine blk_alloc ?_ _)); exact BK337.out⟩, ⟨beQ HB⟩⟩
           case rest =>
            clear HC103
            try clear c1
            try clear c2
            try clear p2
            try clear c3
            try clear c3b0
            try clear c4
            try clear c5
            try clear c6
            try clear c7
            try clear c8
            try clear c9
            try clear c10
            try clear c11
            try clear c12
            try clear c13
            try clear c14
            try clear c20
            try clear c26
            try clear c27
            try clear c32
            try clear c33
            try clear c34
            try clear c38
            try clear c39
            try clear c40
            try clear c41
            try clear c43
            try clear c44
            try clear c47
            try clear c48
            try clear c49
            try clear c51
            try clear c52
            try clear c55
            try clear c58
            try clear c65
            try clear c66
            try clear c67
            try clear c70
            try clear c70b0
            try clear c72
            try clear c73
            try clear c74
            try clear c75
            try clear c77
            try clear c78
            try clear c81
            try clear c82
            try clear c83
            try clear c85
            try clear c86
            try clear c89
            try clear c92
            try clear c92b0
            try clear c93
            try clear c94
            try clear c95
            try clear c100
            try clear c100b0
            try clear c100b1
            try clear c104
            try clear c105
            try clear c106
            try clear c111
            try clear c112
            try clear c118
            try clear c119
            try clear c120
            try clear c121
            try clear c125
            try clear c126
            try clear c127
            try clear c128
            try clear c129
            try clear c131
            try clear c132
            try clear c133
            try clear c136
            try clear c137
            try clear c138
            try clear c139
            try clear c141
            try clear c142
            try clear c143
            try clear hcz107_0
            try clear hcz107_1
            try clear hcz109_0
            try clear hcz109_1
            try clear hcz113_0
            try clear hcz113_1
            try clear hcz122_0
            try clear hcz122_1
            try clear hcz130_0
            try clear hcz130_1
            try clear hcz134_0
            try clear hcz134_1
            try clear hcz13_0
            try clear hcz13_1
            try clear hcz140_0
            try clear hcz140_1
            try clear hcz144_0
            try clear hcz144_1
            try clear hcz15_0
            try clear hcz15_1
            try clear hcz21_0
            try clear hcz21_1
            try clear hcz23_0
            try clear hcz23_1
            try clear hcz28_0
            try clear hcz28_1
            try clear hcz35_0
            try clear hcz35_1
            try clear hcz42_0
            try clear hcz42_1
            try clear hcz45_0
            try clear hcz45_1
            try clear hcz50_0
            try clear hcz50_1
            try clear hcz53_0
            try clear hcz53_1
            try clear hcz5_0
            try clear hcz5_1
            try clear hcz68_0
            try clear hcz68_1
            try clear hcz76_0
            try clear hcz76_1
            try clear hcz79_0
            try clear hcz79_1
            try clear hcz84_0
            try clear hcz84_1
            try clear hcz87_0
            try clear hcz87_1
            try clear hcz96_0
            try clear hcz96_1
            try clear hcz98_0
            try clear hcz98_1
            try clear hfz107_0
            try clear hfz107_1
            try clear hfz109_0
            try clear hfz109_1
            try clear hfz113_0
            try clear hfz113_1
            try clear hfz122_0
            try clear hfz122_1
            try clear hfz130_0
            try clear hfz130_1
            try clear hfz134_0
            try clear hfz134_1
            try clear hfz13_0
            try clear hfz13_1
            try clear hfz140_0
            try clear hfz140_1
            try clear hfz144_0
            try clear hfz144_1
            try clear hfz15_0
            try clear hfz15_1
            try clear hfz21_0
            try clear hfz21_1
            try clear hfz23_0
            try clear hfz23_1
            try clear hfz28_0
            try clear hfz28_1
            try clear hfz35_0
            try clear hfz35_1
            try clear hfz42_0
            try clear hfz42_1
            try clear hfz45_0
            try clear hfz45_1
            try clear hfz50_0
            try clear hfz50_1
            try clear hfz53_0
            try clear hfz53_1
            try clear hfz5_0
            try clear hfz5_1
            try clear hfz68_0
            try clear hfz68_1
            try clear hfz76_0
            try clear hfz76_1
            try clear hfz79_0
            try clear hfz79_1
            try clear hfz84_0
            try clear hfz84_1
            try clear hfz87_0
            try clear hfz87_1
            try clear hfz96_0
            try clear hfz96_1
            try clear hfz98_0
            try clear hfz98_1
            try clear p2
            obtain ⟨kq, x87_102, rfl, HA, HJ102, HO_305001, HO_310001, HO_316001, HO_338001, BK293, BK304, BK309, BK315, BK337, HB⟩ := hcut; have hl316001_102 := (Kd.R_reads' HO_316001.out).1; rw [hl316001_102] at HO_316001
            (try simp only [hl316001_102])
            (try simp only [hl316001_102] at BK293)
            (try simp only [hl316001_102] at BK304)
            (try simp only [hl316001_102] at BK309)
            (try simp only [hl316001_102] at BK315)
            (try simp only [hl316001_102] at BK337)
            (try simp only [hl316001_102] at HO_305001)
            (try simp only [hl316001_102] at HO_310001)
            (try simp only [hl316001_102] at HO_338001)
            cases kq with
            | zero => exact absurd HA.out (by simp [laws_FnExactLeastAlphabet.j2])
            | succ kj102 =>
             have H := HA.out; clear HA
             simp only [laws_FnExactLeastAlphabet.j2] at H
             by_cases c146 : x87_102 = true
             ·subst c146
              have H1 : (some false) = some r := by rw [if_pos rfl] at H; exact H
              clear H; have H := H1; clear H1
              obtain rfl := Option.some.inj H
              go_wp2
              go_ret
              exact ⟨rz, beQ HB⟩
             ·replace c146 := Bool.eq_false_iff.mpr c146
              subst c146
              have H1 : ((laws_heldAlphabet.f kj102 t310 t326 1).bind fun t339 => (if t339 < 0 then (some false) else (if t339 = t325 then (some true) else (some false)))) = some r := by rw [if_neg (show ¬ (false = true) by decide)] at H; exact H
              clear H; have H := H1; clear H1; replace H := Option.bind_eq_some_iff.mp H; obtain ⟨t339, A1470, H⟩ := H
              replace H : (if t339 < 0 then (some false) else (if t339 = t325 then (some true) else (some false))) = some r := H
              have A147 := Aside0.mk A1470; clear A1470
              by_cases c148 : t339 < 0
              ·rw [if_pos c148] at H
               have c148b0 : decide (t339 < 0) = true := decide_eq_true c148
               clear c148
               obtain rfl := Option.some.inj H
               have hnb149 := NB315_293.out; have hnc149 := NB293_315.out; have hnb150 := NB315_304.out; have hnc150 := NB304_315.out; have hnb151 := NB315_309.out; have hnc151 := NB309_315.out; have hnb152 := NB315_337.out; have hnc152 := NB337_315.out
               have hcz153_0 : wc.cell? ⟨gb315, 0, none⟩ = some (.int .i64 t310) := bc BK315 0
               have hcz153_1 : wc.cell? ⟨gb315, 1, none⟩ = some (.slice Ao36 t326.length co36) := bc BK315 1
               have hfz153_0 := blk_frozen BK315.out 0; have hfz153_1 := blk_frozen BK315.out 1
               go_wp2_with (first | ((with_reducible refine gate_callee (f := 11) rfl ?_); refine goesL_ (some 90) rfl rfl Tryd.func11 (by kernel_rfl) rfl #[.agg #[.int .i64 t310, .slice Ao36 t326.length co36], .int .i64 1] rfl lz ?_; (with_reducible refine (laws_heldAlphabet.calls kj102 t310 _ _ t326 1 t339 _ ?side1 ?side2 A147.out).mono ?_); (case side1 => have q_ := Aside0.mk (Kd.R_reads' HO_316001.out).2.2; exact cQ q_); (case side2 => exact (Kd.R_reads' HO_316001.out).2.1); rintro e w154 ⟨rfl, hb⟩; refine ⟨_, rfl, ?_⟩; replace HO_305001 := Aside0.mk (Kd.V_below (by (with_reducible repeat (first | apply Kd.V_alloc | apply Kd.V_drewN | apply Kd.V_drew)); exact HO_305001.out) hb); replace HO_310001 := kb HO_310001 hb; replace HO_316001 := kb HO_316001 hb; replace HO_338001 := kb HO_338001 hb; replace BK293 := bb BK293 hb; replace BK304 := bb BK304 hb; replace BK309 := bb BK309 hb; replace BK315 := bb BK315 hb; replace BK337 := bb BK337 hb; replace HB := Aside0.mk (below_step (beQ HB) hb); (try clear hb); (try clear hb2); (try clear hk); (try clear hi); (try clear hgw_)))
               go_ret
               exact ⟨rz, beQ HB⟩
              ·rw [if_neg c148] at H
               have c148b0 : decide (t339 < 0) = false := decide_eq_false c148
               clear c148
               by_cases c155 : t339 = t325
               ·rw [if_pos c155] at H
                have c155b0 : (t339 == t325) = true := beq_iff_eq.mpr c155
                have c155b1 : (t339 != t325) = false := bne_eq_false_iff_eq.mpr c155
                clear c155
                obtain rfl := Option.some.inj H
                have hnb156 := NB315_293.out; have hnc156 := NB293_315.out; have hnb157 := NB315_304.out; have hnc157 := NB304_315.out; have hnb158 := NB315_309.out; have hnc158 := NB309_315.out; have hnb159 := NB315_337.out; have hnc159 := NB337_315.out
                have hcz160_0 : wc.cell? ⟨gb315, 0, none⟩ = some (.int .i64 t310) := bc BK315 0
                have hcz160_1 : wc.cell? ⟨gb315, 1, none⟩ = some (.slice Ao36 t326.length co36) := bc BK315 1
                have hfz160_0 := blk_frozen BK315.out 0; have hfz160_1 := blk_frozen BK315.out 1
                go_wp2_with (first | ((with_reducible refine gate_callee (f := 11) rfl ?_); refine goesL_ (some 90) rfl rfl Tryd.func11 (by kernel_rfl) rfl #[.agg #[.int .i64 t310, .slice Ao36 t326.length co36], .int .i64 1] rfl lz ?_; (with_reducible refine (laws_heldAlphabet.calls kj102 t310 _ _ t326 1 t339 _ ?side1 ?side2 A147.out).mono ?_); (case side1 => have q_ := Aside0.mk (Kd.R_reads' HO_316001.out).2.2; exact cQ q_); (case side2 => exact (Kd.R_reads' HO_316001.out).2.1); rintro e w161 ⟨rfl, hb⟩; refine ⟨_, rfl, ?_⟩; replace HO_305001 := Aside0.mk (Kd.V_below (by (with_reducible repeat (first | apply Kd.V_alloc | apply Kd.V_drewN | apply Kd.V_drew)); exact HO_305001.out) hb); replace HO_310001 := kb HO_310001 hb; replace HO_316001 := kb HO_316001 hb; replace HO_338001 := kb HO_338001 hb; replace BK293 := bb BK293 hb; replace BK304 := bb BK304 hb; replace BK309 := bb BK309 hb; replace BK315 := bb BK315 hb; replace BK337 := bb BK337 hb; replace HB := Aside0.mk (below_step (beQ HB) hb); (try clear hb); (try clear hb2); (try clear hk); (try clear hi); (try clear hgw_)))
                go_ret
                exact ⟨rz, beQ HB⟩
               ·rw [if_neg c155] at H
                have c155b0 : (t339 == t325) = false := beq_eq_false_iff_ne.mpr c155
                have c155b1 : (t339 != t325) = true := bne_iff_ne.mpr c155
                obtain rfl := Option.some.inj H
                have hnb162 := NB315_293.out; have hnc162 := NB293_315.out; have hnb163 := NB315_304.out; have hnc163 := NB304_315.out; have hnb164 := NB315_309.out; have hnc164 := NB309_315.out; have hnb165 := NB315_337.out; have hnc165 := NB337_315.out
                have hcz166_0 : wc.cell? ⟨gb315, 0, none⟩ = some (.int .i64 t310) := bc BK315 0
                have hcz166_1 : wc.cell? ⟨gb315, 1, none⟩ = some (.slice Ao36 t326.length co36) := bc BK315 1
                have hfz166_0 := blk_frozen BK315.out 0; have hfz166_1 := blk_frozen BK315.out 1
                go_wp2_with (first | ((with_reducible refine gate_callee (f := 11) rfl ?_); refine goesL_ (some 90) rfl rfl Tryd.func11 (by kernel_rfl) rfl #[.agg #[.int .i64 t310, .slice Ao36 t326.length co36], .int .i64 1] rfl lz ?_; (with_reducible refine (laws_heldAlphabet.calls kj102 t310 _ _ t326 1 t339 _ ?side1 ?side2 A147.out).mono ?_); (case side1 => have q_ := Aside0.mk (Kd.R_reads' HO_316001.out).2.2; exact cQ q_); (case side2 => exact (Kd.R_reads' HO_316001.out).2.1); rintro e w167 ⟨rfl, hb⟩; refine ⟨_, rfl, ?_⟩; replace HO_305001 := Aside0.mk (Kd.V_below (by (with_reducible repeat (first | apply Kd.V_alloc | apply Kd.V_drewN | apply Kd.V_drew)); exact HO_305001.out) hb); replace HO_310001 := kb HO_310001 hb; replace HO_316001 := kb HO_316001 hb; replace HO_338001 := kb HO_338001 hb; replace BK293 := bb BK293 hb; replace BK304 := bb BK304 hb; replace BK309 := bb BK309 hb; replace BK315 := bb BK315 hb; replace BK337 := bb BK337 hb; replace HB := Aside0.mk (below_step (beQ HB) hb); (try clear hb); (try clear hb2); (try clear hk); (try clear hi); (try clear hgw_)))
                go_ret
                exact ⟨rz, beQ HB⟩
          ·rw [if_neg c100] at H
           have c100b0 : (t327 == t325) = false := beq_eq_false_iff_ne.mpr c100
           have c100b1 : (t327 != t325) = true := bne_iff_ne.mpr c100
           obtain rfl := Option.some.inj H
           have hnb168 := NB315_293.out; have hnc168 := NB293_315.out; have hnb169 := NB315_304.out; have hnc169 := NB304_315.out; have hnb170 := NB315_309.out; have hnc170 := NB309_315.out
           have hcz171_0 : wc.cell? ⟨gb315, 0, none⟩ = some (.int .i64 t310) := bc BK315 0
           have hcz171_1 : wc.cell? ⟨gb315, 1, none⟩ = some (.slice Ao36 t311.length co36) := bc BK315 1
           have hfz171_0 := blk_frozen BK315.out 0; have hfz171_1 := blk_frozen BK315.out 1
           go_wp2_with (first | ((with_reducible refine gate_callee (f := 10) rfl ?_); refine goesL_ (some 64) rfl rfl Tryd.func10 (by kernel_rfl) rfl #[.agg #[.int .i64 t310, .slice Ao36 t311.length co36], .int .i64 1] rfl lz ?_; (with_reducible refine (laws_markAlphabet.calls kj59 t310 (fun k_ => some k_ = (.slice Ao36 t311.length co36 : Value).ownBlock) (.slice Ao36 t311.length co36) t311 1 t325 t326 w _ ?side1 ?side2 A90.out).mono ?_); (case side1 => repeat (first | (with_reducible first | exact HB.out | apply below_alloc | apply pw_below_drewN | apply below_drew1 | refine below_set ?_ GE293.out | refine below_set ?_ GE304.out | refine below_set ?_ GE309.out | refine below_set ?_ GE315.out) | exact HB.out)); (case side2 => exact Kd.R_tight rfl HO_316001.out); rintro e w172 ⟨rfl, hy0, hb, hkp⟩; refine ⟨_, rfl, ?_⟩; replace HO_305001 := Aside0.mk (Kd.V_mono (ok' := fun k_ => some k_ ≠ (.slice Ao29 t323.length co29 : Value).ownBlock ∧ some k_ ≠ (.slice Ao36 t311.length co36 : Value).ownBlock ∧ k_ ≠ gb293 ∧ k_ ≠ gb304 ∧ k_ ≠ gb309 ∧ k_ ≠ gb315) (Kd.V_keptB (HO_305001.out) hkp (fun k_ hk_ hs_ => (hk_.2.1) hs_)) (fun k_ hk_ => ⟨hk_.1.1, hk_.1.2.1, hk_.1.2.2.1, hk_.1.2.2.2.1, hk_.1.2.2.2.2.1, hk_.1.2.2.2.2.2⟩)); replace HO_310001 := Aside0.mk (Kd.R_mono (ok' := fun k_ => some k_ ≠ (.slice Ao36 t311.length co36 : Value).ownBlock) (Kd.R_keptB (HO_310001.out) hkp (fun k_ hk_ hs_ => (hk_) hs_)) (fun k_ hk_ => hk_.1)); replace BK293 := Aside0.mk (blk_kept (blkQ BK293) hkp (fun hs_ => (fun e_ => (Kd.R_ne HO_316001.out BK293.out (by decide)) e_) hs_)); replace BK304 := Aside0.mk (blk_kept (blkQ BK304) hkp (fun hs_ => (fun e_ => (Kd.R_ne HO_316001.out BK304.out (by decide)) e_) hs_)); replace BK309 := Aside0.mk (blk_kept (blkQ BK309) hkp (fun hs_ => (fun e_ => (Kd.R_ne HO_316001.out BK309.out (by decide)) e_) hs_)); replace BK315 := Aside0.mk (blk_kept (blkQ BK315) hkp (fun hs_ => (fun e_ => (Kd.R_ne HO_316001.out BK315.out (by decide)) e_) hs_)); replace HO_316001 := Aside0.mk (Kd.R_reok rfl hy0 (fun k_ e_ => HO_316001.out.1 k_ e_)); replace HB := Aside0.mk (hb); (try clear hb); (try clear hkp); (try clear hy0); have hcz173_0 : w172.cell? ⟨gb315, 0, none⟩ = some (.int .i64 t310) := bc BK315 0; have hcz173_1 : w172.cell? ⟨gb315, 1, none⟩ = some (.slice Ao36 t311.length co36) := bc BK315 1; have hfz173_0 := blk_frozen BK315.out 0; have hfz173_1 := blk_frozen BK315.out 1) | ((with_reducible refine gate_callee (f := 11) rfl ?_); refine goesL_ (some 67) rfl rfl Tryd.func11 (by kernel_rfl) rfl #[.agg #[.int .i64 t310, .slice Ao36 t326.length co36], .int .i64 1] rfl (by (try simp only [List.map_toArray, List.map_cons, List.map_nil]); first | done | (rw [show t326.length = t311.length from (Kd.R_reads' HO_316001.out).1.symm] <;> rfl) | rfl | (simp only [List.length_drop, List.length_take]; rfl)) ?_; (with_reducible refine (laws_heldAlphabet.calls kj59 t310 _ _ t326 1 t327 _ ?side1 ?side2 A91.out).mono ?_); (case side1 => have q_ := Aside0.mk (Kd.R_reads' HO_316001.out).2.2; exact cQ q_); (case side2 => rw [show t326.length = t311.length from (Kd.R_reads' HO_316001.out).1.symm]; exact (Kd.R_reads' HO_316001.out).2.1); rintro e w174 ⟨rfl, hb⟩; refine ⟨_, rfl, ?_⟩; replace HO_305001 := Aside0.mk (Kd.V_below (by (with_reducible repeat (first | apply Kd.V_alloc | apply Kd.V_drewN | apply Kd.V_drew)); exact HO_305001.out) hb); replace HO_310001 := kb HO_310001 hb; replace HO_316001 := kb HO_316001 hb; replace BK293 := bb BK293 hb; replace BK304 := bb BK304 hb; replace BK309 := bb BK309 hb; replace BK315 := bb BK315 hb; replace HB := Aside0.mk (below_step (beQ HB) hb); (try clear hb); (try clear hb2); (try clear hk); (try clear hi); (try clear hgw_)))
           go_ret
           exact ⟨rz, beQ HB⟩
     ·replace c58 := Bool.eq_false_iff.mpr c58
      subst c58
      have H1 : (some false) = some r := by rw [if_neg (show ¬ (false = true) by decide)] at H; exact H
      clear H; have H := H1; clear H1
      obtain rfl := Option.some.inj H
      try go_wp2
      replace HO_305001 := Aside0.mk (Kd.V_drew HO_305001.out); replace HO_310001 := Aside0.mk (Kd.R_drew HO_310001.out); replace HO_316001 := Aside0.mk (Kd.R_drew HO_316001.out); replace BK293 := Aside0.mk (blk_drew BK293.out); replace BK304 := Aside0.mk (blk_drew BK304.out); replace BK309 := Aside0.mk (blk_drew BK309.out); replace BK315 := Aside0.mk (blk_drew BK315.out); replace HB := Aside0.mk (below_drew1 HB.out)
      refine start_ (n := 5) (S := fun w' => w'.cell? ⟨gb309, 0, none⟩ = some (.int .i64 t305) ∧ w'.cell? ⟨gb309, 1, none⟩ = some (.slice Ao29 t306.length co29) ∧ w'.cell? ⟨gb293, 0, none⟩ = some (.int .i64 a0_0) ∧ w'.cell? ⟨gb293, 1, none⟩ = some (.slice A0_1 l0_1.length c0_1)) (ds := []) #[false, false, false, false, false] (by kernel_rfl) rfl rfl ⟨bc BK309 0, bc BK309 1, bc BK293 0, bc BK293 1⟩ (fun hHeld => ?_)
      generalize wc.drew = w175 at HO_305001 HO_310001 HO_316001 BK293 BK304 BK309 BK315 HB hHeld ⊢
      refine take_ (i := 0) (N := some 41) (v := ?_) (a' := ?_) #[true, false, false, false, false] rfl rfl (by kernel_rfl) (fun _ _ _ h => h) (Or.inl ⟨by rfl, ?_⟩) hHeld ?_ ?_
      rotate_left
      ·rintro w' ⟨s0, s1, s2, s3⟩
       go_simp
       with_reducible rfl
      rotate_left
      ·simp only [Act.put, s1, s2, s3, i64_w, i32_w]
       rfl
      refine take_ (i := 1) (N := some 42) (v := ?_) (a' := ?_) #[true, true, false, false, false] rfl rfl (by kernel_rfl) (fun _ _ _ h => h) (Or.inl ⟨by rfl, ?_⟩) hHeld ?_ ?_
      rotate_left
      ·rintro w' ⟨s0, s1, s2, s3⟩
       go_simp
       with_reducible rfl
      rotate_left
      ·simp only [Act.put, s1, s2, s3, i64_w, i32_w]
       rfl
      refine one_ (i := 2) (N := some 43) #[true, true, true, false, false] rfl rfl (by kernel_rfl) (by decide) (fun K hK => ?_)
      refine goes_ Tryd.func7 (by kernel_rfl) rfl #[.agg #[.int .i64 a0_0, .slice A0_1 l0_1.length c0_1]] (by rfl) rfl rfl lz ?_
      with_reducible refine (laws_toAlphabet.calls kj10 a0_0 _ _ l0_1 t317 t318 _ ?side1 ?side2 A56.out).mono ?_
      (case side1 => have q_ := Aside0.mk (Kd.C_below HR0_1.out HB.out); exact cQ q_)
      (case side2 => exact HC0_1.out)
      rintro e w176 ⟨v319, rfl, ho0, hb⟩
      refine ⟨_, rfl, ?_⟩
      replace HO_305001 := Aside0.mk (Kd.V_elder' (by (with_reducible repeat (first | apply Kd.V_alloc | apply Kd.V_drewN | apply Kd.V_drew)); exact HO_305001.out) (Kd.R_base ho0) hb)
      have HO320 := Aside0.mk (Kd.R_lower (Kd.R_new' (Kd.R_new' ho0 (Kd.R_lt (kdQ HO_310001))) (Kd.R_lt (kdQ HO_316001))) (below_size (beQ HB))); replace HO_310001 := Aside0.mk (Kd.R_elder' (kdQ HO_310001) (Kd.R_base ho0) hb); replace HO_316001 := Aside0.mk (Kd.R_elder' (kdQ HO_316001) (Kd.R_base ho0) hb); replace BK293 := bb BK293 hb; replace BK304 := bb BK304 hb; replace BK309 := bb BK309 hb; replace BK315 := bb BK315 hb; replace HB := Aside0.mk (below_step (beQ HB) hb)
      (try clear hb)
      (try clear hb2)
      (try clear hk)
      (try clear hi)
      (try clear hgw_)
      (try clear ho0)
      obtain ⟨Ao177, co177, eo177⟩ := Kd.R_slice HO320.out
      (first | subst eo177 | (injection eo177 with f1_ f2_ f3_; have f4_ := f1_.symm; have f5_ := f3_.symm; clear f1_ f2_ f3_; subst f4_; subst f5_))
      refine hK.out _ _ ⟨bc BK309 0, bc BK309 1, bc BK293 0, bc BK293 1⟩ (fun hHeld => ?_)
      clear hK K
      refine norm_ (a' := ?_) ?_ ?_
      rotate_left
      ·show Act.put _ (some 43) _ = _
       simp only [Act.put, s1, s2, s3, i64_w, i32_w]
       rfl
      refine one_ (i := 3) (N := some 44) #[true, true, true, true, false] rfl rfl (by kernel_rfl) (by decide) (fun K hK => ?_)
      refine goes_ Tryd.func9 (by kernel_rfl) rfl #[.agg #[.int .i64 t305, .slice Ao29 t306.length co29], .agg #[.int .i64 t317, .slice Ao177 t318.length co177]] (by rfl) rfl rfl lz ?_
      with_reducible refine (laws_eqAlphabet.calls kj10 t305 _ _ t306 t317 _ _ t318 false _ ?side1 ?side2 ?side3 ?side4 A57.out).mono ?_
      (case side1 => have q_ := Aside0.mk (Kd.R_reads' HO_310001.out).2.2; exact cQ q_)
      (case side2 => exact (Kd.R_reads' HO_310001.out).2.1)
      (case side3 => have q_ := Aside0.mk (Kd.R_reads' HO320.out).2.2; exact cQ q_)
      (case side4 => exact (Kd.R_reads' HO320.out).2.1)
      rintro e w178 ⟨rfl, hb⟩
      refine ⟨_, rfl, ?_⟩
      replace HO_305001 := Aside0.mk (Kd.V_below (by (with_reducible repeat (first | apply Kd.V_alloc | apply Kd.V_drewN | apply Kd.V_drew)); exact HO_305001.out) hb)
      replace HO_310001 := kb HO_310001 hb; replace HO_316001 := kb HO_316001 hb; replace HO320 := kb HO320 hb; replace BK293 := bb BK293 hb; replace BK304 := bb BK304 hb; replace BK309 := bb BK309 hb; replace BK315 := bb BK315 hb; replace HB := Aside0.mk (below_step (beQ HB) hb)
      (try clear hb)
      (try clear hb2)
      (try clear hk)
      (try clear hi)
      (try clear hgw_)
      refine hK.out _ _ ⟨bc BK309 0, bc BK309 1, bc BK293 0, bc BK293 1⟩ (fun hHeld => ?_)
      clear hK K
      refine norm_ (a' := ?_) ?_ ?_
      rotate_left
      ·show Act.put _ (some 44) _ = _
       simp only [Act.put, s1, s2, s3, i64_w, i32_w]
       rfl
      refine pure_ (i := 4) (N := some 45) (v := ?_) (a' := ?_) #[true, true, true, true, true] rfl rfl (by kernel_rfl) (fun _ _ _ h => h) (Or.inl ⟨by rfl, ?_⟩) ?_ ?_
      rotate_left
      ·intro w'
       go_simp
       with_reducible rfl
      rotate_left
      ·simp only [Act.put, s1, s2, s3, i64_w, i32_w]
       rfl
      refine done_ (by kernel_rfl) ?_
      try go_wp2
      go_ret
      exact ⟨rz, beQ HB⟩

end Go.Proofs.YtjfdhkobaiplpaaDoor.G
