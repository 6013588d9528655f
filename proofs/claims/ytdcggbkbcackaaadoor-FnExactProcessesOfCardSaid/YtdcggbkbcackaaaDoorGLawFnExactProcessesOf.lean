/- How the program's functions compute, function by function: each is told by a plain Lean function of the same answers, under the condition that this one answers. Written by a program of this project over the seat's translation; Lean checks it. -/
import Derived.Test.YtdcggbkbcackaaaDoorG0
import Derived.Test.YtdcggbkbcackaaaDoorGQ00
import Derived.Test.YtdcggbkbcackaaaDoorGQ01b
import Derived.Test.YtdcggbkbcackaaaDoorGQ01f
namespace Go.Proofs.YtdcggbkbcackaaaDoor.G
open Go.RowKit Go.Proofs.YtdcggbkbcackaaaDoorW.PrintWords Go.Proofs.YtdcggbkbcackaaaDoorW.PrintLast Go.Proofs.YtdcggbkbcackaaaDoorW.PrintMore
attribute [local go_sem] max2_int min2_int max_two min_two max_three min_three max_four min_four   -- for this text's walks alone
set_option linter.unusedVariables false
set_option linter.unusedSimpArgs false

/-! ### laws_FnExactProcessesOf: function 3 -/
mutual
def laws_FnExactProcessesOf.j0 : Nat → List Int → Int → List Int → Int → Bool → Int → List Int → Int → List Int → Option (Bool)
 | 0, _, _, _, _, _, _, _, _, _ => none
 | k + 1, x4, x5, x7, x8, x40, x331000, x331001, x345000, x345001 => if x40 = true then (some false) else ((laws_toAlphabet.f k x331000 x331001).bind fun bt350 => ((laws_eqAlphabet.f k x345000 x345001 bt350.1 bt350.2).bind fun t354 => (if t354 = true then ((laws_markAlphabet.f k x345000 x345001 1).bind fun bt355 => (if bt355.1 < 0 then (laws_FnExactProcessesOf.j1 k x4 x5 x7 true x331000 x331001) else ((laws_eqInt64S.f k x7 x4).bind fun t357 => (if t357 = true then (laws_FnExactProcessesOf.j1 k x4 x5 x7 (x8 != x5) x331000 x331001) else (laws_FnExactProcessesOf.j1 k x4 x5 x7 true x331000 x331001))))) else (some false))))
def laws_FnExactProcessesOf.j1 : Nat → List Int → Int → List Int → Bool → Int → List Int → Option (Bool)
 | 0, _, _, _, _, _, _ => none
 | k + 1, x4, x5, x7, x61, x331000, x331001 => if x61 = true then (some false) else ((laws_markInt64S.f k x7 1).bind fun bt358 => ((laws_heldInt64S.f k bt358.2 1).bind fun t360 => (if t360 < 0 then (some false) else (if t360 = bt358.1 then ((laws_toAlphabet.f k x331000 x331001).bind fun bt361 => ((impl_ProcessesOf.f k bt361.1 bt361.2).bind fun bt365 => ((laws_eqInt64S.f k bt365.1 x4).bind fun t369 => (if t369 = true then (laws_FnExactProcessesOf.j2 k bt358.2 bt358.1 (bt365.2 != x5)) else (laws_FnExactProcessesOf.j2 k bt358.2 bt358.1 true))))) else (some false)))))
def laws_FnExactProcessesOf.j2 : Nat → List Int → Int → Bool → Option (Bool)
 | 0, _, _, _ => none
 | k + 1, x7, x10, x87 => if x87 = true then (some false) else ((laws_heldInt64S.f k x7 1).bind fun t370 => (if t370 < 0 then (some false) else (if t370 = x10 then (some true) else (some false))))
end
def laws_FnExactProcessesOf.f (k : Nat) (a0_0 : Int) (l0_1 : List Int) : Option (Bool) := (laws_szAlphabet.f a0_0 l0_1 1048576).bind fun t331 => (if t331 < 0 then (some true) else ((laws_toAlphabet.f k a0_0 l0_1).bind fun bt332 => ((spec_ProcessesOf.f k bt332.1 bt332.2).bind fun bt336 => ((laws_toAlphabet.f k a0_0 l0_1).bind fun bt340 => ((impl_ProcessesOf.f k bt340.1 bt340.2).bind fun bt345 => ((laws_eqInt64S.f k bt345.1 bt336.1).bind fun t349 => (if t349 = true then (laws_FnExactProcessesOf.j0 k bt336.1 bt336.2 bt345.1 bt345.2 (bt345.2 != bt336.2) a0_0 l0_1 bt340.1 bt340.2) else (laws_FnExactProcessesOf.j0 k bt336.1 bt336.2 bt345.1 bt345.2 true a0_0 l0_1 bt340.1 bt340.2))))))))
theorem laws_FnExactProcessesOf.mono_l : ∀ k, (∀ y0 y1 y2 y3 y4 y5 y6 y7 y8, LeO (laws_FnExactProcessesOf.j0 k y0 y1 y2 y3 y4 y5 y6 y7 y8) (laws_FnExactProcessesOf.j0 (k + 1) y0 y1 y2 y3 y4 y5 y6 y7 y8)) ∧ (∀ y0 y1 y2 y3 y4 y5, LeO (laws_FnExactProcessesOf.j1 k y0 y1 y2 y3 y4 y5) (laws_FnExactProcessesOf.j1 (k + 1) y0 y1 y2 y3 y4 y5)) ∧ (∀ y0 y1 y2, LeO (laws_FnExactProcessesOf.j2 k y0 y1 y2) (laws_FnExactProcessesOf.j2 (k + 1) y0 y1 y2))
 | 0 => ⟨fun _ _ _ _ _ _ _ _ _ r h => by simp [laws_FnExactProcessesOf.j0] at h, fun _ _ _ _ _ _ r h => by simp [laws_FnExactProcessesOf.j1] at h, fun _ _ _ r h => by simp [laws_FnExactProcessesOf.j2] at h⟩
 | k + 1 => by
  obtain ⟨ih0, ih1, ih2⟩ := laws_FnExactProcessesOf.mono_l k
  refine ⟨?_, ?_, ?_⟩
  ·intro y0 y1 y2 y3 y4 y5 y6 y7 y8
   unfold laws_FnExactProcessesOf.j0
   repeat' first
   | (with_reducible exact ih0 _ _ _ _ _ _ _ _ _)
   | (with_reducible exact ih1 _ _ _ _ _ _)
   | (with_reducible exact ih2 _ _ _)
   | (with_reducible exact impl_ProcessesOf.mono _ _ _)
   | (with_reducible exact laws_eqAlphabet.mono _ _ _ _ _)
   | (with_reducible exact laws_eqInt64S.mono _ _ _)
   | (with_reducible exact laws_heldInt64S.mono _ _ _)
   | (with_reducible exact laws_markAlphabet.mono _ _ _ _)
   | (with_reducible exact laws_markInt64S.mono _ _ _)
   | (with_reducible exact laws_toAlphabet.mono _ _ _)
   | (with_reducible exact spec_ProcessesOf.mono _ _ _)
   | (with_reducible exact LeO.refl _)
   | (with_reducible exact LeO.none _)
   | (with_reducible refine LeO.ite ?_ ?_)
   | (with_reducible refine LeO.bind ?_ (fun _ => ?_))
   | exact ih0 _ _ _ _ _ _ _ _ _
   | exact ih1 _ _ _ _ _ _
   | exact ih2 _ _ _
   | exact impl_ProcessesOf.mono _ _ _
   | exact laws_eqAlphabet.mono _ _ _ _ _
   | exact laws_eqInt64S.mono _ _ _
   | exact laws_heldInt64S.mono _ _ _
   | exact laws_markAlphabet.mono _ _ _ _
   | exact laws_markInt64S.mono _ _ _
   | exact laws_toAlphabet.mono _ _ _
   | exact spec_ProcessesOf.mono _ _ _
   | exact LeO.none _
   | refine LeO.ite ?_ ?_
   | refine LeO.bind ?_ (fun _ => ?_)
  ·intro y0 y1 y2 y3 y4 y5
   unfold laws_FnExactProcessesOf.j1
   repeat' first
   | (with_reducible exact ih0 _ _ _ _ _ _ _ _ _)
   | (with_reducible exact ih1 _ _ _ _ _ _)
   | (with_reducible exact ih2 _ _ _)
   | (with_reducible exact impl_ProcessesOf.mono _ _ _)
   | (with_reducible exact laws_eqAlphabet.mono _ _ _ _ _)
   | (with_reducible exact laws_eqInt64S.mono _ _ _)
   | (with_reducible exact laws_heldInt64S.mono _ _ _)
   | (with_reducible exact laws_markAlphabet.mono _ _ _ _)
   | (with_reducible exact laws_markInt64S.mono _ _ _)
   | (with_reducible exact laws_toAlphabet.mono _ _ _)
   | (with_reducible exact spec_ProcessesOf.mono _ _ _)
   | (with_reducible exact LeO.refl _)
   | (with_reducible exact LeO.none _)
   | (with_reducible refine LeO.ite ?_ ?_)
   | (with_reducible refine LeO.bind ?_ (fun _ => ?_))
   | exact ih0 _ _ _ _ _ _ _ _ _
   | exact ih1 _ _ _ _ _ _
   | exact ih2 _ _ _
   | exact impl_ProcessesOf.mono _ _ _
   | exact laws_eqAlphabet.mono _ _ _ _ _
   | exact laws_eqInt64S.mono _ _ _
   | exact laws_heldInt64S.mono _ _ _
   | exact laws_markAlphabet.mono _ _ _ _
   | exact laws_markInt64S.mono _ _ _
   | exact laws_toAlphabet.mono _ _ _
   | exact spec_ProcessesOf.mono _ _ _
   | exact LeO.none _
   | refine LeO.ite ?_ ?_
   | refine LeO.bind ?_ (fun _ => ?_)
  ·intro y0 y1 y2
   unfold laws_FnExactProcessesOf.j2
   repeat' first
   | (with_reducible exact ih0 _ _ _ _ _ _ _ _ _)
   | (with_reducible exact ih1 _ _ _ _ _ _)
   | (with_reducible exact ih2 _ _ _)
   | (with_reducible exact impl_ProcessesOf.mono _ _ _)
   | (with_reducible exact laws_eqAlphabet.mono _ _ _ _ _)
   | (with_reducible exact laws_eqInt64S.mono _ _ _)
   | (with_reducible exact laws_heldInt64S.mono _ _ _)
   | (with_reducible exact laws_markAlphabet.mono _ _ _ _)
   | (with_reducible exact laws_markInt64S.mono _ _ _)
   | (with_reducible exact laws_toAlphabet.mono _ _ _)
   | (with_reducible exact spec_ProcessesOf.mono _ _ _)
   | (with_reducible exact LeO.refl _)
   | (with_reducible exact LeO.none _)
   | (with_reducible refine LeO.ite ?_ ?_)
   | (with_reducible refine LeO.bind ?_ (fun _ => ?_))
   | exact ih0 _ _ _ _ _ _ _ _ _
   | exact ih1 _ _ _ _ _ _
   | exact ih2 _ _ _
   | exact impl_ProcessesOf.mono _ _ _
   | exact laws_eqAlphabet.mono _ _ _ _ _
   | exact laws_eqInt64S.mono _ _ _
   | exact laws_heldInt64S.mono _ _ _
   | exact laws_markAlphabet.mono _ _ _ _
   | exact laws_markInt64S.mono _ _ _
   | exact laws_toAlphabet.mono _ _ _
   | exact spec_ProcessesOf.mono _ _ _
   | exact LeO.none _
   | refine LeO.ite ?_ ?_
   | refine LeO.bind ?_ (fun _ => ?_)
theorem laws_FnExactProcessesOf.mono : ∀ a0 a1 k, LeO (laws_FnExactProcessesOf.f k a0 a1) (laws_FnExactProcessesOf.f (k + 1) a0 a1) := by
 intro a0 a1 k
 obtain ⟨ih0, ih1, ih2⟩ := laws_FnExactProcessesOf.mono_l k
 unfold laws_FnExactProcessesOf.f
 repeat' first
   | (with_reducible exact ih0 _ _ _ _ _ _ _ _ _)
   | (with_reducible exact ih1 _ _ _ _ _ _)
   | (with_reducible exact ih2 _ _ _)
   | (with_reducible exact impl_ProcessesOf.mono _ _ _)
   | (with_reducible exact laws_eqAlphabet.mono _ _ _ _ _)
   | (with_reducible exact laws_eqInt64S.mono _ _ _)
   | (with_reducible exact laws_heldInt64S.mono _ _ _)
   | (with_reducible exact laws_markAlphabet.mono _ _ _ _)
   | (with_reducible exact laws_markInt64S.mono _ _ _)
   | (with_reducible exact laws_toAlphabet.mono _ _ _)
   | (with_reducible exact spec_ProcessesOf.mono _ _ _)
   | (with_reducible exact LeO.refl _)
   | (with_reducible exact LeO.none _)
   | (with_reducible refine LeO.ite ?_ ?_)
   | (with_reducible refine LeO.bind ?_ (fun _ => ?_))
   | exact ih0 _ _ _ _ _ _ _ _ _
   | exact ih1 _ _ _ _ _ _
   | exact ih2 _ _ _
   | exact impl_ProcessesOf.mono _ _ _
   | exact laws_eqAlphabet.mono _ _ _ _ _
   | exact laws_eqInt64S.mono _ _ _
   | exact laws_heldInt64S.mono _ _ _
   | exact laws_markAlphabet.mono _ _ _ _
   | exact laws_markInt64S.mono _ _ _
   | exact laws_toAlphabet.mono _ _ _
   | exact spec_ProcessesOf.mono _ _ _
   | exact LeO.none _
   | refine LeO.ite ?_ ?_
   | refine LeO.bind ?_ (fun _ => ?_)
set_option maxHeartbeats 8000000 in
set_option maxRecDepth 100000 in
theorem laws_FnExactProcessesOf.calls (k : Nat) (a0_0 : Int) (A0_1 : Option Addr) (c0_1 : Nat) (l0_1 : List Int) (r : Bool) (w : World) (hr0_1 : Kd.C (Kd.int .i64) w A0_1 l0_1.length l0_1) (hc0_1 : l0_1.length ≤ c0_1) (hT : TabW w) (h : laws_FnExactProcessesOf.f k a0_0 l0_1 = some r) :
  Calls Tryd.prog 3 #[.agg #[.int .i64 a0_0, .slice A0_1 l0_1.length c0_1]] w fun e w' => e = .returned (.bool r) ∧ Below w.heap.size w w' := by
 have hu24 := Tryd.underlying24; have hu28 := Tryd.underlying28; have HT := Aside0.mk hT; clear hT; have HR0_1 := Aside0.mk hr0_1; have HC0_1 := Aside0.mk hc0_1; clear hr0_1 hc0_1; have HB := Aside0.mk (Below.refl w.heap.size w)
 have H : ((laws_szAlphabet.f a0_0 l0_1 1048576).bind fun t331 => (if t331 < 0 then (some true) else ((laws_toAlphabet.f k a0_0 l0_1).bind fun bt332 => ((spec_ProcessesOf.f k bt332.1 bt332.2).bind fun bt336 => ((laws_toAlphabet.f k a0_0 l0_1).bind fun bt340 => ((impl_ProcessesOf.f k bt340.1 bt340.2).bind fun bt345 => ((laws_eqInt64S.f k bt345.1 bt336.1).bind fun t349 => (if t349 = true then (laws_FnExactProcessesOf.j0 k bt336.1 bt336.2 bt345.1 bt345.2 (bt345.2 != bt336.2) a0_0 l0_1 bt340.1 bt340.2) else (laws_FnExactProcessesOf.j0 k bt336.1 bt336.2 bt345.1 bt345.2 true a0_0 l0_1 bt340.1 bt340.2))))))))) = some r := h
 clear h; replace H := Option.bind_eq_some_iff.mp H; obtain ⟨t331, A20, H⟩ := H
 replace H : (if t331 < 0 then (some true) else ((laws_toAlphabet.f k a0_0 l0_1).bind fun bt332 => ((spec_ProcessesOf.f k bt332.1 bt332.2).bind fun bt336 => ((laws_toAlphabet.f k a0_0 l0_1).bind fun bt340 => ((impl_ProcessesOf.f k bt340.1 bt340.2).bind fun bt345 => ((laws_eqInt64S.f k bt345.1 bt336.1).bind fun t349 => (if t349 = true then (laws_FnExactProcessesOf.j0 k bt336.1 bt336.2 bt345.1 bt345.2 (bt345.2 != bt336.2) a0_0 l0_1 bt340.1 bt340.2) else (laws_FnExactProcessesOf.j0 k bt336.1 bt336.2 bt345.1 bt345.2 true a0_0 l0_1 bt340.1 bt340.2)))))))) = some r := H
 have A2 := Aside0.mk A20; clear A20
 by_cases c3 : t331 < 0
 ·rw [if_pos c3] at H
  have c3b0 : decide (t331 < 0) = true := decide_eq_true c3
  clear c3
  obtain rfl := Option.some.inj H
  go_enter Tryd.func3, Tryd.ntmps3
  go_wp2_with (first | ((with_reducible refine gate_dst (N := 1) rfl ?_); refine box_event ?hg (N := 1) ?hd (cs := #[.int .i64 a0_0, .slice A0_1 l0_1.length c0_1]) (t := 24) ?hr ?_; (case hd => rfl); (case hg => rfl); (case hr => first | (go_simp; done) | (go_simp; rfl)); intro gb330 hg w4 hbox hb; have BK330 := Aside0.mk (hbox); have GW330 := Aside0.mk ((by rw [hg]; exact (below_size (beQ HB)) : w.heap.size ≤ gb330)); have GE330 := Aside0.mk ((by rw [hg]; exact (below_size (beQ HB)) : w.heap.size ≤ gb330)); replace HB := Aside0.mk (below_step (beQ HB) hb); clear hb hbox hg; have hcz5_0 : w4.cell? ⟨gb330, 0, none⟩ = some (.int .i64 a0_0) := bc BK330 0; have hcz5_1 : w4.cell? ⟨gb330, 1, none⟩ = some (.slice A0_1 l0_1.length c0_1) := bc BK330 1; have hfz5_0 := blk_frozen BK330.out 0; have hfz5_1 := blk_frozen BK330.out 1) | ((with_reducible refine gate_callee (f := 5) rfl ?_); refine goesL_ (some 16) rfl rfl Tryd.func5 (by kernel_rfl) rfl #[.agg #[.int .i64 a0_0, .slice A0_1 l0_1.length c0_1], .int .i64 1048576] rfl lz ?_; (with_reducible refine (laws_szAlphabet.calls a0_0 _ _ l0_1 1048576 t331 _ ?side1 ?side2 A2.out).mono ?_); (case side1 => have q_ := Aside0.mk (Kd.C_below HR0_1.out HB.out); exact cQ q_); (case side2 => exact HC0_1.out); rintro e w6 ⟨rfl, hb⟩; refine ⟨_, rfl, ?_⟩; replace BK330 := bb BK330 hb; replace HB := Aside0.mk (below_step (beQ HB) hb); (try clear hb); (try clear hb2); (try clear hk); (try clear hi); (try clear hgw_)))
  go_ret
  exact ⟨rz, beQ HB⟩
 ·rw [if_neg c3] at H
  have c3b0 : decide (t331 < 0) = false := decide_eq_false c3
  clear c3; replace H := Option.bind_eq_some_iff.mp H
  obtain ⟨⟨t332, t333⟩, A70, H⟩ := H
  replace H : ((spec_ProcessesOf.f k t332 t333).bind fun bt336 => ((laws_toAlphabet.f k a0_0 l0_1).bind fun bt340 => ((impl_ProcessesOf.f k bt340.1 bt340.2).bind fun bt345 => ((laws_eqInt64S.f k bt345.1 bt336.1).bind fun t349 => (if t349 = true then (laws_FnExactProcessesOf.j0 k bt336.1 bt336.2 bt345.1 bt345.2 (bt345.2 != bt336.2) a0_0 l0_1 bt340.1 bt340.2) else (laws_FnExactProcessesOf.j0 k bt336.1 bt336.2 bt345.1 bt345.2 true a0_0 l0_1 bt340.1 bt340.2)))))) = some r := H
  have A7 := Aside0.mk A70; clear A70; replace H := Option.bind_eq_some_iff.mp H
  obtain ⟨⟨t336, t339⟩, A80, H⟩ := H
  replace H : ((laws_toAlphabet.f k a0_0 l0_1).bind fun bt340 => ((impl_ProcessesOf.f k bt340.1 bt340.2).bind fun bt345 => ((laws_eqInt64S.f k bt345.1 t336).bind fun t349 => (if t349 = true then (laws_FnExactProcessesOf.j0 k t336 t339 bt345.1 bt345.2 (bt345.2 != t339) a0_0 l0_1 bt340.1 bt340.2) else (laws_FnExactProcessesOf.j0 k t336 t339 bt345.1 bt345.2 true a0_0 l0_1 bt340.1 bt340.2))))) = some r := H
  have A8 := Aside0.mk A80; clear A80; replace H := Option.bind_eq_some_iff.mp H
  obtain ⟨⟨t340, t341⟩, A90, H⟩ := H
  replace H : ((impl_ProcessesOf.f k t340 t341).bind fun bt345 => ((laws_eqInt64S.f k bt345.1 t336).bind fun t349 => (if t349 = true then (laws_FnExactProcessesOf.j0 k t336 t339 bt345.1 bt345.2 (bt345.2 != t339) a0_0 l0_1 t340 t341) else (laws_FnExactProcessesOf.j0 k t336 t339 bt345.1 bt345.2 true a0_0 l0_1 t340 t341)))) = some r := H
  have A9 := Aside0.mk A90; clear A90; replace H := Option.bind_eq_some_iff.mp H
  obtain ⟨⟨t345, t348⟩, A100, H⟩ := H
  replace H : ((laws_eqInt64S.f k t345 t336).bind fun t349 => (if t349 = true then (laws_FnExactProcessesOf.j0 k t336 t339 t345 t348 (t348 != t339) a0_0 l0_1 t340 t341) else (laws_FnExactProcessesOf.j0 k t336 t339 t345 t348 true a0_0 l0_1 t340 t341))) = some r := H
  have A10 := Aside0.mk A100; clear A100; have HC11 := Aside0.mk H; clear H
  go_enter Tryd.func3, Tryd.ntmps3
  go_upto_region 8 with (first | ((with_reducible refine gate_dst (N := 1) rfl ?_); refine box_event ?hg (N := 1) ?hd (cs := #[.int .i64 a0_0, .slice A0_1 l0_1.length c0_1]) (t := 24) ?hr ?_; (case hd => rfl); (case hg => rfl); (case hr => first | (go_simp; done) | (go_simp; rfl)); intro gb330 hg w12 hbox hb; have BK330 := Aside0.mk (hbox); have GW330 := Aside0.mk ((by rw [hg]; exact (below_size (beQ HB)) : w.heap.size ≤ gb330)); have GE330 := Aside0.mk ((by rw [hg]; exact (below_size (beQ HB)) : w.heap.size ≤ gb330)); replace HB := Aside0.mk (below_step (beQ HB) hb); clear hb hbox hg; have hcz13_0 : w12.cell? ⟨gb330, 0, none⟩ = some (.int .i64 a0_0) := bc BK330 0; have hcz13_1 : w12.cell? ⟨gb330, 1, none⟩ = some (.slice A0_1 l0_1.length c0_1) := bc BK330 1; have hfz13_0 := blk_frozen BK330.out 0; have hfz13_1 := blk_frozen BK330.out 1) | ((with_reducible refine gate_callee (f := 5) rfl ?_); refine goesL_ (some 16) rfl rfl Tryd.func5 (by kernel_rfl) rfl #[.agg #[.int .i64 a0_0, .slice A0_1 l0_1.length c0_1], .int .i64 1048576] rfl lz ?_; (with_reducible refine (laws_szAlphabet.calls a0_0 _ _ l0_1 1048576 t331 _ ?side1 ?side2 A2.out).mono ?_); (case side1 => have q_ := Aside0.mk (Kd.C_below HR0_1.out HB.out); exact cQ q_); (case side2 => exact HC0_1.out); rintro e w14 ⟨rfl, hb⟩; refine ⟨_, rfl, ?_⟩; replace BK330 := bb BK330 hb; replace HB := Aside0.mk (below_step (beQ HB) hb); (try clear hb); (try clear hb2); (try clear hk); (try clear hi); (try clear hgw_); have hcz15_0 : w14.cell? ⟨gb330, 0, none⟩ = some (.int .i64 a0_0) := bc BK330 0; have hcz15_1 : w14.cell? ⟨gb330, 1, none⟩ = some (.slice A0_1 l0_1.length c0_1) := bc BK330 1; have hfz15_0 := blk_frozen BK330.out 0; have hfz15_1 := blk_frozen BK330.out 1) | ((with_reducible refine gate_callee (f := 7) rfl ?_); refine goesL_ (some 21) rfl rfl Tryd.func7 (by kernel_rfl) rfl #[.agg #[.int .i64 a0_0, .slice A0_1 l0_1.length c0_1]] rfl lz ?_; (with_reducible refine (laws_toAlphabet.calls k a0_0 _ _ l0_1 t332 t333 _ ?side1 ?side2 A7.out).mono ?_); (case side1 => have q_ := Aside0.mk (Kd.C_below HR0_1.out HB.out); exact cQ q_); (case side2 => exact HC0_1.out); rintro e w16 ⟨v334, rfl, ho0, hb⟩; refine ⟨_, rfl, ?_⟩; have HO335 := Aside0.mk (Kd.R_lower ho0 (below_size (beQ HB))); replace BK330 := bb BK330 hb; replace HB := Aside0.mk (below_step (beQ HB) hb); (try clear hb); (try clear hb2); (try clear hk); (try clear hi); (try clear hgw_); (try clear ho0); obtain ⟨Ao17, co17, eo17⟩ := Kd.R_slice HO335.out; subst eo17) | ((with_reducible refine gate_callee (f := 6) rfl ?_); refine goesL_ (some 22) rfl rfl Tryd.func6 (by kernel_rfl) rfl #[.agg #[.int .i64 t332, .slice Ao17 t333.length co17]] rfl lz ?_; (with_reducible refine (spec_ProcessesOf.calls k t332 _ _ t333 t336 t339 _ ?side1 ?side2 A8.out).mono ?_); (case side1 => have q_ := Aside0.mk (Kd.R_reads' HO335.out).2.2; exact cQ q_); (case side2 => exact (Kd.R_reads' HO335.out).2.1); rintro e w18 ⟨v337, rfl, ho0, hb⟩; refine ⟨_, rfl, ?_⟩; have HO338 := Aside0.mk (Kd.R_lower (Kd.R_new' ho0 (Kd.R_lt (kdQ HO335))) (below_size (beQ HB))); replace HO335 := Aside0.mk (Kd.R_elder' (kdQ HO335) (Kd.R_base ho0) hb); replace BK330 := bb BK330 hb; replace HB := Aside0.mk (below_step (beQ HB) hb); (try clear hb); (try clear hb2); (try clear hk); (try clear hi); (try clear hgw_); (try clear ho0); have hcz19_0 : w18.cell? ⟨gb330, 0, none⟩ = some (.int .i64 a0_0) := bc BK330 0; have hcz19_1 : w18.cell? ⟨gb330, 1, none⟩ = some (.slice A0_1 l0_1.length c0_1) := bc BK330 1; have hfz19_0 := blk_frozen BK330.out 0; have hfz19_1 := blk_frozen BK330.out 1) | ((with_reducible refine gate_callee (f := 7) rfl ?_); refine goesL_ (some 26) rfl rfl Tryd.func7 (by kernel_rfl) rfl #[.agg #[.int .i64 a0_0, .slice A0_1 l0_1.length c0_1]] rfl lz ?_; (with_reducible refine (laws_toAlphabet.calls k a0_0 _ _ l0_1 t340 t341 _ ?side1 ?side2 A9.out).mono ?_); (case side1 => have q_ := Aside0.mk (Kd.C_below HR0_1.out HB.out); exact cQ q_); (case side2 => exact HC0_1.out); rintro e w20 ⟨v342, rfl, ho0, hb⟩; refine ⟨_, rfl, ?_⟩; have HO343 := Aside0.mk (Kd.R_lower (Kd.R_new' (Kd.R_new' ho0 (Kd.R_lt (kdQ HO335))) (Kd.R_lt (kdQ HO338))) (below_size (beQ HB))); replace HO335 := Aside0.mk (Kd.R_elder' (kdQ HO335) (Kd.R_base ho0) hb); replace HO338 := Aside0.mk (Kd.R_elder' (kdQ HO338) (Kd.R_base ho0) hb); replace BK330 := bb BK330 hb; replace HB := Aside0.mk (below_step (beQ HB) hb); (try clear hb); (try clear hb2); (try clear hk); (try clear hi); (try clear hgw_); (try clear ho0)) | ((with_reducible refine gate_dst (N := 6) rfl ?_); refine box_event ?hg (N := 6) ?hd (cs := #[.int .i64 0, .slice none 0 0]) (t := 28) ?hr ?_; (case hd => rfl); (case hg => rfl); (case hr => first | (go_simp; done) | (go_simp; rfl)); intro gb344 hg w21 hbox hb; replace HO335 := kb HO335 hb; replace HO338 := kb HO338 hb; replace HO343 := kb HO343 hb; have BK344 := Aside0.mk (hbox); have GW344 := Aside0.mk ((by rw [hg]; exact (below_size (beQ HB)) : w.heap.size ≤ gb344)); have GE344 := Aside0.mk ((by rw [hg]; exact (below_size (beQ HB)) : w.heap.size ≤ gb344)); replace HB := Aside0.mk (below_step (beQ HB) hb); have NB330_344 := Aside0.mk ((by rw [hg]; exact Nat.ne_of_lt (blk_lt (blkQ BK330)) : gb330 ≠ gb344)); have NB344_330 := Aside0.mk ((by rw [hg]; exact Nat.ne_of_gt (blk_lt (blkQ BK330)) : gb344 ≠ gb330)); replace BK330 := bb BK330 hb; clear hb hbox hg; have hnb22 := NB344_330.out; have hnc22 := NB330_344.out; have hcz23_0 : w21.cell? ⟨gb344, 0, none⟩ = some (.int .i64 0) := bc BK344 0; have hcz23_1 : w21.cell? ⟨gb344, 1, none⟩ = some (.slice none 0 0) := bc BK344 1; have hfz23_0 := blk_frozen BK344.out 0; have hfz23_1 := blk_frozen BK344.out 1; obtain ⟨Ao24, co24, eo24⟩ := Kd.R_slice HO343.out; subst eo24) | ((with_reducible refine gate_callee (f := 8) rfl ?_); refine goesL_ (some 29) rfl rfl Tryd.func8 (by kernel_rfl) rfl #[.agg #[.int .i64 t340, .slice Ao24 t341.length co24]] rfl lz ?_; (with_reducible refine (impl_ProcessesOf.calls k t340 _ _ t341 t345 t348 _ ?side1 ?side2 ?side3 A10.out).mono ?_); (case side1 => refine (Kd.R_reads' (e := 2) (base := w.heap.size) (ok := fun k_ => ((True ∧ some k_ ≠ (.slice Ao17 t333.length co17 : Value).ownBlock) ∧ some k_ ≠ (v337 : Value).ownBlock)) (n := t341.length) (c := co24) ?_).2.2; exact (by (with_reducible repeat (first | apply Kd.R_alloc | apply Kd.R_drewN | apply Kd.R_drew)); exact (Kd.R_mono (Kd.R_far (p := ⟨gb344, 1, none⟩) (Kd.R_far (p := ⟨gb344, 0, none⟩) (Kd.R_types HO343.out BK344.out (by decide)) (fun _ hk => hk.2) (.int .i64 t340)) (fun _ hk => hk.2) (.slice Ao24 t341.length co24)) (fun _ h_ => h_.1)))); (case side2 => exact (Kd.R_reads' HO343.out).2.1); (case side3 => exact TabW.below HT.out (beQ HB)); rintro e w25 ⟨v346, rfl, ho0, hb⟩; refine ⟨_, rfl, ?_⟩; have HO347 := Aside0.mk (Kd.R_lower (Kd.R_new' (Kd.R_new' (Kd.R_new' ho0 (Kd.R_lt (by (with_reducible repeat (first | apply Kd.R_alloc | apply Kd.R_drewN | apply Kd.R_drew)); exact (Kd.R_mono (Kd.R_far (p := ⟨gb344, 1, none⟩) (Kd.R_far (p := ⟨gb344, 0, none⟩) (Kd.R_types HO335.out BK344.out (by decide)) (fun _ hk => hk.2) (.int .i64 t340)) (fun _ hk => hk.2) (.slice Ao24 t341.length co24)) (fun _ h_ => h_.1))))) (Kd.R_lt (by (with_reducible repeat (first | apply Kd.R_alloc | apply Kd.R_drewN | apply Kd.R_drew)); exact (Kd.R_mono (Kd.R_far (p := ⟨gb344, 1, none⟩) (Kd.R_far (p := ⟨gb344, 0, none⟩) (Kd.R_types HO338.out BK344.out (by decide)) (fun _ hk => hk.2) (.int .i64 t340)) (fun _ hk => hk.2) (.slice Ao24 t341.length co24)) (fun _ h_ => h_.1))))) (Kd.R_lt (by (with_reducible repeat (first | apply Kd.R_alloc | apply Kd.R_drewN | apply Kd.R_drew)); exact (Kd.R_mono (Kd.R_far (p := ⟨gb344, 1, none⟩) (Kd.R_far (p := ⟨gb344, 0, none⟩) (Kd.R_types HO343.out BK344.out (by decide)) (fun _ hk => hk.2) (.int .i64 t340)) (fun _ hk => hk.2) (.slice Ao24 t341.length co24)) (fun _ h_ => h_.1))))) (below_size (beQ HB))); replace HO335 := Aside0.mk (Kd.R_elder' (by (with_reducible repeat (first | apply Kd.R_alloc | apply Kd.R_drewN | apply Kd.R_drew)); exact (Kd.R_mono (Kd.R_far (p := ⟨gb344, 1, none⟩) (Kd.R_far (p := ⟨gb344, 0, none⟩) (Kd.R_types HO335.out BK344.out (by decide)) (fun _ hk => hk.2) (.int .i64 t340)) (fun _ hk => hk.2) (.slice Ao24 t341.length co24)) (fun _ h_ => h_.1))) (Kd.R_base ho0) hb); replace HO338 := Aside0.mk (Kd.R_elder' (by (with_reducible repeat (first | apply Kd.R_alloc | apply Kd.R_drewN | apply Kd.R_drew)); exact (Kd.R_mono (Kd.R_far (p := ⟨gb344, 1, none⟩) (Kd.R_far (p := ⟨gb344, 0, none⟩) (Kd.R_types HO338.out BK344.out (by decide)) (fun _ hk => hk.2) (.int .i64 t340)) (fun _ hk => hk.2) (.slice Ao24 t341.length co24)) (fun _ h_ => h_.1))) (Kd.R_base ho0) hb); replace HO343 := Aside0.mk (Kd.R_elder' (by (with_reducible repeat (first | apply Kd.R_alloc | apply Kd.R_drewN | apply Kd.R_drew)); exact (Kd.R_mono (Kd.R_far (p := ⟨gb344, 1, none⟩) (Kd.R_far (p := ⟨gb344, 0, none⟩) (Kd.R_types HO343.out BK344.out (by decide)) (fun _ hk => hk.2) (.int .i64 t340)) (fun _ hk => hk.2) (.slice Ao24 t341.length co24)) (fun _ h_ => h_.1))) (Kd.R_base ho0) hb); replace BK330 := Aside0.mk (blk_below (blkF BK330) hb); replace BK344 := Aside0.mk (blk_below (g := gb344) (o := .cells #[.int .i64 t340, .slice Ao24 t341.length co24] 28 (0, 0)) (by (with_reducible repeat (first | refine blk_drewN ?_ _ | refine blk_drew ?_ | refine blk_alloc ?_ _)); refine blk_put (cs := #[.int .i64 t340, .slice none 0 0]) ?_ 1 _ rfl; (with_reducible repeat (first | refine blk_drewN ?_ _ | refine blk_drew ?_ | refine blk_alloc ?_ _)); refine blk_put (cs := #[.int .i64 0, .slice none 0 0]) ?_ 0 _ rfl; (with_reducible repeat (first | refine blk_drewN ?_ _ | refine blk_drew ?_ | refine blk_alloc ?_ _)); exact BK344.out) hb); replace HB := Aside0.mk (below_step (beQ HB) hb); (try clear hb); (try clear hb2); (try clear hk); (try clear hi); (try clear hgw_); (try clear ho0)))
  (try simp only [Act.put, List.setIfInBounds_toArray, List.set_cons_zero, List.set_cons_succ])
  go_cut [40] (fun v40 wc => ∃ (kq : Nat) (x40_10 : Bool), v40 = .bool x40_10 ∧ Aside0 (laws_FnExactProcessesOf.j0 kq t336 t339 t345 t348 x40_10 a0_0 l0_1 t340 t341 = some r) ∧ Aside0 (kq ≤ k) ∧ Aside0 (Kd.R (Kd.int .i64) 2 wc w.heap.size (fun k_ => some k_ ≠ (v346 : Value).ownBlock ∧ some k_ ≠ ((.slice Ao24 t341.length co24) : Value).ownBlock) v337 t336) ∧ Aside0 (Kd.R (Kd.int .i64) 2 wc w.heap.size (fun k_ => some k_ ≠ (v337 : Value).ownBlock ∧ some k_ ≠ ((.slice Ao24 t341.length co24) : Value).ownBlock) v346 t345) ∧ Aside0 (Kd.R (Kd.int .i64) 2 wc w.heap.size (fun k_ => some k_ ≠ (v337 : Value).ownBlock ∧ some k_ ≠ (v346 : Value).ownBlock) (.slice Ao24 t341.length co24) t341) ∧ Aside0 (wc.heap[gb330]? = some (.cells #[.int .i64 a0_0, (.slice A0_1 l0_1.length c0_1)] 24 (0, 0))) ∧ Aside0 (wc.heap[gb344]? = some (.cells #[.int .i64 t340, (.slice Ao24 t341.length co24)] 28 (0, 0))) ∧ Aside0 (Below w.heap.size w wc))
  case first =>
   have H := HC11.out; clear HC11; replace H := Option.bind_eq_some_iff.mp H; obtain ⟨t349, A260, H⟩ := H
   replace H : (if t349 = true then (laws_FnExactProcessesOf.j0 k t336 t339 t345 t348 (t348 != t339) a0_0 l0_1 t340 t341) else (laws_FnExactProcessesOf.j0 k t336 t339 t345 t348 true a0_0 l0_1 t340 t341)) = some r := H
   have A26 := Aside0.mk A260; clear A260
   by_cases c27 : t349 = true
   ·subst c27
    have H1 : (laws_FnExactProcessesOf.j0 k t336 t339 t345 t348 (t348 != t339) a0_0 l0_1 t340 t341) = some r := by rw [if_pos rfl] at H; exact H
    clear H; have H := H1; clear H1
    have H' := Aside0.mk H
    clear H; obtain ⟨Ao28, co28, eo28⟩ := Kd.R_slice HO347.out; subst eo28; obtain ⟨Ao29, co29, eo29⟩ := Kd.R_slice HO338.out; subst eo29
    go_wp2_with (first | ((with_reducible refine gate_callee (f := 9) rfl ?_); refine goesL_ (some 34) rfl rfl Tryd.func9 (by kernel_rfl) rfl #[.slice Ao28 t345.length co28, .slice Ao29 t336.length co29] rfl lz ?_; (with_reducible refine (laws_eqInt64S.calls k _ _ t345 _ _ t336 true _ ?side1 ?side2 ?side3 ?side4 A26.out).mono ?_); (case side1 => have q_ := Aside0.mk (Kd.R_reads' HO347.out).2.2; exact cQ q_); (case side2 => exact (Kd.R_reads' HO347.out).2.1); (case side3 => have q_ := Aside0.mk (Kd.R_reads' HO338.out).2.2; exact cQ q_); (case side4 => exact (Kd.R_reads' HO338.out).2.1); rintro e w' ⟨rfl, ⟨nd, rfl⟩⟩; refine ⟨_, rfl, ?_⟩))
    go_meet
    case rel => exact ⟨_, ((t348 != t339)), sz, H', ⟨by first | omega | exact Nat.le_refl _⟩, ⟨by (with_reducible repeat (first | apply Kd.R_alloc | apply Kd.R_drewN | apply Kd.R_drew)); exact Kd.R_mono HO338.out (fun _ hk => ⟨hk.2, hk.1.2⟩)⟩, ⟨by (with_reducible repeat (first | apply Kd.R_alloc | apply Kd.R_drewN | apply Kd.R_drew)); exact Kd.R_mono HO347.out (fun _ hk => ⟨hk.1.2, hk.2⟩)⟩, ⟨by (with_reducible repeat (first | apply Kd.R_alloc | apply Kd.R_drewN | apply Kd.R_drew)); exact Kd.R_mono HO343.out (fun _ hk => ⟨hk.1.2, hk.2⟩)⟩, ⟨blkQ BK330⟩, ⟨blkQ BK344⟩, ⟨beQ HB⟩⟩
   ·replace c27 := Bool.eq_false_iff.mpr c27
    subst c27
    have H1 : (laws_FnExactProcessesOf.j0 k t336 t339 t345 t348 true a0_0 l0_1 t340 t341) = some r := by rw [if_neg (show ¬ (false = true) by decide)] at H; exact H
    clear H; have H := H1; clear H1
    have H' := Aside0.mk H
    clear H; obtain ⟨Ao30, co30, eo30⟩ := Kd.R_slice HO347.out; subst eo30; obtain ⟨Ao31, co31, eo31⟩ := Kd.R_slice HO338.out; subst eo31
    go_wp2_with (first | ((with_reducible refine gate_callee (f := 9) rfl ?_); refine goesL_ (some 34) rfl rfl Tryd.func9 (by kernel_rfl) rfl #[.slice Ao30 t345.length co30, .slice Ao31 t336.length co31] rfl lz ?_; (with_reducible refine (laws_eqInt64S.calls k _ _ t345 _ _ t336 false _ ?side1 ?side2 ?side3 ?side4 A26.out).mono ?_); (case side1 => have q_ := Aside0.mk (Kd.R_reads' HO347.out).2.2; exact cQ q_); (case side2 => exact (Kd.R_reads' HO347.out).2.1); (case side3 => have q_ := Aside0.mk (Kd.R_reads' HO338.out).2.2; exact cQ q_); (case side4 => exact (Kd.R_reads' HO338.out).2.1); rintro e w' ⟨rfl, ⟨nd, rfl⟩⟩; refine ⟨_, rfl, ?_⟩))
    go_meet
    case rel => exact ⟨_, (true), sz, H', ⟨by first | omega | exact Nat.le_refl _⟩, ⟨by (with_reducible repeat (first | apply Kd.R_alloc | apply Kd.R_drewN | apply Kd.R_drew)); exact Kd.R_mono HO338.out (fun _ hk => ⟨hk.2, hk.1.2⟩)⟩, ⟨by (with_reducible repeat (first | apply Kd.R_alloc | apply Kd.R_drewN | apply Kd.R_drew)); exact Kd.R_mono HO347.out (fun _ hk => ⟨hk.1.2, hk.2⟩)⟩, ⟨by (with_reducible repeat (first | apply Kd.R_alloc | apply Kd.R_drewN | apply Kd.R_drew)); exact Kd.R_mono HO343.out (fun _ hk => ⟨hk.1.2, hk.2⟩)⟩, ⟨blkQ BK330⟩, ⟨blkQ BK344⟩, ⟨beQ HB⟩⟩
  case rest =>
   clear HC11
   try clear c2
   try clear p2
   try clear c3
   try clear c3b0
   try clear c5
   try clear c6
   try clear c7
   try clear c8
   try clear c9
   try clear c22
   try clear c27
   try clear hcz13_0
   try clear hcz13_1
   try clear hcz15_0
   try clear hcz15_1
   try clear hcz19_0
   try clear hcz19_1
   try clear hcz23_0
   try clear hcz23_1
   try clear hcz5_0
   try clear hcz5_1
   try clear hfz13_0
   try clear hfz13_1
   try clear hfz15_0
   try clear hfz15_1
   try clear hfz19_0
   try clear hfz19_1
   try clear hfz23_0
   try clear hfz23_1
   try clear hfz5_0
   try clear hfz5_1
   obtain ⟨kq, x40_10, rfl, HA, HJ10, HO_4, HO_7, HO_345001, BK330, BK344, HB⟩ := hcut
   cases kq with
   | zero => exact absurd HA.out (by simp [laws_FnExactProcessesOf.j0])
   | succ kj10 =>
    have H := HA.out; clear HA
    simp only [laws_FnExactProcessesOf.j0] at H
    by_cases c32 : x40_10 = true
    ·subst c32
     have H1 : (some false) = some r := by rw [if_pos rfl] at H; exact H
     clear H; have H := H1; clear H1
     obtain rfl := Option.some.inj H
     go_wp2
     go_ret
     exact ⟨rz, beQ HB⟩
    ·replace c32 := Bool.eq_false_iff.mpr c32
     subst c32
     have H1 : ((laws_toAlphabet.f kj10 a0_0 l0_1).bind fun bt350 => ((laws_eqAlphabet.f kj10 t340 t341 bt350.1 bt350.2).bind fun t354 => (if t354 = true then ((laws_markAlphabet.f kj10 t340 t341 1).bind fun bt355 => (if bt355.1 < 0 then (laws_FnExactProcessesOf.j1 kj10 t336 t339 t345 true a0_0 l0_1) else ((laws_eqInt64S.f kj10 t345 t336).bind fun t357 => (if t357 = true then (laws_FnExactProcessesOf.j1 kj10 t336 t339 t345 (t348 != t339) a0_0 l0_1) else (laws_FnExactProcessesOf.j1 kj10 t336 t339 t345 true a0_0 l0_1))))) else (some false)))) = some r := by rw [if_neg (show ¬ (false = true) by decide)] at H; exact H
     clear H; have H := H1; clear H1; replace H := Option.bind_eq_some_iff.mp H
     obtain ⟨⟨t350, t351⟩, A330, H⟩ := H
     replace H : ((laws_eqAlphabet.f kj10 t340 t341 t350 t351).bind fun t354 => (if t354 = true then ((laws_markAlphabet.f kj10 t340 t341 1).bind fun bt355 => (if bt355.1 < 0 then (laws_FnExactProcessesOf.j1 kj10 t336 t339 t345 true a0_0 l0_1) else ((laws_eqInt64S.f kj10 t345 t336).bind fun t357 => (if t357 = true then (laws_FnExactProcessesOf.j1 kj10 t336 t339 t345 (t348 != t339) a0_0 l0_1) else (laws_FnExactProcessesOf.j1 kj10 t336 t339 t345 true a0_0 l0_1))))) else (some false))) = some r := H
     have A33 := Aside0.mk A330; clear A330; replace H := Option.bind_eq_some_iff.mp H; obtain ⟨t354, A340, H⟩ := H
     replace H : (if t354 = true then ((laws_markAlphabet.f kj10 t340 t341 1).bind fun bt355 => (if bt355.1 < 0 then (laws_FnExactProcessesOf.j1 kj10 t336 t339 t345 true a0_0 l0_1) else ((laws_eqInt64S.f kj10 t345 t336).bind fun t357 => (if t357 = true then (laws_FnExactProcessesOf.j1 kj10 t336 t339 t345 (t348 != t339) a0_0 l0_1) else (laws_FnExactProcessesOf.j1 kj10 t336 t339 t345 true a0_0 l0_1))))) else (some false)) = some r := H
     have A34 := Aside0.mk A340; clear A340
     by_cases c35 : t354 = true
     ·subst c35
      have H1 : ((laws_markAlphabet.f kj10 t340 t341 1).bind fun bt355 => (if bt355.1 < 0 then (laws_FnExactProcessesOf.j1 kj10 t336 t339 t345 true a0_0 l0_1) else ((laws_eqInt64S.f kj10 t345 t336).bind fun t357 => (if t357 = true then (laws_FnExactProcessesOf.j1 kj10 t336 t339 t345 (t348 != t339) a0_0 l0_1) else (laws_FnExactProcessesOf.j1 kj10 t336 t339 t345 true a0_0 l0_1))))) = some r := by rw [if_pos rfl] at H; exact H
      clear H; have H := H1; clear H1; replace H := Option.bind_eq_some_iff.mp H
      obtain ⟨⟨t355, t356⟩, A360, H⟩ := H
      replace H : (if t355 < 0 then (laws_FnExactProcessesOf.j1 kj10 t336 t339 t345 true a0_0 l0_1) else ((laws_eqInt64S.f kj10 t345 t336).bind fun t357 => (if t357 = true then (laws_FnExactProcessesOf.j1 kj10 t336 t339 t345 (t348 != t339) a0_0 l0_1) else (laws_FnExactProcessesOf.j1 kj10 t336 t339 t345 true a0_0 l0_1)))) = some r := H
      have A36 := Aside0.mk A360; clear A360; have HC37 := Aside0.mk H; clear H
      try go_wp2
      replace HO_4 := Aside0.mk (Kd.R_drew HO_4.out); replace HO_7 := Aside0.mk (Kd.R_drew HO_7.out); replace HO_345001 := Aside0.mk (Kd.R_drew HO_345001.out); replace BK330 := Aside0.mk (blk_drew BK330.out); replace BK344 := Aside0.mk (blk_drew BK344.out); replace HB := Aside0.mk (below_drew1 HB.out)
      refine start_ (n := 5) (S := fun w' => w'.cell? ⟨gb344, 0, none⟩ = some (.int .i64 t340) ∧ w'.cell? ⟨gb344, 1, none⟩ = some (.slice Ao24 t341.length co24) ∧ w'.cell? ⟨gb330, 0, none⟩ = some (.int .i64 a0_0) ∧ w'.cell? ⟨gb330, 1, none⟩ = some (.slice A0_1 l0_1.length c0_1)) (ds := []) #[false, false, false, false, false] (by kernel_rfl) rfl rfl ⟨bc BK344 0, bc BK344 1, bc BK330 0, bc BK330 1⟩ (fun hHeld => ?_)
      generalize wc.drew = w38 at HO_4 HO_7 HO_345001 BK330 BK344 HB hHeld ⊢
      refine take_ (i := 0) (N := some 41) (v := ?_) (a' := ?_) #[true, false, false, false, false] rfl rfl (by kernel_rfl) (fun _ _ _ h => h) (Or.inl ⟨by rfl, ?_⟩) hHeld ?_ ?_
      rotate_left
      ·rintro w' ⟨s0, s1, s2, s3⟩
       go_simp
       with_reducible rfl
      rotate_left
      ·simp only [Act.put, s1, s2, s3, i64_w, i32_w]
       rfl
      refine take_ (i := 1) (N := some 42) (v := ?_) (a' := ?_) #[true, true, false, false, false] rfl rfl (by kernel_rfl) (fun _ _ _ h => h) (Or.inl ⟨by rfl, ?_⟩) hHeld ?_ ?_
      rotate_left
      ·rintro w' ⟨s0, s1, s2, s3⟩
       go_simp
       with_reducible rfl
      rotate_left
      ·simp only [Act.put, s1, s2, s3, i64_w, i32_w]
       rfl
      refine one_ (i := 2) (N := some 43) #[true, true, true, false, false] rfl rfl (by kernel_rfl) (by decide) (fun K hK => ?_)
      refine goes_ Tryd.func7 (by kernel_rfl) rfl #[.agg #[.int .i64 a0_0, .slice A0_1 l0_1.length c0_1]] (by rfl) rfl rfl lz ?_
      with_reducible refine (laws_toAlphabet.calls kj10 a0_0 _ _ l0_1 t350 t351 _ ?side1 ?side2 A33.out).mono ?_
      (case side1 => have q_ := Aside0.mk (Kd.C_below HR0_1.out HB.out); exact cQ q_)
      (case side2 => exact HC0_1.out)
      rintro e w39 ⟨v352, rfl, ho0, hb⟩
      refine ⟨_, rfl, ?_⟩
      have HO353 := Aside0.mk (Kd.R_lower (Kd.R_new' (Kd.R_new' (Kd.R_new' ho0 (Kd.R_lt (kdQ HO_4))) (Kd.R_lt (kdQ HO_7))) (Kd.R_lt (kdQ HO_345001))) (below_size (beQ HB))); replace HO_4 := Aside0.mk (Kd.R_elder' (kdQ HO_4) (Kd.R_base ho0) hb); replace HO_7 := Aside0.mk (Kd.R_elder' (kdQ HO_7) (Kd.R_base ho0) hb); replace HO_345001 := Aside0.mk (Kd.R_elder' (kdQ HO_345001) (Kd.R_base ho0) hb); replace BK330 := bb BK330 hb; replace BK344 := bb BK344 hb; replace HB := Aside0.mk (below_step (beQ HB) hb)
      (try clear hb)
      (try clear hb2)
      (try clear hk)
      (try clear hi)
      (try clear hgw_)
      (try clear ho0)
      obtain ⟨Ao40, co40, eo40⟩ := Kd.R_slice HO353.out
      (first | subst eo40 | (injection eo40 with f1_ f2_ f3_; have f4_ := f1_.symm; have f5_ := f3_.symm; clear f1_ f2_ f3_; subst f4_; subst f5_))
      refine hK.out _ _ ⟨bc BK344 0, bc BK344 1, bc BK330 0, bc BK330 1⟩ (fun hHeld => ?_)
      clear hK K
      refine norm_ (a' := ?_) ?_ ?_
      rotate_left
      ·show Act.put _ (some 43) _ = _
       simp only [Act.put, s1, s2, s3, i64_w, i32_w]
       rfl
      refine one_ (i := 3) (N := some 44) #[true, true, true, true, false] rfl rfl (by kernel_rfl) (by decide) (fun K hK => ?_)
      refine goes_ Tryd.func10 (by kernel_rfl) rfl #[.agg #[.int .i64 t340, .slice Ao24 t341.length co24], .agg #[.int .i64 t350, .slice Ao40 t351.length co40]] (by rfl) rfl rfl lz ?_
      with_reducible refine (laws_eqAlphabet.calls kj10 t340 _ _ t341 t350 _ _ t351 true _ ?side1 ?side2 ?side3 ?side4 A34.out).mono ?_
      (case side1 => have q_ := Aside0.mk (Kd.R_reads' HO_345001.out).2.2; exact cQ q_)
      (case side2 => exact (Kd.R_reads' HO_345001.out).2.1)
      (case side3 => have q_ := Aside0.mk (Kd.R_reads' HO353.out).2.2; exact cQ q_)
      (case side4 => exact (Kd.R_reads' HO353.out).2.1)
      rintro e w41 ⟨rfl, hb⟩
      refine ⟨_, rfl, ?_⟩
      replace HO_4 := kb HO_4 hb; replace HO_7 := kb HO_7 hb; replace HO_345001 := kb HO_345001 hb; replace HO353 := kb HO353 hb; replace BK330 := bb BK330 hb; replace BK344 := bb BK344 hb; replace HB := Aside0.mk (below_step (beQ HB) hb)
      (try clear hb)
      (try clear hb2)
      (try clear hk)
      (try clear hi)
      (try clear hgw_)
      refine hK.out _ _ ⟨bc BK344 0, bc BK344 1, bc BK330 0, bc BK330 1⟩ (fun hHeld => ?_)
      clear hK K
      refine norm_ (a' := ?_) ?_ ?_
      rotate_left
      ·show Act.put _ (some 44) _ = _
       simp only [Act.put, s1, s2, s3, i64_w, i32_w]
       rfl
      refine pure_ (i := 4) (N := some 45) (v := ?_) (a' := ?_) #[true, true, true, true, true] rfl rfl (by kernel_rfl) (fun _ _ _ h => h) (Or.inl ⟨by rfl, ?_⟩) ?_ ?_
      rotate_left
      ·intro w'
       go_simp
       with_reducible rfl
      rotate_left
      ·simp only [Act.put, s1, s2, s3, i64_w, i32_w]
       rfl
      refine done_ (by kernel_rfl) ?_
      have hnb42 := NB344_330.out; have hnc42 := NB330_344.out
      have hcz43_0 : w41.cell? ⟨gb344, 0, none⟩ = some (.int .i64 t340) := bc BK344 0
      have hcz43_1 : w41.cell? ⟨gb344, 1, none⟩ = some (.slice Ao24 t341.length co24) := bc BK344 1
      have hfz43_0 := blk_frozen BK344.out 0; have hfz43_1 := blk_frozen BK344.out 1
      go_upto_region 14 with (first | ((with_reducible refine gate_callee (f := 11) rfl ?_); refine goesL_ (some 48) rfl rfl Tryd.func11 (by kernel_rfl) rfl #[.agg #[.int .i64 t340, .slice Ao24 t341.length co24], .int .i64 1] rfl lz ?_; (with_reducible refine (laws_markAlphabet.calls kj10 t340 (fun k_ => some k_ = (.slice Ao24 t341.length co24 : Value).ownBlock) (.slice Ao24 t341.length co24) t341 1 t355 t356 w _ ?side1 ?side2 A36.out).mono ?_); (case side1 => repeat (first | (with_reducible first | exact HB.out | apply below_alloc | apply pw_below_drewN | apply below_drew1 | refine below_set ?_ GE330.out | refine below_set ?_ GE344.out) | exact HB.out)); (case side2 => exact Kd.R_tight rfl HO_345001.out); rintro e w44 ⟨rfl, hy0, hb, hkp⟩; refine ⟨_, rfl, ?_⟩; replace HO_4 := Aside0.mk (Kd.R_mono (ok' := fun k_ => some k_ ≠ (v346 : Value).ownBlock ∧ some k_ ≠ (.slice Ao24 t341.length co24 : Value).ownBlock ∧ some k_ ≠ (.slice Ao40 t351.length co40 : Value).ownBlock) (Kd.R_keptB (HO_4.out) hkp (fun k_ hk_ hs_ => (hk_.1.2) hs_)) (fun k_ hk_ => ⟨hk_.1.1.1, hk_.1.1.2, hk_.1.2⟩)); replace HO_7 := Aside0.mk (Kd.R_mono (ok' := fun k_ => some k_ ≠ (v337 : Value).ownBlock ∧ some k_ ≠ (.slice Ao24 t341.length co24 : Value).ownBlock ∧ some k_ ≠ (.slice Ao40 t351.length co40 : Value).ownBlock) (Kd.R_keptB (HO_7.out) hkp (fun k_ hk_ hs_ => (hk_.1.2) hs_)) (fun k_ hk_ => ⟨hk_.1.1.1, hk_.1.1.2, hk_.1.2⟩)); replace BK330 := Aside0.mk (blk_kept (blkQ BK330) hkp (fun hs_ => (fun e_ => (Kd.R_ne HO_345001.out BK330.out (by decide)) e_) hs_)); replace BK344 := Aside0.mk (blk_kept (blkQ BK344) hkp (fun hs_ => (fun e_ => (Kd.R_ne HO_345001.out BK344.out (by decide)) e_) hs_)); replace HO_345001 := Aside0.mk (Kd.R_reok rfl hy0 (fun k_ e_ => HO_345001.out.1 k_ e_)); replace HO353 := Aside0.mk (Kd.R_mono (ok' := fun k_ => some k_ ≠ (v337 : Value).ownBlock ∧ some k_ ≠ (v346 : Value).ownBlock ∧ some k_ ≠ (.slice Ao24 t341.length co24 : Value).ownBlock) (Kd.R_keptB (HO353.out) hkp (fun k_ hk_ hs_ => (hk_.2) hs_)) (fun k_ hk_ => ⟨hk_.1.1.1.2, hk_.1.1.2, hk_.1.2⟩)); replace HB := Aside0.mk (hb); (try clear hb); (try clear hkp); (try clear hy0)))
      (try simp only [Act.put, List.setIfInBounds_toArray, List.set_cons_zero, List.set_cons_succ])
      go_cut [61] (fun v61 wc => ∃ (kq : Nat) (x61_36 : Bool), v61 = .bool x61_36 ∧ Aside0 (laws_FnExactProcessesOf.j1 kq t336 t339 t345 x61_36 a0_0 l0_1 = some r) ∧ Aside0 (kq ≤ kj10) ∧ Aside0 (Kd.R (Kd.int .i64) 2 wc w.heap.size (fun k_ => some k_ ≠ (v346 : Value).ownBlock ∧ some k_ ≠ ((.slice Ao24 t341.length co24) : Value).ownBlock) v337 t336) ∧ Aside0 (Kd.R (Kd.int .i64) 2 wc w.heap.size (fun k_ => some k_ ≠ (v337 : Value).ownBlock ∧ some k_ ≠ ((.slice Ao24 t341.length co24) : Value).ownBlock) v346 t345) ∧ Aside0 (Kd.R (Kd.int .i64) 2 wc w.heap.size (fun k_ => some k_ ≠ (v337 : Value).ownBlock ∧ some k_ ≠ (v346 : Value).ownBlock) (.slice Ao24 t341.length co24) t356) ∧ Aside0 (wc.heap[gb330]? = some (.cells #[.int .i64 a0_0, (.slice A0_1 l0_1.length c0_1)] 24 (0, 0))) ∧ Aside0 (wc.heap[gb344]? = some (.cells #[.int .i64 t340, (.slice Ao24 t341.length co24)] 28 (0, 0))) ∧ Aside0 (Below w.heap.size w wc))
      case first =>
       have H := HC37.out; clear HC37
       by_cases c45 : t355 < 0
       ·rw [if_pos c45] at H
        have c45b0 : decide (t355 < 0) = true := decide_eq_true c45
        clear c45
        (first | rw [c45b0] | (simp only [i64_w, i32_w]; rw [c45b0]) | skip)
        have H' := Aside0.mk H
        clear H
        go_wp2
        go_meet
        case rel => exact ⟨_, (true), sz, H', ⟨by have := HJ10.out; first | omega | exact Nat.le_refl _⟩, ⟨by (with_reducible repeat (first | apply Kd.R_alloc | apply Kd.R_drewN | apply Kd.R_drew)); exact Kd.R_mono HO_4.out (fun _ hk => ⟨hk.1, hk.2.1⟩)⟩, ⟨by (with_reducible repeat (first | apply Kd.R_alloc | apply Kd.R_drewN | apply Kd.R_drew)); exact Kd.R_mono HO_7.out (fun _ hk => ⟨hk.1, hk.2.1⟩)⟩, ⟨by (with_reducible repeat (first | apply Kd.R_alloc | apply Kd.R_drewN | apply Kd.R_drew)); exact Kd.R_mono HO_345001.out (fun _ hk => ⟨hk.1.1, hk.1.2⟩)⟩, ⟨blkQ BK330⟩, ⟨blkQ BK344⟩, ⟨beQ HB⟩⟩
       ·rw [if_neg c45] at H
        have c45b0 : decide (t355 < 0) = false := decide_eq_false c45
        clear c45
        (first | rw [c45b0] | (simp only [i64_w, i32_w]; rw [c45b0]) | skip)
        replace H := Option.bind_eq_some_iff.mp H; obtain ⟨t357, A460, H⟩ := H
        replace H : (if t357 = true then (laws_FnExactProcessesOf.j1 kj10 t336 t339 t345 (t348 != t339) a0_0 l0_1) else (laws_FnExactProcessesOf.j1 kj10 t336 t339 t345 true a0_0 l0_1)) = some r := H
        have A46 := Aside0.mk A460; clear A460
        by_cases c47 : t357 = true
        ·subst c47
         have H1 : (laws_FnExactProcessesOf.j1 kj10 t336 t339 t345 (t348 != t339) a0_0 l0_1) = some r := by rw [if_pos rfl] at H; exact H
         clear H; have H := H1; clear H1
         have H' := Aside0.mk H
         clear H; obtain ⟨Ao48, co48, eo48⟩ := Kd.R_slice HO_7.out; subst eo48; obtain ⟨Ao49, co49, eo49⟩ := Kd.R_slice HO_4.out; subst eo49
         go_wp2_with (first | (go_at_call 9; (with_reducible refine (laws_eqInt64S.calls kj10 _ _ t345 _ _ t336 true _ ?side1 ?side2 ?side3 ?side4 A46.out).mono ?_); (case side1 => have q_ := Aside0.mk (Kd.R_reads' HO_7.out).2.2; exact cQ q_); (case side2 => exact (Kd.R_reads' HO_7.out).2.1); (case side3 => have q_ := Aside0.mk (Kd.R_reads' HO_4.out).2.2; exact cQ q_); (case side4 => exact (Kd.R_reads' HO_4.out).2.1); rintro e w' ⟨rfl, ⟨nd, rfl⟩⟩))
         go_meet
         case rel => exact ⟨_, ((t348 != t339)), sz, H', ⟨by have := HJ10.out; first | omega | exact Nat.le_refl _⟩, ⟨by (with_reducible repeat (first | apply Kd.R_alloc | apply Kd.R_drewN | apply Kd.R_drew)); exact Kd.R_mono HO_4.out (fun _ hk => ⟨hk.1, hk.2.1⟩)⟩, ⟨by (with_reducible repeat (first | apply Kd.R_alloc | apply Kd.R_drewN | apply Kd.R_drew)); exact Kd.R_mono HO_7.out (fun _ hk => ⟨hk.1, hk.2.1⟩)⟩, ⟨by (with_reducible repeat (first | apply Kd.R_alloc | apply Kd.R_drewN | apply Kd.R_drew)); exact Kd.R_mono HO_345001.out (fun _ hk => ⟨hk.1.1, hk.1.2⟩)⟩, ⟨blkQ BK330⟩, ⟨blkQ BK344⟩, ⟨beQ HB⟩⟩
        ·replace c47 := Bool.eq_false_iff.mpr c47
         subst c47
         have H1 : (laws_FnExactProcessesOf.j1 kj10 t336 t339 t345 true a0_0 l0_1) = some r := by rw [if_neg (show ¬ (false = true) by decide)] at H; exact H
         clear H; have H := H1; clear H1
         have H' := Aside0.mk H
         clear H; obtain ⟨Ao50, co50, eo50⟩ := Kd.R_slice HO_7.out; subst eo50; obtain ⟨Ao51, co51, eo51⟩ := Kd.R_slice HO_4.out; subst eo51
         go_wp2_with (first | (go_at_call 9; (with_reducible refine (laws_eqInt64S.calls kj10 _ _ t345 _ _ t336 false _ ?side1 ?side2 ?side3 ?side4 A46.out).mono ?_); (case side1 => have q_ := Aside0.mk (Kd.R_reads' HO_7.out).2.2; exact cQ q_); (case side2 => exact (Kd.R_reads' HO_7.out).2.1); (case side3 => have q_ := Aside0.mk (Kd.R_reads' HO_4.out).2.2; exact cQ q_); (case side4 => exact (Kd.R_reads' HO_4.out).2.1); rintro e w' ⟨rfl, ⟨nd, rfl⟩⟩))
         go_meet
         case rel => exact ⟨_, (true), sz, H', ⟨by have := HJ10.out; first | omega | exact Nat.le_refl _⟩, ⟨by (with_reducible repeat (first | apply Kd.R_alloc | apply Kd.R_drewN | apply Kd.R_drew)); exact Kd.R_mono HO_4.out (fun _ hk => ⟨hk.1, hk.2.1⟩)⟩, ⟨by (with_reducible repeat (first | apply Kd.R_alloc | apply Kd.R_drewN | apply Kd.R_drew)); exact Kd.R_mono HO_7.out (fun _ hk => ⟨hk.1, hk.2.1⟩)⟩, ⟨by (with_reducible repeat (first | apply Kd.R_alloc | apply Kd.R_drewN | apply Kd.R_drew)); exact Kd.R_mono HO_345001.out (fun _ hk => ⟨hk.1.1, hk.1.2⟩)⟩, ⟨blkQ BK330⟩, ⟨blkQ BK344⟩, ⟨beQ HB⟩⟩
      case rest =>
       clear HC37
       try clear c1
       try clear c2
       try clear p2
       try clear c3
       try clear c3b0
       try clear c4
       try clear c5
       try clear c6
       try clear c7
       try clear c8
       try clear c9
       try clear c10
       try clear c11
       try clear c22
       try clear c27
       try clear c32
       try clear c35
       try clear c42
       try clear c45
       try clear c45b0
       try clear c47
       try clear hcz13_0
       try clear hcz13_1
       try clear hcz15_0
       try clear hcz15_1
       try clear hcz19_0
       try clear hcz19_1
       try clear hcz23_0
       try clear hcz23_1
       try clear hcz43_0
       try clear hcz43_1
       try clear hcz5_0
       try clear hcz5_1
       try clear hfz13_0
       try clear hfz13_1
       try clear hfz15_0
       try clear hfz15_1
       try clear hfz19_0
       try clear hfz19_1
       try clear hfz23_0
       try clear hfz23_1
       try clear hfz43_0
       try clear hfz43_1
       try clear hfz5_0
       try clear hfz5_1
       try clear p2
       obtain ⟨kq, x61_36, rfl, HA, HJ36, HO_4, HO_7, HO_345001, BK330, BK344, HB⟩ := hcut; have hl345001_36 := (Kd.R_reads' HO_345001.out).1; rw [hl345001_36] at HO_345001
       (try simp only [hl345001_36])
       (try simp only [hl345001_36] at BK330)
       (try simp only [hl345001_36] at BK344)
       (try simp only [hl345001_36] at HO_4)
       (try simp only [hl345001_36] at HO_7)
       cases kq with
       | zero => exact absurd HA.out (by simp [laws_FnExactProcessesOf.j1])
       | succ kj36 =>
        have H := HA.out; clear HA
        simp only [laws_FnExactProcessesOf.j1] at H
        by_cases c52 : x61_36 = true
        ·subst c52
         have H1 : (some false) = some r := by rw [if_pos rfl] at H; exact H
         clear H; have H := H1; clear H1
         obtain rfl := Option.some.inj H
         go_wp2
         go_ret
         exact ⟨rz, beQ HB⟩
        ·replace c52 := Bool.eq_false_iff.mpr c52
         subst c52
         have H1 : ((laws_markInt64S.f kj36 t345 1).bind fun bt358 => ((laws_heldInt64S.f kj36 bt358.2 1).bind fun t360 => (if t360 < 0 then (some false) else (if t360 = bt358.1 then ((laws_toAlphabet.f kj36 a0_0 l0_1).bind fun bt361 => ((impl_ProcessesOf.f kj36 bt361.1 bt361.2).bind fun bt365 => ((laws_eqInt64S.f kj36 bt365.1 t336).bind fun t369 => (if t369 = true then (laws_FnExactProcessesOf.j2 kj36 bt358.2 bt358.1 (bt365.2 != t339)) else (laws_FnExactProcessesOf.j2 kj36 bt358.2 bt358.1 true))))) else (some false))))) = some r := by rw [if_neg (show ¬ (false = true) by decide)] at H; exact H
         clear H; have H := H1; clear H1; replace H := Option.bind_eq_some_iff.mp H
         obtain ⟨⟨t358, t359⟩, A530, H⟩ := H
         replace H : ((laws_heldInt64S.f kj36 t359 1).bind fun t360 => (if t360 < 0 then (some false) else (if t360 = t358 then ((laws_toAlphabet.f kj36 a0_0 l0_1).bind fun bt361 => ((impl_ProcessesOf.f kj36 bt361.1 bt361.2).bind fun bt365 => ((laws_eqInt64S.f kj36 bt365.1 t336).bind fun t369 => (if t369 = true then (laws_FnExactProcessesOf.j2 kj36 t359 t358 (bt365.2 != t339)) else (laws_FnExactProcessesOf.j2 kj36 t359 t358 true))))) else (some false)))) = some r := H
         have A53 := Aside0.mk A530; clear A530; replace H := Option.bind_eq_some_iff.mp H; obtain ⟨t360, A540, H⟩ := H
         replace H : (if t360 < 0 then (some false) else (if t360 = t358 then ((laws_toAlphabet.f kj36 a0_0 l0_1).bind fun bt361 => ((impl_ProcessesOf.f kj36 bt361.1 bt361.2).bind fun bt365 => ((laws_eqInt64S.f kj36 bt365.1 t336).bind fun t369 => (if t369 = true then (laws_FnExactProcessesOf.j2 kj36 t359 t358 (bt365.2 != t339)) else (laws_FnExactProcessesOf.j2 kj36 t359 t358 true))))) else (some false))) = some r := H
         have A54 := Aside0.mk A540; clear A540
         by_cases c55 : t360 < 0
         ·rw [if_pos c55] at H
          have c55b0 : decide (t360 < 0) = true := decide_eq_true c55
          clear c55
          obtain rfl := Option.some.inj H
          obtain ⟨Ao56, co56, eo56⟩ := Kd.R_slice HO_7.out; subst eo56
          go_wp2_with (first | ((with_reducible refine gate_callee (f := 12) rfl ?_); refine goesL_ (some 64) rfl rfl Tryd.func12 (by kernel_rfl) rfl #[.slice Ao56 t345.length co56, .int .i64 1] rfl lz ?_; (with_reducible refine (laws_markInt64S.calls kj36 (fun k_ => some k_ = (.slice Ao56 t345.length co56 : Value).ownBlock) (.slice Ao56 t345.length co56) t345 1 t358 t359 w _ ?side1 ?side2 A53.out).mono ?_); (case side1 => repeat (first | (with_reducible first | exact HB.out | apply below_alloc | apply pw_below_drewN | apply below_drew1 | refine below_set ?_ GE330.out | refine below_set ?_ GE344.out) | exact HB.out)); (case side2 => exact Kd.R_tight rfl HO_7.out); rintro e w57 ⟨rfl, hy0, hb, hkp⟩; refine ⟨_, rfl, ?_⟩; replace HO_4 := Aside0.mk (Kd.R_mono (ok' := fun k_ => some k_ ≠ (.slice Ao56 t345.length co56 : Value).ownBlock ∧ some k_ ≠ (.slice Ao24 t356.length co24 : Value).ownBlock) (Kd.R_keptB (HO_4.out) hkp (fun k_ hk_ hs_ => (hk_.1) hs_)) (fun k_ hk_ => ⟨hk_.1.1, hk_.1.2⟩)); replace HO_345001 := Aside0.mk (Kd.R_mono (ok' := fun k_ => some k_ ≠ (v337 : Value).ownBlock ∧ some k_ ≠ (.slice Ao56 t345.length co56 : Value).ownBlock) (Kd.R_keptB (HO_345001.out) hkp (fun k_ hk_ hs_ => (hk_.2) hs_)) (fun k_ hk_ => ⟨hk_.1.1, hk_.1.2⟩)); replace BK330 := Aside0.mk (blk_kept (blkQ BK330) hkp (fun hs_ => (fun e_ => (Kd.R_ne HO_7.out BK330.out (by decide)) e_) hs_)); replace BK344 := Aside0.mk (blk_kept (blkQ BK344) hkp (fun hs_ => (fun e_ => (Kd.R_ne HO_7.out BK344.out (by decide)) e_) hs_)); replace HO_7 := Aside0.mk (Kd.R_reok rfl hy0 (fun k_ e_ => HO_7.out.1 k_ e_)); replace HB := Aside0.mk (hb); (try clear hb); (try clear hkp); (try clear hy0)) | ((with_reducible refine gate_callee (f := 13) rfl ?_); refine goesL_ (some 67) rfl rfl Tryd.func13 (by kernel_rfl) rfl #[.slice Ao56 t359.length co56, .int .i64 1] rfl (by (try simp only [List.map_toArray, List.map_cons, List.map_nil]); first | done | (rw [show t359.length = t345.length from (Kd.R_reads' HO_7.out).1.symm] <;> rfl) | rfl | (simp only [List.length_drop, List.length_take]; rfl)) ?_; (with_reducible refine (laws_heldInt64S.calls kj36 _ _ t359 1 t360 _ ?side1 ?side2 A54.out).mono ?_); (case side1 => have q_ := Aside0.mk (Kd.R_reads' HO_7.out).2.2; exact cQ q_); (case side2 => rw [show t359.length = t345.length from (Kd.R_reads' HO_7.out).1.symm]; exact (Kd.R_reads' HO_7.out).2.1); rintro e w' ⟨rfl, ⟨nd, rfl⟩⟩; refine ⟨_, rfl, ?_⟩))
          go_ret
          exact ⟨rz, beQ HB⟩
         ·rw [if_neg c55] at H
          have c55b0 : decide (t360 < 0) = false := decide_eq_false c55
          clear c55
          by_cases c58 : t360 = t358
          ·rw [if_pos c58] at H
           have c58b0 : (t360 == t358) = true := beq_iff_eq.mpr c58
           have c58b1 : (t360 != t358) = false := bne_eq_false_iff_eq.mpr c58
           clear c58; replace H := Option.bind_eq_some_iff.mp H
           obtain ⟨⟨t361, t362⟩, A590, H⟩ := H
           replace H : ((impl_ProcessesOf.f kj36 t361 t362).bind fun bt365 => ((laws_eqInt64S.f kj36 bt365.1 t336).bind fun t369 => (if t369 = true then (laws_FnExactProcessesOf.j2 kj36 t359 t358 (bt365.2 != t339)) else (laws_FnExactProcessesOf.j2 kj36 t359 t358 true)))) = some r := H
           have A59 := Aside0.mk A590; clear A590; replace H := Option.bind_eq_some_iff.mp H
           obtain ⟨⟨t365, t368⟩, A600, H⟩ := H
           replace H : ((laws_eqInt64S.f kj36 t365 t336).bind fun t369 => (if t369 = true then (laws_FnExactProcessesOf.j2 kj36 t359 t358 (t368 != t339)) else (laws_FnExactProcessesOf.j2 kj36 t359 t358 true))) = some r := H
           have A60 := Aside0.mk A600; clear A600; have HC61 := Aside0.mk H; clear H; obtain ⟨Ao62, co62, eo62⟩ := Kd.R_slice HO_7.out; subst eo62
           go_upto_region 25 with (first | ((with_reducible refine gate_callee (f := 12) rfl ?_); refine goesL_ (some 64) rfl rfl Tryd.func12 (by kernel_rfl) rfl #[.slice Ao62 t345.length co62, .int .i64 1] rfl lz ?_; (with_reducible refine (laws_markInt64S.calls kj36 (fun k_ => some k_ = (.slice Ao62 t345.length co62 : Value).ownBlock) (.slice Ao62 t345.length co62) t345 1 t358 t359 w _ ?side1 ?side2 A53.out).mono ?_); (case side1 => repeat (first | (with_reducible first | exact HB.out | apply below_alloc | apply pw_below_drewN | apply below_drew1 | refine below_set ?_ GE330.out | refine below_set ?_ GE344.out) | exact HB.out)); (case side2 => exact Kd.R_tight rfl HO_7.out); rintro e w63 ⟨rfl, hy0, hb, hkp⟩; refine ⟨_, rfl, ?_⟩; replace HO_4 := Aside0.mk (Kd.R_mono (ok' := fun k_ => some k_ ≠ (.slice Ao62 t345.length co62 : Value).ownBlock ∧ some k_ ≠ (.slice Ao24 t356.length co24 : Value).ownBlock) (Kd.R_keptB (HO_4.out) hkp (fun k_ hk_ hs_ => (hk_.1) hs_)) (fun k_ hk_ => ⟨hk_.1.1, hk_.1.2⟩)); replace HO_345001 := Aside0.mk (Kd.R_mono (ok' := fun k_ => some k_ ≠ (v337 : Value).ownBlock ∧ some k_ ≠ (.slice Ao62 t345.length co62 : Value).ownBlock) (Kd.R_keptB (HO_345001.out) hkp (fun k_ hk_ hs_ => (hk_.2) hs_)) (fun k_ hk_ => ⟨hk_.1.1, hk_.1.2⟩)); replace BK330 := Aside0.mk (blk_kept (blkQ BK330) hkp (fun hs_ => (fun e_ => (Kd.R_ne HO_7.out BK330.out (by decide)) e_) hs_)); replace BK344 := Aside0.mk (blk_kept (blkQ BK344) hkp (fun hs_ => (fun e_ => (Kd.R_ne HO_7.out BK344.out (by decide)) e_) hs_)); replace HO_7 := Aside0.mk (Kd.R_reok rfl hy0 (fun k_ e_ => HO_7.out.1 k_ e_)); replace HB := Aside0.mk (hb); (try clear hb); (try clear hkp); (try clear hy0)) | ((with_reducible refine gate_callee (f := 13) rfl ?_); refine goesL_ (some 67) rfl rfl Tryd.func13 (by kernel_rfl) rfl #[.slice Ao62 t359.length co62, .int .i64 1] rfl (by (try simp only [List.map_toArray, List.map_cons, List.map_nil]); first | done | (rw [show t359.length = t345.length from (Kd.R_reads' HO_7.out).1.symm] <;> rfl) | rfl | (simp only [List.length_drop, List.length_take]; rfl)) ?_; (with_reducible refine (laws_heldInt64S.calls kj36 _ _ t359 1 t360 _ ?side1 ?side2 A54.out).mono ?_); (case side1 => have q_ := Aside0.mk (Kd.R_reads' HO_7.out).2.2; exact cQ q_); (case side2 => rw [show t359.length = t345.length from (Kd.R_reads' HO_7.out).1.symm]; exact (Kd.R_reads' HO_7.out).2.1); rintro e w' ⟨rfl, ⟨nd, rfl⟩⟩; refine ⟨_, rfl, ?_⟩; have hnb64 := NB330_344.out; have hnc64 := NB344_330.out; have hcz65_0 : w63.cell? ⟨gb330, 0, none⟩ = some (.int .i64 a0_0) := bc BK330 0; have hcz65_1 : w63.cell? ⟨gb330, 1, none⟩ = some (.slice A0_1 l0_1.length c0_1) := bc BK330 1; have hfz65_0 := blk_frozen BK330.out 0; have hfz65_1 := blk_frozen BK330.out 1) | ((with_reducible refine gate_callee (f := 7) rfl ?_); refine goesL_ (some 75) rfl rfl Tryd.func7 (by kernel_rfl) rfl #[.agg #[.int .i64 a0_0, .slice A0_1 l0_1.length c0_1]] rfl lz ?_; (with_reducible refine (laws_toAlphabet.calls kj36 a0_0 _ _ l0_1 t361 t362 _ ?side1 ?side2 A59.out).mono ?_); (case side1 => have q_ := Aside0.mk (Kd.C_below HR0_1.out (beQ HB)); exact cQ q_); (case side2 => exact HC0_1.out); rintro e w66 ⟨v363, rfl, ho0, hb⟩; refine ⟨_, rfl, ?_⟩; have HO364 := Aside0.mk (Kd.R_lower (Kd.R_new' (Kd.R_new' (Kd.R_new' ho0 (Kd.R_lt (kdQ HO_4))) (Kd.R_lt (kdQ HO_7))) (Kd.R_lt (kdQ HO_345001))) (below_size (beQ HB))); replace HO_4 := Aside0.mk (Kd.R_elder' (kdQ HO_4) (Kd.R_base ho0) hb); replace HO_7 := Aside0.mk (Kd.R_elder' (kdQ HO_7) (Kd.R_base ho0) hb); replace HO_345001 := Aside0.mk (Kd.R_elder' (kdQ HO_345001) (Kd.R_base ho0) hb); replace BK330 := bb BK330 hb; replace BK344 := bb BK344 hb; replace HB := Aside0.mk (below_step (beQ HB) hb); (try clear hb); (try clear hb2); (try clear hk); (try clear hi); (try clear hgw_); (try clear ho0); obtain ⟨Ao67, co67, eo67⟩ := Kd.R_slice HO364.out; subst eo67) | ((with_reducible refine gate_callee (f := 8) rfl ?_); refine goesL_ (some 76) rfl rfl Tryd.func8 (by kernel_rfl) rfl #[.agg #[.int .i64 t361, .slice Ao67 t362.length co67]] rfl lz ?_; (with_reducible refine (impl_ProcessesOf.calls kj36 t361 _ _ t362 t365 t368 _ ?side1 ?side2 ?side3 A60.out).mono ?_); (case side1 => have q_ := Aside0.mk (Kd.R_reads' HO364.out).2.2; exact cQ q_); (case side2 => exact (Kd.R_reads' HO364.out).2.1); (case side3 => exact TabW.below HT.out (beQ HB)); rintro e w68 ⟨v366, rfl, ho0, hb⟩; refine ⟨_, rfl, ?_⟩; have HO367 := Aside0.mk (Kd.R_lower (Kd.R_new' (Kd.R_new' (Kd.R_new' (Kd.R_new' ho0 (Kd.R_lt (kdQ HO_4))) (Kd.R_lt (kdQ HO_7))) (Kd.R_lt (kdQ HO_345001))) (Kd.R_lt (kdQ HO364))) (below_size (beQ HB))); replace HO_4 := Aside0.mk (Kd.R_elder' (kdQ HO_4) (Kd.R_base ho0) hb); replace HO_7 := Aside0.mk (Kd.R_elder' (kdQ HO_7) (Kd.R_base ho0) hb); replace HO_345001 := Aside0.mk (Kd.R_elder' (kdQ HO_345001) (Kd.R_base ho0) hb); replace HO364 := Aside0.mk (Kd.R_elder' (kdQ HO364) (Kd.R_base ho0) hb); replace BK330 := bb BK330 hb; replace BK344 := bb BK344 hb; replace HB := Aside0.mk (below_step (beQ HB) hb); (try clear hb); (try clear hb2); (try clear hk); (try clear hi); (try clear hgw_); (try clear ho0)))
           (try simp only [Act.put, List.setIfInBounds_toArray, List.set_cons_zero, List.set_cons_succ])
           go_cut [87] (fun v87 wc => ∃ (kq : Nat) (x87_60 : Bool), v87 = .bool x87_60 ∧ Aside0 (laws_FnExactProcessesOf.j2 kq t359 t358 x87_60 = some r) ∧ Aside0 (kq ≤ kj36) ∧ Aside0 (Kd.R (Kd.int .i64) 2 wc w.heap.size (fun k_ => some k_ ≠ ((.slice Ao24 t356.length co24) : Value).ownBlock) (.slice Ao62 t345.length co62) t359) ∧ Aside0 (Kd.R (Kd.int .i64) 2 wc w.heap.size (fun k_ => some k_ ≠ ((.slice Ao62 t345.length co62) : Value).ownBlock) (.slice Ao24 t356.length co24) t356) ∧ Aside0 (wc.heap[gb330]? = some (.cells #[.int .i64 a0_0, (.slice A0_1 l0_1.length c0_1)] 24 (0, 0))) ∧ Aside0 (wc.heap[gb344]? = some (.cells #[.int .i64 t340, (.slice Ao24 t356.length co24)] 28 (0, 0))) ∧ Aside0 (Below w.heap.size w wc))
           case first =>
            have H := HC61.out; clear HC61; replace H := Option.bind_eq_some_iff.mp H; obtain ⟨t369, A690, H⟩ := H
            replace H : (if t369 = true then (laws_FnExactProcessesOf.j2 kj36 t359 t358 (t368 != t339)) else (laws_FnExactProcessesOf.j2 kj36 t359 t358 true)) = some r := H
            have A69 := Aside0.mk A690; clear A690
            by_cases c70 : t369 = true
            ·subst c70
             have H1 : (laws_FnExactProcessesOf.j2 kj36 t359 t358 (t368 != t339)) = some r := by rw [if_pos rfl] at H; exact H
             clear H; have H := H1; clear H1
             have H' := Aside0.mk H
             clear H; obtain ⟨Ao71, co71, eo71⟩ := Kd.R_slice HO367.out; subst eo71; obtain ⟨Ao72, co72, eo72⟩ := Kd.R_slice HO_4.out; subst eo72
             go_wp2_with (first | ((with_reducible refine gate_callee (f := 9) rfl ?_); refine goesL_ (some 81) rfl rfl Tryd.func9 (by kernel_rfl) rfl #[.slice Ao71 t365.length co71, .slice Ao72 t336.length co72] rfl lz ?_; (with_reducible refine (laws_eqInt64S.calls kj36 _ _ t365 _ _ t336 true _ ?side1 ?side2 ?side3 ?side4 A69.out).mono ?_); (case side1 => have q_ := Aside0.mk (Kd.R_reads' HO367.out).2.2; exact cQ q_); (case side2 => exact (Kd.R_reads' HO367.out).2.1); (case side3 => have q_ := Aside0.mk (Kd.R_reads' HO_4.out).2.2; exact cQ q_); (case side4 => exact (Kd.R_reads' HO_4.out).2.1); rintro e w' ⟨rfl, ⟨nd, rfl⟩⟩; refine ⟨_, rfl, ?_⟩))
             go_meet
             case rel => exact ⟨_, ((t368 != t339)), sz, H', ⟨by have := HJ10.out; have := HJ36.out; first | omega | exact Nat.le_refl _⟩, ⟨by (try simp only [hl345001_36]); (with_reducible repeat (first | apply Kd.R_alloc | apply Kd.R_drewN | apply Kd.R_drew)); exact Kd.R_mono HO_7.out (fun _ hk => hk.1.1.2)⟩, ⟨by (try simp only [hl345001_36]); (with_reducible repeat (first | apply Kd.R_alloc | apply Kd.R_drewN | apply Kd.R_drew)); exact Kd.R_mono HO_345001.out (fun _ hk => hk.1.1.2)⟩, ⟨by (try simp only [hl345001_36]); (with_reducible repeat (first | refine blk_drewN ?_ _ | refine blk_drew ?_ | refine blk_alloc ?_ _)); exact BK330.out⟩, ⟨by (try simp only [hl345001_36]); (with_reducible repeat (first | refine blk_drewN ?_ _ | refine blk_drew ?_ | refine blk_alloc ?_ _)); exact BK344.out⟩, ⟨beQ HB⟩⟩
            ·replace c70 := Bool.eq_false_iff.mpr c70
             subst c70
             have H1 : (laws_FnExactProcessesOf.j2 kj36 t359 t358 true) = some r := by rw [if_neg (show ¬ (false = true) by decide)] at H; exact H
             clear H; have H := H1; clear H1
             have H' := Aside0.mk H
             clear H; obtain ⟨Ao73, co73, eo73⟩ := Kd.R_slice HO367.out; subst eo73; obtain ⟨Ao74, co74, eo74⟩ := Kd.R_slice HO_4.out; subst eo74
             go_wp2_with (first | ((with_reducible refine gate_callee (f := 9) rfl ?_); refine goesL_ (some 81) rfl rfl Tryd.func9 (by kernel_rfl) rfl #[.slice Ao73 t365.length co73, .slice Ao74 t336.length co74] rfl lz ?_; (with_reducible refine (laws_eqInt64S.calls kj36 _ _ t365 _ _ t336 false _ ?side1 ?side2 ?side3 ?side4 A69.out).mono ?_); (case side1 => have q_ := Aside0.mk (Kd.R_reads' HO367.out).2.2; exact cQ q_); (case side2 => exact (Kd.R_reads' HO367.out).2.1); (case side3 => have q_ := Aside0.mk (Kd.R_reads' HO_4.out).2.2; exact cQ q_); (case side4 => exact (Kd.R_reads' HO_4.out).2.1); rintro e w' ⟨rfl, ⟨nd, rfl⟩⟩; refine ⟨_, rfl, ?_⟩))
             go_meet
             case rel => exact ⟨_, (true), sz, H', ⟨by have := HJ10.out; have := HJ36.out; first | omega | exact Nat.le_refl _⟩, ⟨by (try simp only [hl345001_36]); (with_reducible repeat (first | apply Kd.R_alloc | apply Kd.R_drewN | apply Kd.R_drew)); exact Kd.R_mono HO_7.out (fun _ hk => hk.1.1.2)⟩, ⟨by (try simp only [hl345001_36]); (with_reducible repeat (first | apply Kd.R_alloc | apply Kd.R_drewN | apply Kd.R_drew)); exact Kd.R_mono HO_345001.out (fun _ hk => hk.1.1.2)⟩, ⟨by (try simp only [hl345001_36]); (with_reducible repeat (first | refine blk_drewN ?_ _ | refine blk_drew ?_ | refine blk_alloc ?_ _)); exact BK330.out⟩, ⟨by (try simp only [hl345001_36]); (with_reducible repeat (first | refine blk_drewN ?_ _ | refine blk_drew ?_ | refine blk_alloc ?_ _)); exact BK344.out⟩, ⟨beQ HB⟩⟩
           case rest =>
            clear HC61
            try clear c1
            try clear c2
            try clear p2
            try clear c3
            try clear c3b0
            try clear c4
            try clear c5
            try clear c6
            try clear c7
            try clear c8
            try clear c9
            try clear c10
            try clear c11
            try clear c12
            try clear c13
            try clear c22
            try clear c27
            try clear c32
            try clear c35
            try clear c42
            try clear c45
            try clear c45b0
            try clear c47
            try clear c52
            try clear c55
            try clear c55b0
            try clear c58
            try clear c58b0
            try clear c58b1
            try clear c64
            try clear c70
            try clear hcz13_0
            try clear hcz13_1
            try clear hcz15_0
            try clear hcz15_1
            try clear hcz19_0
            try clear hcz19_1
            try clear hcz23_0
            try clear hcz23_1
            try clear hcz43_0
            try clear hcz43_1
            try clear hcz5_0
            try clear hcz5_1
            try clear hcz65_0
            try clear hcz65_1
            try clear hfz13_0
            try clear hfz13_1
            try clear hfz15_0
            try clear hfz15_1
            try clear hfz19_0
            try clear hfz19_1
            try clear hfz23_0
            try clear hfz23_1
            try clear hfz43_0
            try clear hfz43_1
            try clear hfz5_0
            try clear hfz5_1
            try clear hfz65_0
            try clear hfz65_1
            try clear p2
            obtain ⟨kq, x87_60, rfl, HA, HJ60, HO_7, HO_345001, BK330, BK344, HB⟩ := hcut; have hl7_60 := (Kd.R_reads' HO_7.out).1; rw [hl7_60] at HO_7
            (try simp only [hl7_60])
            (try simp only [hl7_60] at BK330)
            (try simp only [hl7_60] at BK344)
            (try simp only [hl7_60] at HO_345001)
            cases kq with
            | zero => exact absurd HA.out (by simp [laws_FnExactProcessesOf.j2])
            | succ kj60 =>
             have H := HA.out; clear HA
             simp only [laws_FnExactProcessesOf.j2] at H
             by_cases c75 : x87_60 = true
             ·subst c75
              have H1 : (some false) = some r := by rw [if_pos rfl] at H; exact H
              clear H; have H := H1; clear H1
              obtain rfl := Option.some.inj H
              go_wp2
              go_ret
              exact ⟨rz, beQ HB⟩
             ·replace c75 := Bool.eq_false_iff.mpr c75
              subst c75
              have H1 : ((laws_heldInt64S.f kj60 t359 1).bind fun t370 => (if t370 < 0 then (some false) else (if t370 = t358 then (some true) else (some false)))) = some r := by rw [if_neg (show ¬ (false = true) by decide)] at H; exact H
              clear H; have H := H1; clear H1; replace H := Option.bind_eq_some_iff.mp H; obtain ⟨t370, A760, H⟩ := H
              replace H : (if t370 < 0 then (some false) else (if t370 = t358 then (some true) else (some false))) = some r := H
              have A76 := Aside0.mk A760; clear A760
              by_cases c77 : t370 < 0
              ·rw [if_pos c77] at H
               have c77b0 : decide (t370 < 0) = true := decide_eq_true c77
               clear c77
               obtain rfl := Option.some.inj H
               go_wp2_with (first | ((with_reducible refine gate_callee (f := 13) rfl ?_); refine goesL_ (some 90) rfl rfl Tryd.func13 (by kernel_rfl) rfl #[.slice Ao62 t359.length co62, .int .i64 1] rfl lz ?_; (with_reducible refine (laws_heldInt64S.calls kj60 _ _ t359 1 t370 _ ?side1 ?side2 A76.out).mono ?_); (case side1 => have q_ := Aside0.mk (Kd.R_reads' HO_7.out).2.2; exact cQ q_); (case side2 => exact (Kd.R_reads' HO_7.out).2.1); rintro e w' ⟨rfl, ⟨nd, rfl⟩⟩; refine ⟨_, rfl, ?_⟩))
               go_ret
               exact ⟨rz, beQ HB⟩
              ·rw [if_neg c77] at H
               have c77b0 : decide (t370 < 0) = false := decide_eq_false c77
               clear c77
               by_cases c78 : t370 = t358
               ·rw [if_pos c78] at H
                have c78b0 : (t370 == t358) = true := beq_iff_eq.mpr c78
                have c78b1 : (t370 != t358) = false := bne_eq_false_iff_eq.mpr c78
                clear c78
                obtain rfl := Option.some.inj H
                go_wp2_with (first | ((with_reducible refine gate_callee (f := 13) rfl ?_); refine goesL_ (some 90) rfl rfl Tryd.func13 (by kernel_rfl) rfl #[.slice Ao62 t359.length co62, .int .i64 1] rfl lz ?_; (with_reducible refine (laws_heldInt64S.calls kj60 _ _ t359 1 t370 _ ?side1 ?side2 A76.out).mono ?_); (case side1 => have q_ := Aside0.mk (Kd.R_reads' HO_7.out).2.2; exact cQ q_); (case side2 => exact (Kd.R_reads' HO_7.out).2.1); rintro e w' ⟨rfl, ⟨nd, rfl⟩⟩; refine ⟨_, rfl, ?_⟩))
                go_ret
                exact ⟨rz, beQ HB⟩
               ·rw [if_neg c78] at H
                have c78b0 : (t370 == t358) = false := beq_eq_false_iff_ne.mpr c78
                have c78b1 : (t370 != t358) = true := bne_iff_ne.mpr c78
                obtain rfl := Option.some.inj H
                go_wp2_with (first | ((with_reducible refine gate_callee (f := 13) rfl ?_); refine goesL_ (some 90) rfl rfl Tryd.func13 (by kernel_rfl) rfl #[.slice Ao62 t359.length co62, .int .i64 1] rfl lz ?_; (with_reducible refine (laws_heldInt64S.calls kj60 _ _ t359 1 t370 _ ?side1 ?side2 A76.out).mono ?_); (case side1 => have q_ := Aside0.mk (Kd.R_reads' HO_7.out).2.2; exact cQ q_); (case side2 => exact (Kd.R_reads' HO_7.out).2.1); rintro e w' ⟨rfl, ⟨nd, rfl⟩⟩; refine ⟨_, rfl, ?_⟩))
                go_ret
                exact ⟨rz, beQ HB⟩
          ·rw [if_neg c58] at H
           have c58b0 : (t360 == t358) = false := beq_eq_false_iff_ne.mpr c58
           have c58b1 : (t360 != t358) = true := bne_iff_ne.mpr c58
           obtain rfl := Option.some.inj H
           obtain ⟨Ao79, co79, eo79⟩ := Kd.R_slice HO_7.out; subst eo79
           go_wp2_with (first | ((with_reducible refine gate_callee (f := 12) rfl ?_); refine goesL_ (some 64) rfl rfl Tryd.func12 (by kernel_rfl) rfl #[.slice Ao79 t345.length co79, .int .i64 1] rfl lz ?_; (with_reducible refine (laws_markInt64S.calls kj36 (fun k_ => some k_ = (.slice Ao79 t345.length co79 : Value).ownBlock) (.slice Ao79 t345.length co79) t345 1 t358 t359 w _ ?side1 ?side2 A53.out).mono ?_); (case side1 => repeat (first | (with_reducible first | exact HB.out | apply below_alloc | apply pw_below_drewN | apply below_drew1 | refine below_set ?_ GE330.out | refine below_set ?_ GE344.out) | exact HB.out)); (case side2 => exact Kd.R_tight rfl HO_7.out); rintro e w80 ⟨rfl, hy0, hb, hkp⟩; refine ⟨_, rfl, ?_⟩; replace HO_4 := Aside0.mk (Kd.R_mono (ok' := fun k_ => some k_ ≠ (.slice Ao79 t345.length co79 : Value).ownBlock ∧ some k_ ≠ (.slice Ao24 t356.length co24 : Value).ownBlock) (Kd.R_keptB (HO_4.out) hkp (fun k_ hk_ hs_ => (hk_.1) hs_)) (fun k_ hk_ => ⟨hk_.1.1, hk_.1.2⟩)); replace HO_345001 := Aside0.mk (Kd.R_mono (ok' := fun k_ => some k_ ≠ (v337 : Value).ownBlock ∧ some k_ ≠ (.slice Ao79 t345.length co79 : Value).ownBlock) (Kd.R_keptB (HO_345001.out) hkp (fun k_ hk_ hs_ => (hk_.2) hs_)) (fun k_ hk_ => ⟨hk_.1.1, hk_.1.2⟩)); replace BK330 := Aside0.mk (blk_kept (blkQ BK330) hkp (fun hs_ => (fun e_ => (Kd.R_ne HO_7.out BK330.out (by decide)) e_) hs_)); replace BK344 := Aside0.mk (blk_kept (blkQ BK344) hkp (fun hs_ => (fun e_ => (Kd.R_ne HO_7.out BK344.out (by decide)) e_) hs_)); replace HO_7 := Aside0.mk (Kd.R_reok rfl hy0 (fun k_ e_ => HO_7.out.1 k_ e_)); replace HB := Aside0.mk (hb); (try clear hb); (try clear hkp); (try clear hy0)) | ((with_reducible refine gate_callee (f := 13) rfl ?_); refine goesL_ (some 67) rfl rfl Tryd.func13 (by kernel_rfl) rfl #[.slice Ao79 t359.length co79, .int .i64 1] rfl (by (try simp only [List.map_toArray, List.map_cons, List.map_nil]); first | done | (rw [show t359.length = t345.length from (Kd.R_reads' HO_7.out).1.symm] <;> rfl) | rfl | (simp only [List.length_drop, List.length_take]; rfl)) ?_; (with_reducible refine (laws_heldInt64S.calls kj36 _ _ t359 1 t360 _ ?side1 ?side2 A54.out).mono ?_); (case side1 => have q_ := Aside0.mk (Kd.R_reads' HO_7.out).2.2; exact cQ q_); (case side2 => rw [show t359.length = t345.length from (Kd.R_reads' HO_7.out).1.symm]; exact (Kd.R_reads' HO_7.out).2.1); rintro e w' ⟨rfl, ⟨nd, rfl⟩⟩; refine ⟨_, rfl, ?_⟩))
           go_ret
           exact ⟨rz, beQ HB⟩
     ·replace c35 := Bool.eq_false_iff.mpr c35
      subst c35
      have H1 : (some false) = some r := by rw [if_neg (show ¬ (false = true) by decide)] at H; exact H
      clear H; have H := H1; clear H1
      obtain rfl := Option.some.inj H
      try go_wp2
      replace HO_4 := Aside0.mk (Kd.R_drew HO_4.out); replace HO_7 := Aside0.mk (Kd.R_drew HO_7.out); replace HO_345001 := Aside0.mk (Kd.R_drew HO_345001.out); replace BK330 := Aside0.mk (blk_drew BK330.out); replace BK344 := Aside0.mk (blk_drew BK344.out); replace HB := Aside0.mk (below_drew1 HB.out)
      refine start_ (n := 5) (S := fun w' => w'.cell? ⟨gb344, 0, none⟩ = some (.int .i64 t340) ∧ w'.cell? ⟨gb344, 1, none⟩ = some (.slice Ao24 t341.length co24) ∧ w'.cell? ⟨gb330, 0, none⟩ = some (.int .i64 a0_0) ∧ w'.cell? ⟨gb330, 1, none⟩ = some (.slice A0_1 l0_1.length c0_1)) (ds := []) #[false, false, false, false, false] (by kernel_rfl) rfl rfl ⟨bc BK344 0, bc BK344 1, bc BK330 0, bc BK330 1⟩ (fun hHeld => ?_)
      generalize wc.drew = w81 at HO_4 HO_7 HO_345001 BK330 BK344 HB hHeld ⊢
      refine take_ (i := 0) (N := some 41) (v := ?_) (a' := ?_) #[true, false, false, false, false] rfl rfl (by kernel_rfl) (fun _ _ _ h => h) (Or.inl ⟨by rfl, ?_⟩) hHeld ?_ ?_
      rotate_left
      ·rintro w' ⟨s0, s1, s2, s3⟩
       go_simp
       with_reducible rfl
      rotate_left
      ·simp only [Act.put, s1, s2, s3, i64_w, i32_w]
       rfl
      refine take_ (i := 1) (N := some 42) (v := ?_) (a' := ?_) #[true, true, false, false, false] rfl rfl (by kernel_rfl) (fun _ _ _ h => h) (Or.inl ⟨by rfl, ?_⟩) hHeld ?_ ?_
      rotate_left
      ·rintro w' ⟨s0, s1, s2, s3⟩
       go_simp
       with_reducible rfl
      rotate_left
      ·simp only [Act.put, s1, s2, s3, i64_w, i32_w]
       rfl
      refine one_ (i := 2) (N := some 43) #[true, true, true, false, false] rfl rfl (by kernel_rfl) (by decide) (fun K hK => ?_)
      refine goes_ Tryd.func7 (by kernel_rfl) rfl #[.agg #[.int .i64 a0_0, .slice A0_1 l0_1.length c0_1]] (by rfl) rfl rfl lz ?_
      with_reducible refine (laws_toAlphabet.calls kj10 a0_0 _ _ l0_1 t350 t351 _ ?side1 ?side2 A33.out).mono ?_
      (case side1 => have q_ := Aside0.mk (Kd.C_below HR0_1.out HB.out); exact cQ q_)
      (case side2 => exact HC0_1.out)
      rintro e w82 ⟨v352, rfl, ho0, hb⟩
      refine ⟨_, rfl, ?_⟩
      have HO353 := Aside0.mk (Kd.R_lower (Kd.R_new' (Kd.R_new' (Kd.R_new' ho0 (Kd.R_lt (kdQ HO_4))) (Kd.R_lt (kdQ HO_7))) (Kd.R_lt (kdQ HO_345001))) (below_size (beQ HB))); replace HO_4 := Aside0.mk (Kd.R_elder' (kdQ HO_4) (Kd.R_base ho0) hb); replace HO_7 := Aside0.mk (Kd.R_elder' (kdQ HO_7) (Kd.R_base ho0) hb); replace HO_345001 := Aside0.mk (Kd.R_elder' (kdQ HO_345001) (Kd.R_base ho0) hb); replace BK330 := bb BK330 hb; replace BK344 := bb BK344 hb; replace HB := Aside0.mk (below_step (beQ HB) hb)
      (try clear hb)
      (try clear hb2)
      (try clear hk)
      (try clear hi)
      (try clear hgw_)
      (try clear ho0)
      obtain ⟨Ao83, co83, eo83⟩ := Kd.R_slice HO353.out
      (first | subst eo83 | (injection eo83 with f1_ f2_ f3_; have f4_ := f1_.symm; have f5_ := f3_.symm; clear f1_ f2_ f3_; subst f4_; subst f5_))
      refine hK.out _ _ ⟨bc BK344 0, bc BK344 1, bc BK330 0, bc BK330 1⟩ (fun hHeld => ?_)
      clear hK K
      refine norm_ (a' := ?_) ?_ ?_
      rotate_left
      ·show Act.put _ (some 43) _ = _
       simp only [Act.put, s1, s2, s3, i64_w, i32_w]
       rfl
      refine one_ (i := 3) (N := some 44) #[true, true, true, true, false] rfl rfl (by kernel_rfl) (by decide) (fun K hK => ?_)
      refine goes_ Tryd.func10 (by kernel_rfl) rfl #[.agg #[.int .i64 t340, .slice Ao24 t341.length co24], .agg #[.int .i64 t350, .slice Ao83 t351.length co83]] (by rfl) rfl rfl lz ?_
      with_reducible refine (laws_eqAlphabet.calls kj10 t340 _ _ t341 t350 _ _ t351 false _ ?side1 ?side2 ?side3 ?side4 A34.out).mono ?_
      (case side1 => have q_ := Aside0.mk (Kd.R_reads' HO_345001.out).2.2; exact cQ q_)
      (case side2 => exact (Kd.R_reads' HO_345001.out).2.1)
      (case side3 => have q_ := Aside0.mk (Kd.R_reads' HO353.out).2.2; exact cQ q_)
      (case side4 => exact (Kd.R_reads' HO353.out).2.1)
      rintro e w84 ⟨rfl, hb⟩
      refine ⟨_, rfl, ?_⟩
      replace HO_4 := kb HO_4 hb; replace HO_7 := kb HO_7 hb; replace HO_345001 := kb HO_345001 hb; replace HO353 := kb HO353 hb; replace BK330 := bb BK330 hb; replace BK344 := bb BK344 hb; replace HB := Aside0.mk (below_step (beQ HB) hb)
      (try clear hb)
      (try clear hb2)
      (try clear hk)
      (try clear hi)
      (try clear hgw_)
      refine hK.out _ _ ⟨bc BK344 0, bc BK344 1, bc BK330 0, bc BK330 1⟩ (fun hHeld => ?_)
      clear hK K
      refine norm_ (a' := ?_) ?_ ?_
      rotate_left
      ·show Act.put _ (some 44) _ = _
       simp only [Act.put, s1, s2, s3, i64_w, i32_w]
       rfl
      refine pure_ (i := 4) (N := some 45) (v := ?_) (a' := ?_) #[true, true, true, true, true] rfl rfl (by kernel_rfl) (fun _ _ _ h => h) (Or.inl ⟨by rfl, ?_⟩) ?_ ?_
      rotate_left
      ·intro w'
       go_simp
       with_reducible rfl
      rotate_left
      ·simp only [Act.put, s1, s2, s3, i64_w, i32_w]
       rfl
      refine done_ (by kernel_rfl) ?_
      try go_wp2
      go_ret
      exact ⟨rz, beQ HB⟩

end Go.Proofs.YtdcggbkbcackaaaDoor.G
