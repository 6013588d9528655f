/- How the program's functions compute, function by function: each is told by a plain Lean function of the same answers, under the condition that this one answers. Written by a program of this project over the seat's translation; Lean checks it. -/
import Derived.Test.YtbhkpfkkjknmlaaDoorG0
import Derived.Test.YtbhkpfkkjknmlaaDoorGQ03
import Derived.Test.YtbhkpfkkjknmlaaDoorGQ04b
import Derived.Test.YtbhkpfkkjknmlaaDoorGQ04d
import Derived.Test.YtbhkpfkkjknmlaaDoorGQ05
namespace Go.Proofs.YtbhkpfkkjknmlaaDoor.G
open Go.RowKit Go.Proofs.YtbhkpfkkjknmlaaDoorW.PrintWords Go.Proofs.YtbhkpfkkjknmlaaDoorW.PrintLast Go.Proofs.YtbhkpfkkjknmlaaDoorW.PrintMore
attribute [local go_sem] max2_int min2_int max_two min_two max_three min_three max_four min_four   -- for this text's walks alone
set_option linter.unusedVariables false
set_option linter.unusedSimpArgs false

/-! ### laws_FnExactParseAlphabet: function 4 -/
mutual
def laws_FnExactParseAlphabet.j0 : Nat → ByteArray → Int → Bool → Int → List Int → Int → List Int → Option (Bool)
 | 0, _, _, _, _, _, _, _ => none
 | k + 1, x0, x4, x32, x330000, x330001, x336000, x336001 => if x32 = true then (some false) else ((laws_markAlphabet.f k x336000 x336001 1).bind fun bt337 => ((laws_heldAlphabet.f k x336000 bt337.2 1).bind fun t339 => (if t339 < 0 then (some false) else (if t339 = bt337.1 then ((impl_ParseAlphabet.f k x0).bind fun bt340 => ((laws_eqAlphabet.f k bt340.1 bt340.2.1 x330000 x330001).bind fun t346 => (if t346 = true then (laws_FnExactParseAlphabet.j1 k bt337.1 (bt340.2.2 != x4) x336000 bt337.2) else (laws_FnExactParseAlphabet.j1 k bt337.1 true x336000 bt337.2)))) else (some false)))))
def laws_FnExactParseAlphabet.j1 : Nat → Int → Bool → Int → List Int → Option (Bool)
 | 0, _, _, _, _ => none
 | k + 1, x7, x57, x336000, x336001 => if x57 = true then (some false) else ((laws_heldAlphabet.f k x336000 x336001 1).bind fun t347 => (if t347 < 0 then (some false) else (if t347 = x7 then (some true) else (some false))))
end
def laws_FnExactParseAlphabet.f (k : Nat) (a0 : ByteArray) : Option (Bool) := if (a0.size : Int) > 1048576 then (some true) else ((spec_ParseAlphabet.f k a0).bind fun bt324 => ((impl_ParseAlphabet.f k a0).bind fun bt330 => ((laws_eqAlphabet.f k bt330.1 bt330.2.1 bt324.1 bt324.2.1).bind fun t336 => (if t336 = true then (laws_FnExactParseAlphabet.j0 k a0 bt324.2.2 (bt330.2.2 != bt324.2.2) bt324.1 bt324.2.1 bt330.1 bt330.2.1) else (laws_FnExactParseAlphabet.j0 k a0 bt324.2.2 true bt324.1 bt324.2.1 bt330.1 bt330.2.1)))))
theorem laws_FnExactParseAlphabet.mono_l : ∀ k, (∀ y0 y1 y2 y3 y4 y5 y6, LeO (laws_FnExactParseAlphabet.j0 k y0 y1 y2 y3 y4 y5 y6) (laws_FnExactParseAlphabet.j0 (k + 1) y0 y1 y2 y3 y4 y5 y6)) ∧ (∀ y0 y1 y2 y3, LeO (laws_FnExactParseAlphabet.j1 k y0 y1 y2 y3) (laws_FnExactParseAlphabet.j1 (k + 1) y0 y1 y2 y3))
 | 0 => ⟨fun _ _ _ _ _ _ _ r h => by simp [laws_FnExactParseAlphabet.j0] at h, fun _ _ _ _ r h => by simp [laws_FnExactParseAlphabet.j1] at h⟩
 | k + 1 => by
  obtain ⟨ih0, ih1⟩ := laws_FnExactParseAlphabet.mono_l k
  refine ⟨?_, ?_⟩
  ·intro y0 y1 y2 y3 y4 y5 y6
   unfold laws_FnExactParseAlphabet.j0
   repeat' first
   | (with_reducible exact ih0 _ _ _ _ _ _ _)
   | (with_reducible exact ih1 _ _ _ _)
   | (with_reducible exact impl_ParseAlphabet.mono _ _)
   | (with_reducible exact laws_eqAlphabet.mono _ _ _ _ _)
   | (with_reducible exact laws_heldAlphabet.mono _ _ _ _)
   | (with_reducible exact laws_markAlphabet.mono _ _ _ _)
   | (with_reducible exact spec_ParseAlphabet.mono _ _)
   | (with_reducible exact LeO.refl _)
   | (with_reducible exact LeO.none _)
   | (with_reducible refine LeO.ite ?_ ?_)
   | (with_reducible refine LeO.bind ?_ (fun _ => ?_))
   | exact ih0 _ _ _ _ _ _ _
   | exact ih1 _ _ _ _
   | exact impl_ParseAlphabet.mono _ _
   | exact laws_eqAlphabet.mono _ _ _ _ _
   | exact laws_heldAlphabet.mono _ _ _ _
   | exact laws_markAlphabet.mono _ _ _ _
   | exact spec_ParseAlphabet.mono _ _
   | exact LeO.none _
   | refine LeO.ite ?_ ?_
   | refine LeO.bind ?_ (fun _ => ?_)
  ·intro y0 y1 y2 y3
   unfold laws_FnExactParseAlphabet.j1
   repeat' first
   | (with_reducible exact ih0 _ _ _ _ _ _ _)
   | (with_reducible exact ih1 _ _ _ _)
   | (with_reducible exact impl_ParseAlphabet.mono _ _)
   | (with_reducible exact laws_eqAlphabet.mono _ _ _ _ _)
   | (with_reducible exact laws_heldAlphabet.mono _ _ _ _)
   | (with_reducible exact laws_markAlphabet.mono _ _ _ _)
   | (with_reducible exact spec_ParseAlphabet.mono _ _)
   | (with_reducible exact LeO.refl _)
   | (with_reducible exact LeO.none _)
   | (with_reducible refine LeO.ite ?_ ?_)
   | (with_reducible refine LeO.bind ?_ (fun _ => ?_))
   | exact ih0 _ _ _ _ _ _ _
   | exact ih1 _ _ _ _
   | exact impl_ParseAlphabet.mono _ _
   | exact laws_eqAlphabet.mono _ _ _ _ _
   | exact laws_heldAlphabet.mono _ _ _ _
   | exact laws_markAlphabet.mono _ _ _ _
   | exact spec_ParseAlphabet.mono _ _
   | exact LeO.none _
   | refine LeO.ite ?_ ?_
   | refine LeO.bind ?_ (fun _ => ?_)
theorem laws_FnExactParseAlphabet.mono : ∀ a0 k, LeO (laws_FnExactParseAlphabet.f k a0) (laws_FnExactParseAlphabet.f (k + 1) a0) := by
 intro a0 k
 obtain ⟨ih0, ih1⟩ := laws_FnExactParseAlphabet.mono_l k
 unfold laws_FnExactParseAlphabet.f
 repeat' first
   | (with_reducible exact ih0 _ _ _ _ _ _ _)
   | (with_reducible exact ih1 _ _ _ _)
   | (with_reducible exact impl_ParseAlphabet.mono _ _)
   | (with_reducible exact laws_eqAlphabet.mono _ _ _ _ _)
   | (with_reducible exact laws_heldAlphabet.mono _ _ _ _)
   | (with_reducible exact laws_markAlphabet.mono _ _ _ _)
   | (with_reducible exact spec_ParseAlphabet.mono _ _)
   | (with_reducible exact LeO.refl _)
   | (with_reducible exact LeO.none _)
   | (with_reducible refine LeO.ite ?_ ?_)
   | (with_reducible refine LeO.bind ?_ (fun _ => ?_))
   | exact ih0 _ _ _ _ _ _ _
   | exact ih1 _ _ _ _
   | exact impl_ParseAlphabet.mono _ _
   | exact laws_eqAlphabet.mono _ _ _ _ _
   | exact laws_heldAlphabet.mono _ _ _ _
   | exact laws_markAlphabet.mono _ _ _ _
   | exact spec_ParseAlphabet.mono _ _
   | exact LeO.none _
   | refine LeO.ite ?_ ?_
   | refine LeO.bind ?_ (fun _ => ?_)
set_option maxHeartbeats 8000000 in
set_option maxRecDepth 100000 in
theorem laws_FnExactParseAlphabet.calls (k : Nat) (a0 : ByteArray) (r : Bool) (w : World) (h : laws_FnExactParseAlphabet.f k a0 = some r) :
  Calls Tryd.prog 4 #[.string a0] w fun e w' => e = .returned (.bool r) ∧ Below w.heap.size w w' := by
 have hu28 := Tryd.underlying28; have HB := Aside0.mk (Below.refl w.heap.size w)
 have H : (if (a0.size : Int) > 1048576 then (some true) else ((spec_ParseAlphabet.f k a0).bind fun bt324 => ((impl_ParseAlphabet.f k a0).bind fun bt330 => ((laws_eqAlphabet.f k bt330.1 bt330.2.1 bt324.1 bt324.2.1).bind fun t336 => (if t336 = true then (laws_FnExactParseAlphabet.j0 k a0 bt324.2.2 (bt330.2.2 != bt324.2.2) bt324.1 bt324.2.1 bt330.1 bt330.2.1) else (laws_FnExactParseAlphabet.j0 k a0 bt324.2.2 true bt324.1 bt324.2.1 bt330.1 bt330.2.1)))))) = some r := h
 clear h
 by_cases c2 : (a0.size : Int) > 1048576
 ·rw [if_pos c2] at H
  have c2b0 : decide (1048576 < (a0.size : Int)) = true := decide_eq_true c2
  have c2b1 : decide (1048576 < a0.size) = true := decide_eq_true (by omega)
  clear c2
  obtain rfl := Option.some.inj H
  go_enter Tryd.func4, Tryd.ntmps4
  go_wp2
  go_ret
  exact ⟨rz, beQ HB⟩
 ·rw [if_neg c2] at H
  have c2b0 : decide (1048576 < (a0.size : Int)) = false := decide_eq_false c2
  have c2b1 : decide (1048576 < a0.size) = false := decide_eq_false (by omega)
  clear c2; replace H := Option.bind_eq_some_iff.mp H
  obtain ⟨⟨t324, t325, t328⟩, A30, H⟩ := H
  replace H : ((impl_ParseAlphabet.f k a0).bind fun bt330 => ((laws_eqAlphabet.f k bt330.1 bt330.2.1 t324 t325).bind fun t336 => (if t336 = true then (laws_FnExactParseAlphabet.j0 k a0 t328 (bt330.2.2 != t328) t324 t325 bt330.1 bt330.2.1) else (laws_FnExactParseAlphabet.j0 k a0 t328 true t324 t325 bt330.1 bt330.2.1)))) = some r := H
  have A3 := Aside0.mk A30; clear A30; replace H := Option.bind_eq_some_iff.mp H
  obtain ⟨⟨t330, t331, t334⟩, A40, H⟩ := H
  replace H : ((laws_eqAlphabet.f k t330 t331 t324 t325).bind fun t336 => (if t336 = true then (laws_FnExactParseAlphabet.j0 k a0 t328 (t334 != t328) t324 t325 t330 t331) else (laws_FnExactParseAlphabet.j0 k a0 t328 true t324 t325 t330 t331))) = some r := H
  have A4 := Aside0.mk A40; clear A40; have HC5 := Aside0.mk H; clear H
  go_enter Tryd.func4, Tryd.ntmps4
  go_upto_region 5 with (first | ((with_reducible refine gate_callee (f := 11) rfl ?_); refine goesL_ (some 16) rfl rfl Tryd.func11 (by kernel_rfl) rfl #[.string a0] rfl lz ?_; (with_reducible refine (spec_ParseAlphabet.calls k a0 t324 t325 t328 _ A3.out).mono ?_); rintro e w6 ⟨v326, rfl, ho0, hb⟩; refine ⟨_, rfl, ?_⟩; have HO327 := Aside0.mk (Kd.R_lower ho0 (below_size (beQ HB))); replace HB := Aside0.mk (below_step (beQ HB) hb); (try clear hb); (try clear hb2); (try clear hk); (try clear hi); (try clear hgw_); (try clear ho0)) | ((with_reducible refine gate_dst (N := 3) rfl ?_); refine box_event ?hg (N := 3) ?hd (cs := #[.int .i64 0, .slice none 0 0]) (t := 28) ?hr ?_; (case hd => rfl); (case hg => rfl); (case hr => first | (go_simp; done) | (go_simp; rfl)); intro gb329 hg w7 hbox hb; replace HO327 := kb HO327 hb; have BK329 := Aside0.mk (hbox); have GW329 := Aside0.mk ((by rw [hg]; exact (below_size (beQ HB)) : w.heap.size ≤ gb329)); have GE329 := Aside0.mk ((by rw [hg]; exact (below_size (beQ HB)) : w.heap.size ≤ gb329)); replace HB := Aside0.mk (below_step (beQ HB) hb); clear hb hbox hg; have hcz8_0 : w7.cell? ⟨gb329, 0, none⟩ = some (.int .i64 0) := bc BK329 0; have hcz8_1 : w7.cell? ⟨gb329, 1, none⟩ = some (.slice none 0 0) := bc BK329 1; have hfz8_0 := blk_frozen BK329.out 0; have hfz8_1 := blk_frozen BK329.out 1; obtain ⟨Ao9, co9, eo9⟩ := Kd.R_slice HO327.out; subst eo9) | ((with_reducible refine gate_callee (f := 12) rfl ?_); refine goesL_ (some 21) rfl rfl Tryd.func12 (by kernel_rfl) rfl #[.string a0] rfl lz ?_; (with_reducible refine (impl_ParseAlphabet.calls k a0 t330 t331 t334 _ A4.out).mono ?_); rintro e w10 ⟨v332, rfl, ho0, hb⟩; refine ⟨_, rfl, ?_⟩; have HO333 := Aside0.mk (Kd.R_lower (Kd.R_new' ho0 (Kd.R_lt (by (with_reducible repeat (first | apply Kd.R_alloc | apply Kd.R_drewN | apply Kd.R_drew)); exact (Kd.R_mono (Kd.R_far (p := ⟨gb329, 1, none⟩) (Kd.R_far (p := ⟨gb329, 0, none⟩) (Kd.R_types HO327.out BK329.out (by decide)) (fun _ hk => hk.2) (.int .i64 t324)) (fun _ hk => hk.2) (.slice Ao9 t325.length co9)) (fun _ h_ => h_.1))))) (below_size (beQ HB))); replace HO327 := Aside0.mk (Kd.R_elder' (by (with_reducible repeat (first | apply Kd.R_alloc | apply Kd.R_drewN | apply Kd.R_drew)); exact (Kd.R_mono (Kd.R_far (p := ⟨gb329, 1, none⟩) (Kd.R_far (p := ⟨gb329, 0, none⟩) (Kd.R_types HO327.out BK329.out (by decide)) (fun _ hk => hk.2) (.int .i64 t324)) (fun _ hk => hk.2) (.slice Ao9 t325.length co9)) (fun _ h_ => h_.1))) (Kd.R_base ho0) hb); replace BK329 := Aside0.mk (blk_below (g := gb329) (o := .cells #[.int .i64 t324, .slice Ao9 t325.length co9] 28 (0, 0)) (by (with_reducible repeat (first | refine blk_drewN ?_ _ | refine blk_drew ?_ | refine blk_alloc ?_ _)); refine blk_put (cs := #[.int .i64 t324, .slice none 0 0]) ?_ 1 _ rfl; (with_reducible repeat (first | refine blk_drewN ?_ _ | refine blk_drew ?_ | refine blk_alloc ?_ _)); refine blk_put (cs := #[.int .i64 0, .slice none 0 0]) ?_ 0 _ rfl; (with_reducible repeat (first | refine blk_drewN ?_ _ | refine blk_drew ?_ | refine blk_alloc ?_ _)); exact BK329.out) hb); replace HB := Aside0.mk (below_step (beQ HB) hb); (try clear hb); (try clear hb2); (try clear hk); (try clear hi); (try clear hgw_); (try clear ho0)) | ((with_reducible refine gate_dst (N := 5) rfl ?_); refine box_event ?hg (N := 5) ?hd (cs := #[.int .i64 0, .slice none 0 0]) (t := 28) ?hr ?_; (case hd => rfl); (case hg => rfl); (case hr => first | (go_simp; done) | (go_simp; rfl)); intro gb335 hg w11 hbox hb; replace HO327 := kb HO327 hb; replace HO333 := kb HO333 hb; have BK335 := Aside0.mk (hbox); have GW335 := Aside0.mk ((by rw [hg]; exact (below_size (beQ HB)) : w.heap.size ≤ gb335)); have GE335 := Aside0.mk ((by rw [hg]; exact (below_size (beQ HB)) : w.heap.size ≤ gb335)); replace HB := Aside0.mk (below_step (beQ HB) hb); have NB329_335 := Aside0.mk ((by rw [hg]; exact Nat.ne_of_lt (blk_lt (blkQ BK329)) : gb329 ≠ gb335)); have NB335_329 := Aside0.mk ((by rw [hg]; exact Nat.ne_of_gt (blk_lt (blkQ BK329)) : gb335 ≠ gb329)); replace BK329 := bb BK329 hb; clear hb hbox hg; have hnb12 := NB335_329.out; have hnc12 := NB329_335.out; have hcz13_0 : w11.cell? ⟨gb335, 0, none⟩ = some (.int .i64 0) := bc BK335 0; have hcz13_1 : w11.cell? ⟨gb335, 1, none⟩ = some (.slice none 0 0) := bc BK335 1; have hfz13_0 := blk_frozen BK335.out 0; have hfz13_1 := blk_frozen BK335.out 1; obtain ⟨Ao14, co14, eo14⟩ := Kd.R_slice HO333.out; subst eo14))
  (try simp only [Act.put, List.setIfInBounds_toArray, List.set_cons_zero, List.set_cons_succ])
  go_cut [32] (fun v32 wc => ∃ (kq : Nat) (x32_4 : Bool), v32 = .bool x32_4 ∧ Aside0 (laws_FnExactParseAlphabet.j0 kq a0 t328 x32_4 t324 t325 t330 t331 = some r) ∧ Aside0 (kq ≤ k) ∧ Aside0 (Kd.R (Kd.int .i64) 2 wc w.heap.size (fun k_ => some k_ ≠ ((.slice Ao14 t331.length co14) : Value).ownBlock) (.slice Ao9 t325.length co9) t325) ∧ Aside0 (Kd.R (Kd.int .i64) 2 wc w.heap.size (fun k_ => some k_ ≠ ((.slice Ao9 t325.length co9) : Value).ownBlock) (.slice Ao14 t331.length co14) t331) ∧ Aside0 (wc.heap[gb329]? = some (.cells #[.int .i64 t324, (.slice Ao9 t325.length co9)] 28 (0, 0))) ∧ Aside0 (wc.heap[gb335]? = some (.cells #[.int .i64 t330, (.slice Ao14 t331.length co14)] 28 (0, 0))) ∧ Aside0 (Below w.heap.size w wc))
  case first =>
   have H := HC5.out; clear HC5; replace H := Option.bind_eq_some_iff.mp H; obtain ⟨t336, A150, H⟩ := H
   replace H : (if t336 = true then (laws_FnExactParseAlphabet.j0 k a0 t328 (t334 != t328) t324 t325 t330 t331) else (laws_FnExactParseAlphabet.j0 k a0 t328 true t324 t325 t330 t331)) = some r := H
   have A15 := Aside0.mk A150; clear A150
   by_cases c16 : t336 = true
   ·subst c16
    have H1 : (laws_FnExactParseAlphabet.j0 k a0 t328 (t334 != t328) t324 t325 t330 t331) = some r := by rw [if_pos rfl] at H; exact H
    clear H; have H := H1; clear H1
    have H' := Aside0.mk H
    clear H; have hnb17 := NB335_329.out; have hnc17 := NB329_335.out
    have hcz18_0 : w11.cell? ⟨gb335, 0, none⟩ = some (.int .i64 0) := bc BK335 0
    have hcz18_1 : w11.cell? ⟨gb335, 1, none⟩ = some (.slice none 0 0) := bc BK335 1
    have hfz18_0 := blk_frozen BK335.out 0; have hfz18_1 := blk_frozen BK335.out 1
    have hcz19_0 : w11.cell? ⟨gb329, 0, none⟩ = some (.int .i64 t324) := bc BK329 0
    have hcz19_1 : w11.cell? ⟨gb329, 1, none⟩ = some (.slice Ao9 t325.length co9) := bc BK329 1
    have hfz19_0 := blk_frozen BK329.out 0; have hfz19_1 := blk_frozen BK329.out 1
    go_wp2_with (first | ((with_reducible refine gate_callee (f := 10) rfl ?_); refine goesL_ (some 26) rfl rfl Tryd.func10 (by kernel_rfl) rfl #[.agg #[.int .i64 t330, .slice Ao14 t331.length co14], .agg #[.int .i64 t324, .slice Ao9 t325.length co9]] rfl lz ?_; (with_reducible refine (laws_eqAlphabet.calls k t330 _ _ t331 t324 _ _ t325 true _ ?side1 ?side2 ?side3 ?side4 A15.out).mono ?_); (case side1 => refine (Kd.R_reads' (e := 2) (base := w.heap.size) (ok := fun k_ => (True ∧ some k_ ≠ (.slice Ao9 t325.length co9 : Value).ownBlock)) (n := t331.length) (c := co14) ?_).2.2; exact (by (with_reducible repeat (first | apply Kd.R_alloc | apply Kd.R_drewN | apply Kd.R_drew)); exact (Kd.R_mono (Kd.R_far (p := ⟨gb335, 1, none⟩) (Kd.R_far (p := ⟨gb335, 0, none⟩) (Kd.R_types HO333.out BK335.out (by decide)) (fun _ hk => hk.2) (.int .i64 t330)) (fun _ hk => hk.2) (.slice Ao14 t331.length co14)) (fun _ h_ => h_.1)))); (case side2 => exact (Kd.R_reads' HO333.out).2.1); (case side3 => refine (Kd.R_reads' (e := 2) (base := w.heap.size) (ok := fun k_ => (True ∧ some k_ ≠ (.slice Ao14 t331.length co14 : Value).ownBlock)) (n := t325.length) (c := co9) ?_).2.2; exact (by (with_reducible repeat (first | apply Kd.R_alloc | apply Kd.R_drewN | apply Kd.R_drew)); exact (Kd.R_mono (Kd.R_far (p := ⟨gb335, 1, none⟩) (Kd.R_far (p := ⟨gb335, 0, none⟩) (Kd.R_types HO327.out BK335.out (by decide)) (fun _ hk => hk.2) (.int .i64 t330)) (fun _ hk => hk.2) (.slice Ao14 t331.length co14)) (fun _ h_ => h_.1)))); (case side4 => exact (Kd.R_reads' HO327.out).2.1); rintro e w20 ⟨rfl, hb⟩; refine ⟨_, rfl, ?_⟩; replace HO327 := Aside0.mk (Kd.R_below (by (with_reducible repeat (first | apply Kd.R_alloc | apply Kd.R_drewN | apply Kd.R_drew)); exact (Kd.R_mono (Kd.R_far (p := ⟨gb335, 1, none⟩) (Kd.R_far (p := ⟨gb335, 0, none⟩) (Kd.R_types HO327.out BK335.out (by decide)) (fun _ hk => hk.2) (.int .i64 t330)) (fun _ hk => hk.2) (.slice Ao14 t331.length co14)) (fun _ h_ => h_.1))) hb); replace HO333 := Aside0.mk (Kd.R_below (by (with_reducible repeat (first | apply Kd.R_alloc | apply Kd.R_drewN | apply Kd.R_drew)); exact (Kd.R_mono (Kd.R_far (p := ⟨gb335, 1, none⟩) (Kd.R_far (p := ⟨gb335, 0, none⟩) (Kd.R_types HO333.out BK335.out (by decide)) (fun _ hk => hk.2) (.int .i64 t330)) (fun _ hk => hk.2) (.slice Ao14 t331.length co14)) (fun _ h_ => h_.1))) hb); replace BK329 := Aside0.mk (blk_below (blkF BK329) hb); replace BK335 := Aside0.mk (blk_below (g := gb335) (o := .cells #[.int .i64 t330, .slice Ao14 t331.length co14] 28 (0, 0)) (by (with_reducible repeat (first | refine blk_drewN ?_ _ | refine blk_drew ?_ | refine blk_alloc ?_ _)); refine blk_put (cs := #[.int .i64 t330, .slice none 0 0]) ?_ 1 _ rfl; (with_reducible repeat (first | refine blk_drewN ?_ _ | refine blk_drew ?_ | refine blk_alloc ?_ _)); refine blk_put (cs := #[.int .i64 0, .slice none 0 0]) ?_ 0 _ rfl; (with_reducible repeat (first | refine blk_drewN ?_ _ | refine blk_drew ?_ | refine blk_alloc ?_ _)); exact BK335.out) hb); replace HB := Aside0.mk (below_step (beQ HB) hb); (try clear hb); (try clear hb2); (try clear hk); (try clear hi); (try clear hgw_)))
    go_meet
    case rel => exact ⟨_, ((t334 != t328)), sz, H', ⟨by first | omega | exact Nat.le_refl _⟩, ⟨by (with_reducible repeat (first | apply Kd.R_alloc | apply Kd.R_drewN | apply Kd.R_drew)); exact Kd.R_mono HO327.out (fun _ hk => hk.2)⟩, ⟨by (with_reducible repeat (first | apply Kd.R_alloc | apply Kd.R_drewN | apply Kd.R_drew)); exact Kd.R_mono HO333.out (fun _ hk => hk.2)⟩, ⟨blkQ BK329⟩, ⟨blkQ BK335⟩, ⟨beQ HB⟩⟩
   ·replace c16 := Bool.eq_false_iff.mpr c16
    subst c16
    have H1 : (laws_FnExactParseAlphabet.j0 k a0 t328 true t324 t325 t330 t331) = some r := by rw [if_neg (show ¬ (false = true) by decide)] at H; exact H
    clear H; have H := H1; clear H1
    have H' := Aside0.mk H
    clear H; have hnb21 := NB335_329.out; have hnc21 := NB329_335.out
    have hcz22_0 : w11.cell? ⟨gb335, 0, none⟩ = some (.int .i64 0) := bc BK335 0
    have hcz22_1 : w11.cell? ⟨gb335, 1, none⟩ = some (.slice none 0 0) := bc BK335 1
    have hfz22_0 := blk_frozen BK335.out 0; have hfz22_1 := blk_frozen BK335.out 1
    have hcz23_0 : w11.cell? ⟨gb329, 0, none⟩ = some (.int .i64 t324) := bc BK329 0
    have hcz23_1 : w11.cell? ⟨gb329, 1, none⟩ = some (.slice Ao9 t325.length co9) := bc BK329 1
    have hfz23_0 := blk_frozen BK329.out 0; have hfz23_1 := blk_frozen BK329.out 1
    go_wp2_with (first | ((with_reducible refine gate_callee (f := 10) rfl ?_); refine goesL_ (some 26) rfl rfl Tryd.func10 (by kernel_rfl) rfl #[.agg #[.int .i64 t330, .slice Ao14 t331.length co14], .agg #[.int .i64 t324, .slice Ao9 t325.length co9]] rfl lz ?_; (with_reducible refine (laws_eqAlphabet.calls k t330 _ _ t331 t324 _ _ t325 false _ ?side1 ?side2 ?side3 ?side4 A15.out).mono ?_); (case side1 => refine (Kd.R_reads' (e := 2) (base := w.heap.size) (ok := fun k_ => (True ∧ some k_ ≠ (.slice Ao9 t325.length co9 : Value).ownBlock)) (n := t331.length) (c := co14) ?_).2.2; exact (by (with_reducible repeat (first | apply Kd.R_alloc | apply Kd.R_drewN | apply Kd.R_drew)); exact (Kd.R_mono (Kd.R_far (p := ⟨gb335, 1, none⟩) (Kd.R_far (p := ⟨gb335, 0, none⟩) (Kd.R_types HO333.out BK335.out (by decide)) (fun _ hk => hk.2) (.int .i64 t330)) (fun _ hk => hk.2) (.slice Ao14 t331.length co14)) (fun _ h_ => h_.1)))); (case side2 => exact (Kd.R_reads' HO333.out).2.1); (case side3 => refine (Kd.R_reads' (e := 2) (base := w.heap.size) (ok := fun k_ => (True ∧ some k_ ≠ (.slice Ao14 t331.length co14 : Value).ownBlock)) (n := t325.length) (c := co9) ?_).2.2; exact (by (with_reducible repeat (first | apply Kd.R_alloc | apply Kd.R_drewN | apply Kd.R_drew)); exact (Kd.R_mono (Kd.R_far (p := ⟨gb335, 1, none⟩) (Kd.R_far (p := ⟨gb335, 0, none⟩) (Kd.R_types HO327.out BK335.out (by decide)) (fun _ hk => hk.2) (.int .i64 t330)) (fun _ hk => hk.2) (.slice Ao14 t331.length co14)) (fun _ h_ => h_.1)))); (case side4 => exact (Kd.R_reads' HO327.out).2.1); rintro e w24 ⟨rfl, hb⟩; refine ⟨_, rfl, ?_⟩; replace HO327 := Aside0.mk (Kd.R_below (by (with_reducible repeat (first | apply Kd.R_alloc | apply Kd.R_drewN | apply Kd.R_drew)); exact (Kd.R_mono (Kd.R_far (p := ⟨gb335, 1, none⟩) (Kd.R_far (p := ⟨gb335, 0, none⟩) (Kd.R_types HO327.out BK335.out (by decide)) (fun _ hk => hk.2) (.int .i64 t330)) (fun _ hk => hk.2) (.slice Ao14 t331.length co14)) (fun _ h_ => h_.1))) hb); replace HO333 := Aside0.mk (Kd.R_below (by (with_reducible repeat (first | apply Kd.R_alloc | apply Kd.R_drewN | apply Kd.R_drew)); exact (Kd.R_mono (Kd.R_far (p := ⟨gb335, 1, none⟩) (Kd.R_far (p := ⟨gb335, 0, none⟩) (Kd.R_types HO333.out BK335.out (by decide)) (fun _ hk => hk.2) (.int .i64 t330)) (fun _ hk => hk.2) (.slice Ao14 t331.length co14)) (fun _ h_ => h_.1))) hb); replace BK329 := Aside0.mk (blk_below (blkF BK329) hb); replace BK335 := Aside0.mk (blk_below (g := gb335) (o := .cells #[.int .i64 t330, .slice Ao14 t331.length co14] 28 (0, 0)) (by (with_reducible repeat (first | refine blk_drewN ?_ _ | refine blk_drew ?_ | refine blk_alloc ?_ _)); refine blk_put (cs := #[.int .i64 t330, .slice none 0 0]) ?_ 1 _ rfl; (with_reducible repeat (first | refine blk_drewN ?_ _ | refine blk_drew ?_ | refine blk_alloc ?_ _)); refine blk_put (cs := #[.int .i64 0, .slice none 0 0]) ?_ 0 _ rfl; (with_reducible repeat (first | refine blk_drewN ?_ _ | refine blk_drew ?_ | refine blk_alloc ?_ _)); exact BK335.out) hb); replace HB := Aside0.mk (below_step (beQ HB) hb); (try clear hb); (try clear hb2); (try clear hk); (try clear hi); (try clear hgw_)))
    go_meet
    case rel => exact ⟨_, (true), sz, H', ⟨by first | omega | exact Nat.le_refl _⟩, ⟨by (with_reducible repeat (first | apply Kd.R_alloc | apply Kd.R_drewN | apply Kd.R_drew)); exact Kd.R_mono HO327.out (fun _ hk => hk.2)⟩, ⟨by (with_reducible repeat (first | apply Kd.R_alloc | apply Kd.R_drewN | apply Kd.R_drew)); exact Kd.R_mono HO333.out (fun _ hk => hk.2)⟩, ⟨blkQ BK329⟩, ⟨blkQ BK335⟩, ⟨beQ HB⟩⟩
  case rest =>
   clear HC5
   try clear c1
   try clear c2
   try clear c2b0
   try clear c2b1
   try clear p2
   try clear c4
   try clear c10
   try clear c11
   try clear c12
   try clear c16
   try clear c17
   try clear c21
   try clear hcz13_0
   try clear hcz13_1
   try clear hcz18_0
   try clear hcz18_1
   try clear hcz19_0
   try clear hcz19_1
   try clear hcz22_0
   try clear hcz22_1
   try clear hcz23_0
   try clear hcz23_1
   try clear hcz8_0
   try clear hcz8_1
   try clear hfz13_0
   try clear hfz13_1
   try clear hfz18_0
   try clear hfz18_1
   try clear hfz19_0
   try clear hfz19_1
   try clear hfz22_0
   try clear hfz22_1
   try clear hfz23_0
   try clear hfz23_1
   try clear hfz8_0
   try clear hfz8_1
   obtain ⟨kq, x32_4, rfl, HA, HJ4, HO_330001, HO_336001, BK329, BK335, HB⟩ := hcut
   cases kq with
   | zero => exact absurd HA.out (by simp [laws_FnExactParseAlphabet.j0])
   | succ kj4 =>
    have H := HA.out; clear HA
    simp only [laws_FnExactParseAlphabet.j0] at H
    by_cases c25 : x32_4 = true
    ·subst c25
     have H1 : (some false) = some r := by rw [if_pos rfl] at H; exact H
     clear H; have H := H1; clear H1
     obtain rfl := Option.some.inj H
     go_wp2
     go_ret
     exact ⟨rz, beQ HB⟩
    ·replace c25 := Bool.eq_false_iff.mpr c25
     subst c25
     have H1 : ((laws_markAlphabet.f kj4 t330 t331 1).bind fun bt337 => ((laws_heldAlphabet.f kj4 t330 bt337.2 1).bind fun t339 => (if t339 < 0 then (some false) else (if t339 = bt337.1 then ((impl_ParseAlphabet.f kj4 a0).bind fun bt340 => ((laws_eqAlphabet.f kj4 bt340.1 bt340.2.1 t324 t325).bind fun t346 => (if t346 = true then (laws_FnExactParseAlphabet.j1 kj4 bt337.1 (bt340.2.2 != t328) t330 bt337.2) else (laws_FnExactParseAlphabet.j1 kj4 bt337.1 true t330 bt337.2)))) else (some false))))) = some r := by rw [if_neg (show ¬ (false = true) by decide)] at H; exact H
     clear H; have H := H1; clear H1; replace H := Option.bind_eq_some_iff.mp H
     obtain ⟨⟨t337, t338⟩, A260, H⟩ := H
     replace H : ((laws_heldAlphabet.f kj4 t330 t338 1).bind fun t339 => (if t339 < 0 then (some false) else (if t339 = t337 then ((impl_ParseAlphabet.f kj4 a0).bind fun bt340 => ((laws_eqAlphabet.f kj4 bt340.1 bt340.2.1 t324 t325).bind fun t346 => (if t346 = true then (laws_FnExactParseAlphabet.j1 kj4 t337 (bt340.2.2 != t328) t330 t338) else (laws_FnExactParseAlphabet.j1 kj4 t337 true t330 t338)))) else (some false)))) = some r := H
     have A26 := Aside0.mk A260; clear A260; replace H := Option.bind_eq_some_iff.mp H; obtain ⟨t339, A270, H⟩ := H
     replace H : (if t339 < 0 then (some false) else (if t339 = t337 then ((impl_ParseAlphabet.f kj4 a0).bind fun bt340 => ((laws_eqAlphabet.f kj4 bt340.1 bt340.2.1 t324 t325).bind fun t346 => (if t346 = true then (laws_FnExactParseAlphabet.j1 kj4 t337 (bt340.2.2 != t328) t330 t338) else (laws_FnExactParseAlphabet.j1 kj4 t337 true t330 t338)))) else (some false))) = some r := H
     have A27 := Aside0.mk A270; clear A270
     by_cases c28 : t339 < 0
     ·rw [if_pos c28] at H
      have c28b0 : decide (t339 < 0) = true := decide_eq_true c28
      clear c28
      obtain rfl := Option.some.inj H
      have hnb29 := NB335_329.out; have hnc29 := NB329_335.out
      have hcz30_0 : wc.cell? ⟨gb335, 0, none⟩ = some (.int .i64 t330) := bc BK335 0
      have hcz30_1 : wc.cell? ⟨gb335, 1, none⟩ = some (.slice Ao14 t331.length co14) := bc BK335 1
      have hfz30_0 := blk_frozen BK335.out 0; have hfz30_1 := blk_frozen BK335.out 1
      go_wp2_with (first | ((with_reducible refine gate_callee (f := 13) rfl ?_); refine goesL_ (some 35) rfl rfl Tryd.func13 (by kernel_rfl) rfl #[.agg #[.int .i64 t330, .slice Ao14 t331.length co14], .int .i64 1] rfl lz ?_; (with_reducible refine (laws_markAlphabet.calls kj4 t330 (fun k_ => some k_ = (.slice Ao14 t331.length co14 : Value).ownBlock) (.slice Ao14 t331.length co14) t331 1 t337 t338 w _ ?side1 ?side2 A26.out).mono ?_); (case side1 => repeat (first | (with_reducible first | exact HB.out | apply below_alloc | apply pw_below_drewN | apply below_drew1 | refine below_set ?_ GE329.out | refine below_set ?_ GE335.out) | exact HB.out)); (case side2 => exact Kd.R_tight rfl HO_336001.out); rintro e w31 ⟨rfl, hy0, hb, hkp⟩; refine ⟨_, rfl, ?_⟩; replace HO_330001 := Aside0.mk (Kd.R_mono (ok' := fun k_ => some k_ ≠ (.slice Ao14 t331.length co14 : Value).ownBlock) (Kd.R_keptB (HO_330001.out) hkp (fun k_ hk_ hs_ => (hk_) hs_)) (fun k_ hk_ => hk_.1)); replace BK329 := Aside0.mk (blk_kept (blkQ BK329) hkp (fun hs_ => (fun e_ => (Kd.R_ne HO_336001.out BK329.out (by decide)) e_) hs_)); replace BK335 := Aside0.mk (blk_kept (blkQ BK335) hkp (fun hs_ => (fun e_ => (Kd.R_ne HO_336001.out BK335.out (by decide)) e_) hs_)); replace HO_336001 := Aside0.mk (Kd.R_reok rfl hy0 (fun k_ e_ => HO_336001.out.1 k_ e_)); replace HB := Aside0.mk (hb); (try clear hb); (try clear hkp); (try clear hy0); have hcz32_0 : w31.cell? ⟨gb335, 0, none⟩ = some (.int .i64 t330) := bc BK335 0; have hcz32_1 : w31.cell? ⟨gb335, 1, none⟩ = some (.slice Ao14 t331.length co14) := bc BK335 1; have hfz32_0 := blk_frozen BK335.out 0; have hfz32_1 := blk_frozen BK335.out 1) | ((with_reducible refine gate_callee (f := 14) rfl ?_); refine goesL_ (some 38) rfl rfl Tryd.func14 (by kernel_rfl) rfl #[.agg #[.int .i64 t330, .slice Ao14 t338.length co14], .int .i64 1] rfl (by (try simp only [List.map_toArray, List.map_cons, List.map_nil]); first | done | (rw [show t338.length = t331.length from (Kd.R_reads' HO_336001.out).1.symm] <;> rfl) | rfl | (simp only [List.length_drop, List.length_take]; rfl)) ?_; (with_reducible refine (laws_heldAlphabet.calls kj4 t330 _ _ t338 1 t339 _ ?side1 ?side2 A27.out).mono ?_); (case side1 => have q_ := Aside0.mk (Kd.R_reads' HO_336001.out).2.2; exact cQ q_); (case side2 => rw [show t338.length = t331.length from (Kd.R_reads' HO_336001.out).1.symm]; exact (Kd.R_reads' HO_336001.out).2.1); rintro e w33 ⟨rfl, hb⟩; refine ⟨_, rfl, ?_⟩; replace HO_330001 := kb HO_330001 hb; replace HO_336001 := kb HO_336001 hb; replace BK329 := bb BK329 hb; replace BK335 := bb BK335 hb; replace HB := Aside0.mk (below_step (beQ HB) hb); (try clear hb); (try clear hb2); (try clear hk); (try clear hi); (try clear hgw_)))
      go_ret
      exact ⟨rz, beQ HB⟩
     ·rw [if_neg c28] at H
      have c28b0 : decide (t339 < 0) = false := decide_eq_false c28
      clear c28
      by_cases c34 : t339 = t337
      ·rw [if_pos c34] at H
       have c34b0 : (t339 == t337) = true := beq_iff_eq.mpr c34
       have c34b1 : (t339 != t337) = false := bne_eq_false_iff_eq.mpr c34
       clear c34; replace H := Option.bind_eq_some_iff.mp H
       obtain ⟨⟨t340, t341, t344⟩, A350, H⟩ := H
       replace H : ((laws_eqAlphabet.f kj4 t340 t341 t324 t325).bind fun t346 => (if t346 = true then (laws_FnExactParseAlphabet.j1 kj4 t337 (t344 != t328) t330 t338) else (laws_FnExactParseAlphabet.j1 kj4 t337 true t330 t338))) = some r := H
       have A35 := Aside0.mk A350; clear A350; have HC36 := Aside0.mk H; clear H; have hnb37 := NB335_329.out; have hnc37 := NB329_335.out
       have hcz38_0 : wc.cell? ⟨gb335, 0, none⟩ = some (.int .i64 t330) := bc BK335 0
       have hcz38_1 : wc.cell? ⟨gb335, 1, none⟩ = some (.slice Ao14 t331.length co14) := bc BK335 1
       have hfz38_0 := blk_frozen BK335.out 0; have hfz38_1 := blk_frozen BK335.out 1
       go_upto_region 16 with (first | ((with_reducible refine gate_callee (f := 13) rfl ?_); refine goesL_ (some 35) rfl rfl Tryd.func13 (by kernel_rfl) rfl #[.agg #[.int .i64 t330, .slice Ao14 t331.length co14], .int .i64 1] rfl lz ?_; (with_reducible refine (laws_markAlphabet.calls kj4 t330 (fun k_ => some k_ = (.slice Ao14 t331.length co14 : Value).ownBlock) (.slice Ao14 t331.length co14) t331 1 t337 t338 w _ ?side1 ?side2 A26.out).mono ?_); (case side1 => repeat (first | (with_reducible first | exact HB.out | apply below_alloc | apply pw_below_drewN | apply below_drew1 | refine below_set ?_ GE329.out | refine below_set ?_ GE335.out) | exact HB.out)); (case side2 => exact Kd.R_tight rfl HO_336001.out); rintro e w39 ⟨rfl, hy0, hb, hkp⟩; refine ⟨_, rfl, ?_⟩; replace HO_330001 := Aside0.mk (Kd.R_mono (ok' := fun k_ => some k_ ≠ (.slice Ao14 t331.length co14 : Value).ownBlock) (Kd.R_keptB (HO_330001.out) hkp (fun k_ hk_ hs_ => (hk_) hs_)) (fun k_ hk_ => hk_.1)); replace BK329 := Aside0.mk (blk_kept (blkQ BK329) hkp (fun hs_ => (fun e_ => (Kd.R_ne HO_336001.out BK329.out (by decide)) e_) hs_)); replace BK335 := Aside0.mk (blk_kept (blkQ BK335) hkp (fun hs_ => (fun e_ => (Kd.R_ne HO_336001.out BK335.out (by decide)) e_) hs_)); replace HO_336001 := Aside0.mk (Kd.R_reok rfl hy0 (fun k_ e_ => HO_336001.out.1 k_ e_)); replace HB := Aside0.mk (hb); (try clear hb); (try clear hkp); (try clear hy0); have hcz40_0 : w39.cell? ⟨gb335, 0, none⟩ = some (.int .i64 t330) := bc BK335 0; have hcz40_1 : w39.cell? ⟨gb335, 1, none⟩ = some (.slice Ao14 t331.length co14) := bc BK335 1; have hfz40_0 := blk_frozen BK335.out 0; have hfz40_1 := blk_frozen BK335.out 1) | ((with_reducible refine gate_callee (f := 14) rfl ?_); refine goesL_ (some 38) rfl rfl Tryd.func14 (by kernel_rfl) rfl #[.agg #[.int .i64 t330, .slice Ao14 t338.length co14], .int .i64 1] rfl (by (try simp only [List.map_toArray, List.map_cons, List.map_nil]); first | done | (rw [show t338.length = t331.length from (Kd.R_reads' HO_336001.out).1.symm] <;> rfl) | rfl | (simp only [List.length_drop, List.length_take]; rfl)) ?_; (with_reducible refine (laws_heldAlphabet.calls kj4 t330 _ _ t338 1 t339 _ ?side1 ?side2 A27.out).mono ?_); (case side1 => have q_ := Aside0.mk (Kd.R_reads' HO_336001.out).2.2; exact cQ q_); (case side2 => rw [show t338.length = t331.length from (Kd.R_reads' HO_336001.out).1.symm]; exact (Kd.R_reads' HO_336001.out).2.1); rintro e w41 ⟨rfl, hb⟩; refine ⟨_, rfl, ?_⟩; replace HO_330001 := kb HO_330001 hb; replace HO_336001 := kb HO_336001 hb; replace BK329 := bb BK329 hb; replace BK335 := bb BK335 hb; replace HB := Aside0.mk (below_step (beQ HB) hb); (try clear hb); (try clear hb2); (try clear hk); (try clear hi); (try clear hgw_)) | ((with_reducible refine gate_callee (f := 12) rfl ?_); refine goesL_ (some 46) rfl rfl Tryd.func12 (by kernel_rfl) rfl #[.string a0] rfl lz ?_; (with_reducible refine (impl_ParseAlphabet.calls kj4 a0 t340 t341 t344 _ A35.out).mono ?_); rintro e w42 ⟨v342, rfl, ho0, hb⟩; refine ⟨_, rfl, ?_⟩; have HO343 := Aside0.mk (Kd.R_lower (Kd.R_new' (Kd.R_new' ho0 (Kd.R_lt (kdQ HO_330001))) (Kd.R_lt (kdQ HO_336001))) (below_size (beQ HB))); replace HO_330001 := Aside0.mk (Kd.R_elder' (kdQ HO_330001) (Kd.R_base ho0) hb); replace HO_336001 := Aside0.mk (Kd.R_elder' (kdQ HO_336001) (Kd.R_base ho0) hb); replace BK329 := bb BK329 hb; replace BK335 := bb BK335 hb; replace HB := Aside0.mk (below_step (beQ HB) hb); (try clear hb); (try clear hb2); (try clear hk); (try clear hi); (try clear hgw_); (try clear ho0)) | ((with_reducible refine gate_dst (N := 9) rfl ?_); refine box_event ?hg (N := 9) ?hd (cs := #[.int .i64 0, .slice none 0 0]) (t := 28) ?hr ?_; (case hd => rfl); (case hg => rfl); (case hr => first | (go_simp; done) | (go_simp; rfl)); intro gb345 hg w43 hbox hb; replace HO_330001 := kb HO_330001 hb; replace HO_336001 := kb HO_336001 hb; replace HO343 := kb HO343 hb; have BK345 := Aside0.mk (hbox); have GW345 := Aside0.mk ((by rw [hg]; exact (below_size (beQ HB)) : w.heap.size ≤ gb345)); have GE345 := Aside0.mk ((by rw [hg]; exact (below_size (beQ HB)) : w.heap.size ≤ gb345)); replace HB := Aside0.mk (below_step (beQ HB) hb); have NB329_345 := Aside0.mk ((by rw [hg]; exact Nat.ne_of_lt (blk_lt (blkQ BK329)) : gb329 ≠ gb345)); have NB345_329 := Aside0.mk ((by rw [hg]; exact Nat.ne_of_gt (blk_lt (blkQ BK329)) : gb345 ≠ gb329)); replace BK329 := bb BK329 hb; have NB335_345 := Aside0.mk ((by rw [hg]; exact Nat.ne_of_lt (blk_lt (blkQ BK335)) : gb335 ≠ gb345)); have NB345_335 := Aside0.mk ((by rw [hg]; exact Nat.ne_of_gt (blk_lt (blkQ BK335)) : gb345 ≠ gb335)); replace BK335 := bb BK335 hb; clear hb hbox hg; have hnb44 := NB345_329.out; have hnc44 := NB329_345.out; have hnb45 := NB345_335.out; have hnc45 := NB335_345.out; have hcz46_0 : w43.cell? ⟨gb345, 0, none⟩ = some (.int .i64 0) := bc BK345 0; have hcz46_1 : w43.cell? ⟨gb345, 1, none⟩ = some (.slice none 0 0) := bc BK345 1; have hfz46_0 := blk_frozen BK345.out 0; have hfz46_1 := blk_frozen BK345.out 1; obtain ⟨Ao47, co47, eo47⟩ := Kd.R_slice HO343.out; subst eo47))
       (try simp only [Act.put, List.setIfInBounds_toArray, List.set_cons_zero, List.set_cons_succ])
       go_cut [57] (fun v57 wc => ∃ (kq : Nat) (x57_35 : Bool), v57 = .bool x57_35 ∧ Aside0 (laws_FnExactParseAlphabet.j1 kq t337 x57_35 t330 t338 = some r) ∧ Aside0 (kq ≤ kj4) ∧ Aside0 (Kd.R (Kd.int .i64) 2 wc w.heap.size (fun k_ => some k_ ≠ ((.slice Ao14 t331.length co14) : Value).ownBlock ∧ some k_ ≠ ((.slice Ao47 t341.length co47) : Value).ownBlock) (.slice Ao9 t325.length co9) t325) ∧ Aside0 (Kd.R (Kd.int .i64) 2 wc w.heap.size (fun k_ => some k_ ≠ ((.slice Ao9 t325.length co9) : Value).ownBlock ∧ some k_ ≠ ((.slice Ao47 t341.length co47) : Value).ownBlock) (.slice Ao14 t331.length co14) t338) ∧ Aside0 (Kd.R (Kd.int .i64) 2 wc w.heap.size (fun k_ => some k_ ≠ ((.slice Ao9 t325.length co9) : Value).ownBlock ∧ some k_ ≠ ((.slice Ao14 t331.length co14) : Value).ownBlock) (.slice Ao47 t341.length co47) t341) ∧ Aside0 (wc.heap[gb329]? = some (.cells #[.int .i64 t324, (.slice Ao9 t325.length co9)] 28 (0, 0))) ∧ Aside0 (wc.heap[gb335]? = some (.cells #[.int .i64 t330, (.slice Ao14 t331.length co14)] 28 (0, 0))) ∧ Aside0 (wc.heap[gb345]? = some (.cells #[.int .i64 t340, (.slice Ao47 t341.length co47)] 28 (0, 0))) ∧ Aside0 (Below w.heap.size w wc))
       case first =>
        have H := HC36.out; clear HC36; replace H := Option.bind_eq_some_iff.mp H; obtain ⟨t346, A480, H⟩ := H
        replace H : (if t346 = true then (laws_FnExactParseAlphabet.j1 kj4 t337 (t344 != t328) t330 t338) else (laws_FnExactParseAlphabet.j1 kj4 t337 true t330 t338)) = some r := H
        have A48 := Aside0.mk A480; clear A480
        by_cases c49 : t346 = true
        ·subst c49
         have H1 : (laws_FnExactParseAlphabet.j1 kj4 t337 (t344 != t328) t330 t338) = some r := by rw [if_pos rfl] at H; exact H
         clear H; have H := H1; clear H1
         have H' := Aside0.mk H
         clear H; have hnb50 := NB345_329.out; have hnc50 := NB329_345.out; have hnb51 := NB345_335.out; have hnc51 := NB335_345.out
         have hcz52_0 : w43.cell? ⟨gb345, 0, none⟩ = some (.int .i64 0) := bc BK345 0
         have hcz52_1 : w43.cell? ⟨gb345, 1, none⟩ = some (.slice none 0 0) := bc BK345 1
         have hfz52_0 := blk_frozen BK345.out 0; have hfz52_1 := blk_frozen BK345.out 1; have hnb53 := NB329_335.out; have hnc53 := NB335_329.out
         have hcz54_0 : w43.cell? ⟨gb329, 0, none⟩ = some (.int .i64 t324) := bc BK329 0
         have hcz54_1 : w43.cell? ⟨gb329, 1, none⟩ = some (.slice Ao9 t325.length co9) := bc BK329 1
         have hfz54_0 := blk_frozen BK329.out 0; have hfz54_1 := blk_frozen BK329.out 1
         go_wp2_with (first | ((with_reducible refine gate_callee (f := 10) rfl ?_); refine goesL_ (some 51) rfl rfl Tryd.func10 (by kernel_rfl) rfl #[.agg #[.int .i64 t340, .slice Ao47 t341.length co47], .agg #[.int .i64 t324, .slice Ao9 t325.length co9]] rfl lz ?_; (with_reducible refine (laws_eqAlphabet.calls kj4 t340 _ _ t341 t324 _ _ t325 true _ ?side1 ?side2 ?side3 ?side4 A48.out).mono ?_); (case side1 => refine (Kd.R_reads' (e := 2) (base := w.heap.size) (ok := fun k_ => ((True ∧ some k_ ≠ (.slice Ao9 t325.length co9 : Value).ownBlock) ∧ some k_ ≠ (.slice Ao14 t331.length co14 : Value).ownBlock)) (n := t341.length) (c := co47) ?_).2.2; exact (by (with_reducible repeat (first | apply Kd.R_alloc | apply Kd.R_drewN | apply Kd.R_drew)); exact (Kd.R_mono (Kd.R_far (p := ⟨gb345, 1, none⟩) (Kd.R_far (p := ⟨gb345, 0, none⟩) (Kd.R_types HO343.out BK345.out (by decide)) (fun _ hk => hk.2) (.int .i64 t340)) (fun _ hk => hk.2) (.slice Ao47 t341.length co47)) (fun _ h_ => h_.1)))); (case side2 => exact (Kd.R_reads' HO343.out).2.1); (case side3 => refine (Kd.R_reads' (e := 2) (base := w.heap.size) (ok := fun k_ => (some k_ ≠ (.slice Ao14 t331.length co14 : Value).ownBlock ∧ some k_ ≠ (.slice Ao47 t341.length co47 : Value).ownBlock)) (n := t325.length) (c := co9) ?_).2.2; exact (by (with_reducible repeat (first | apply Kd.R_alloc | apply Kd.R_drewN | apply Kd.R_drew)); exact (Kd.R_mono (Kd.R_far (p := ⟨gb345, 1, none⟩) (Kd.R_far (p := ⟨gb345, 0, none⟩) (Kd.R_types HO_330001.out BK345.out (by decide)) (fun _ hk => hk.2) (.int .i64 t340)) (fun _ hk => hk.2) (.slice Ao47 t341.length co47)) (fun _ h_ => h_.1)))); (case side4 => exact (Kd.R_reads' HO_330001.out).2.1); rintro e w55 ⟨rfl, hb⟩; refine ⟨_, rfl, ?_⟩; replace HO_330001 := Aside0.mk (Kd.R_below (by (with_reducible repeat (first | apply Kd.R_alloc | apply Kd.R_drewN | apply Kd.R_drew)); exact (Kd.R_mono (Kd.R_far (p := ⟨gb345, 1, none⟩) (Kd.R_far (p := ⟨gb345, 0, none⟩) (Kd.R_types HO_330001.out BK345.out (by decide)) (fun _ hk => hk.2) (.int .i64 t340)) (fun _ hk => hk.2) (.slice Ao47 t341.length co47)) (fun _ h_ => h_.1))) hb); replace HO_336001 := Aside0.mk (Kd.R_below (by (with_reducible repeat (first | apply Kd.R_alloc | apply Kd.R_drewN | apply Kd.R_drew)); exact (Kd.R_mono (Kd.R_far (p := ⟨gb345, 1, none⟩) (Kd.R_far (p := ⟨gb345, 0, none⟩) (Kd.R_types HO_336001.out BK345.out (by decide)) (fun _ hk => hk.2) (.int .i64 t340)) (fun _ hk => hk.2) (.slice Ao47 t341.length co47)) (fun _ h_ => h_.1))) hb); replace HO343 := Aside0.mk (Kd.R_below (by (with_reducible repeat (first | apply Kd.R_alloc | apply Kd.R_drewN | apply Kd.R_drew)); exact (Kd.R_mono (Kd.R_far (p := ⟨gb345, 1, none⟩) (Kd.R_far (p := ⟨gb345, 0, none⟩) (Kd.R_types HO343.out BK345.out (by decide)) (fun _ hk => hk.2) (.int .i64 t340)) (fun _ hk => hk.2) (.slice Ao47 t341.length co47)) (fun _ h_ => h_.1))) hb); replace BK329 := Aside0.mk (blk_below (blkF BK329) hb); replace BK335 := Aside0.mk (blk_below (blkF BK335) hb); replace BK345 := Aside0.mk (blk_below (g := gb345) (o := .cells #[.int .i64 t340, .slice Ao47 t341.length co47] 28 (0, 0)) (by (with_reducible repeat (first | refine blk_drewN ?_ _ | refine blk_drew ?_ | refine blk_alloc ?_ _)); refine blk_put (cs := #[.int .i64 t340, .slice none 0 0]) ?_ 1 _ rfl; (with_reducible repeat (first | refine blk_drewN ?_ _ | refine blk_drew ?_ | refine blk_alloc ?_ _)); refine blk_put (cs := #[.int .i64 0, .slice none 0 0]) ?_ 0 _ rfl; (with_reducible repeat (first | refine blk_drewN ?_ _ | refine blk_drew ?_ | refine blk_alloc ?_ _)); exact BK345.out) hb); replace HB := Aside0.mk (below_step (beQ HB) hb); (try clear hb); (try clear hb2); (try clear hk); (try clear hi); (try clear hgw_)))
         go_meet
         case rel => exact ⟨_, ((t344 != t328)), sz, H', ⟨by have := HJ4.out; first | omega | exact Nat.le_refl _⟩, ⟨kdQ HO_330001⟩, ⟨kdQ HO_336001⟩, ⟨by (with_reducible repeat (first | apply Kd.R_alloc | apply Kd.R_drewN | apply Kd.R_drew)); exact Kd.R_mono HO343.out (fun _ hk => ⟨hk.1.2, hk.2⟩)⟩, ⟨blkQ BK329⟩, ⟨blkQ BK335⟩, ⟨blkQ BK345⟩, ⟨beQ HB⟩⟩
        ·replace c49 := Bool.eq_false_iff.mpr c49
         subst c49
         have H1 : (laws_FnExactParseAlphabet.j1 kj4 t337 true t330 t338) = some r := by rw [if_neg (show ¬ (false = true) by decide)] at H; exact H
         clear H; have H := H1; clear H1
         have H' := Aside0.mk H
         clear H; have hnb56 := NB345_329.out; have hnc56 := NB329_345.out; have hnb57 := NB345_335.out; have hnc57 := NB335_345.out
         have hcz58_0 : w43.cell? ⟨gb345, 0, none⟩ = some (.int .i64 0) := bc BK345 0
         have hcz58_1 : w43.cell? ⟨gb345, 1, none⟩ = some (.slice none 0 0) := bc BK345 1
         have hfz58_0 := blk_frozen BK345.out 0; have hfz58_1 := blk_frozen BK345.out 1; have hnb59 := NB329_335.out; have hnc59 := NB335_329.out
         have hcz60_0 : w43.cell? ⟨gb329, 0, none⟩ = some (.int .i64 t324) := bc BK329 0
         have hcz60_1 : w43.cell? ⟨gb329, 1, none⟩ = some (.slice Ao9 t325.length co9) := bc BK329 1
         have hfz60_0 := blk_frozen BK329.out 0; have hfz60_1 := blk_frozen BK329.out 1
         go_wp2_with (first | ((with_reducible refine gate_callee (f := 10) rfl ?_); refine goesL_ (some 51) rfl rfl Tryd.func10 (by kernel_rfl) rfl #[.agg #[.int .i64 t340, .slice Ao47 t341.length co47], .agg #[.int .i64 t324, .slice Ao9 t325.length co9]] rfl lz ?_; (with_reducible refine (laws_eqAlphabet.calls kj4 t340 _ _ t341 t324 _ _ t325 false _ ?side1 ?side2 ?side3 ?side4 A48.out).mono ?_); (case side1 => refine (Kd.R_reads' (e := 2) (base := w.heap.size) (ok := fun k_ => ((True ∧ some k_ ≠ (.slice Ao9 t325.length co9 : Value).ownBlock) ∧ some k_ ≠ (.slice Ao14 t331.length co14 : Value).ownBlock)) (n := t341.length) (c := co47) ?_).2.2; exact (by (with_reducible repeat (first | apply Kd.R_alloc | apply Kd.R_drewN | apply Kd.R_drew)); exact (Kd.R_mono (Kd.R_far (p := ⟨gb345, 1, none⟩) (Kd.R_far (p := ⟨gb345, 0, none⟩) (Kd.R_types HO343.out BK345.out (by decide)) (fun _ hk => hk.2) (.int .i64 t340)) (fun _ hk => hk.2) (.slice Ao47 t341.length co47)) (fun _ h_ => h_.1)))); (case side2 => exact (Kd.R_reads' HO343.out).2.1); (case side3 => refine (Kd.R_reads' (e := 2) (base := w.heap.size) (ok := fun k_ => (some k_ ≠ (.slice Ao14 t331.length co14 : Value).ownBlock ∧ some k_ ≠ (.slice Ao47 t341.length co47 : Value).ownBlock)) (n := t325.length) (c := co9) ?_).2.2; exact (by (with_reducible repeat (first | apply Kd.R_alloc | apply Kd.R_drewN | apply Kd.R_drew)); exact (Kd.R_mono (Kd.R_far (p := ⟨gb345, 1, none⟩) (Kd.R_far (p := ⟨gb345, 0, none⟩) (Kd.R_types HO_330001.out BK345.out (by decide)) (fun _ hk => hk.2) (.int .i64 t340)) (fun _ hk => hk.2) (.slice Ao47 t341.length co47)) (fun _ h_ => h_.1)))); (case side4 => exact (Kd.R_reads' HO_330001.out).2.1); rintro e w61 ⟨rfl, hb⟩; refine ⟨_, rfl, ?_⟩; replace HO_330001 := Aside0.mk (Kd.R_below (by (with_reducible repeat (first | apply Kd.R_alloc | apply Kd.R_drewN | apply Kd.R_drew)); exact (Kd.R_mono (Kd.R_far (p := ⟨gb345, 1, none⟩) (Kd.R_far (p := ⟨gb345, 0, none⟩) (Kd.R_types HO_330001.out BK345.out (by decide)) (fun _ hk => hk.2) (.int .i64 t340)) (fun _ hk => hk.2) (.slice Ao47 t341.length co47)) (fun _ h_ => h_.1))) hb); replace HO_336001 := Aside0.mk (Kd.R_below (by (with_reducible repeat (first | apply Kd.R_alloc | apply Kd.R_drewN | apply Kd.R_drew)); exact (Kd.R_mono (Kd.R_far (p := ⟨gb345, 1, none⟩) (Kd.R_far (p := ⟨gb345, 0, none⟩) (Kd.R_types HO_336001.out BK345.out (by decide)) (fun _ hk => hk.2) (.int .i64 t340)) (fun _ hk => hk.2) (.slice Ao47 t341.length co47)) (fun _ h_ => h_.1))) hb); replace HO343 := Aside0.mk (Kd.R_below (by (with_reducible repeat (first | apply Kd.R_alloc | apply Kd.R_drewN | apply Kd.R_drew)); exact (Kd.R_mono (Kd.R_far (p := ⟨gb345, 1, none⟩) (Kd.R_far (p := ⟨gb345, 0, none⟩) (Kd.R_types HO343.out BK345.out (by decide)) (fun _ hk => hk.2) (.int .i64 t340)) (fun _ hk => hk.2) (.slice Ao47 t341.length co47)) (fun _ h_ => h_.1))) hb); replace BK329 := Aside0.mk (blk_below (blkF BK329) hb); replace BK335 := Aside0.mk (blk_below (blkF BK335) hb); replace BK345 := Aside0.mk (blk_below (g := gb345) (o := .cells #[.int .i64 t340, .slice Ao47 t341.length co47] 28 (0, 0)) (by (with_reducible repeat (first | refine blk_drewN ?_ _ | refine blk_drew ?_ | refine blk_alloc ?_ _)); refine blk_put (cs := #[.int .i64 t340, .slice none 0 0]) ?_ 1 _ rfl; (with_reducible repeat (first | refine blk_drewN ?_ _ | refine blk_drew ?_ | refine blk_alloc ?_ _)); refine blk_put (cs := #[.int .i64 0, .slice none 0 0]) ?_ 0 _ rfl; (with_reducible repeat (first | refine blk_drewN ?_ _ | refine blk_drew ?_ | refine blk_alloc ?_ _)); exact BK345.out) hb); replace HB := Aside0.mk (below_step (beQ HB) hb); (try clear hb); (try clear hb2); (try clear hk); (try clear hi); (try clear hgw_)))
         go_meet
         case rel => exact ⟨_, (true), sz, H', ⟨by have := HJ4.out; first | omega | exact Nat.le_refl _⟩, ⟨kdQ HO_330001⟩, ⟨kdQ HO_336001⟩, ⟨by (with_reducible repeat (first | apply Kd.R_alloc | apply Kd.R_drewN | apply Kd.R_drew)); exact Kd.R_mono HO343.out (fun _ hk => ⟨hk.1.2, hk.2⟩)⟩, ⟨blkQ BK329⟩, ⟨blkQ BK335⟩, ⟨blkQ BK345⟩, ⟨beQ HB⟩⟩
       case rest =>
        clear HC36
        try clear c1
        try clear c2
        try clear c2b0
        try clear c2b1
        try clear p2
        try clear c3
        try clear c4
        try clear c5
        try clear c10
        try clear c11
        try clear c12
        try clear c13
        try clear c14
        try clear c16
        try clear c17
        try clear c21
        try clear c25
        try clear c28
        try clear c28b0
        try clear c29
        try clear c34
        try clear c34b0
        try clear c34b1
        try clear c37
        try clear c44
        try clear c45
        try clear c49
        try clear c50
        try clear c51
        try clear c53
        try clear c56
        try clear c57
        try clear c59
        try clear hcz13_0
        try clear hcz13_1
        try clear hcz18_0
        try clear hcz18_1
        try clear hcz19_0
        try clear hcz19_1
        try clear hcz22_0
        try clear hcz22_1
        try clear hcz23_0
        try clear hcz23_1
        try clear hcz30_0
        try clear hcz30_1
        try clear hcz32_0
        try clear hcz32_1
        try clear hcz38_0
        try clear hcz38_1
        try clear hcz40_0
        try clear hcz40_1
        try clear hcz46_0
        try clear hcz46_1
        try clear hcz52_0
        try clear hcz52_1
        try clear hcz54_0
        try clear hcz54_1
        try clear hcz58_0
        try clear hcz58_1
        try clear hcz60_0
        try clear hcz60_1
        try clear hcz8_0
        try clear hcz8_1
        try clear hfz13_0
        try clear hfz13_1
        try clear hfz18_0
        try clear hfz18_1
        try clear hfz19_0
        try clear hfz19_1
        try clear hfz22_0
        try clear hfz22_1
        try clear hfz23_0
        try clear hfz23_1
        try clear hfz30_0
        try clear hfz30_1
        try clear hfz32_0
        try clear hfz32_1
        try clear hfz38_0
        try clear hfz38_1
        try clear hfz40_0
        try clear hfz40_1
        try clear hfz46_0
        try clear hfz46_1
        try clear hfz52_0
        try clear hfz52_1
        try clear hfz54_0
        try clear hfz54_1
        try clear hfz58_0
        try clear hfz58_1
        try clear hfz60_0
        try clear hfz60_1
        try clear hfz8_0
        try clear hfz8_1
        try clear p2
        obtain ⟨kq, x57_35, rfl, HA, HJ35, HO_330001, HO_336001, HO_346001, BK329, BK335, BK345, HB⟩ := hcut; have hl336001_35 := (Kd.R_reads' HO_336001.out).1; rw [hl336001_35] at HO_336001
        (try simp only [hl336001_35])
        (try simp only [hl336001_35] at BK329)
        (try simp only [hl336001_35] at BK335)
        (try simp only [hl336001_35] at BK345)
        (try simp only [hl336001_35] at HO_330001)
        (try simp only [hl336001_35] at HO_346001)
        cases kq with
        | zero => exact absurd HA.out (by simp [laws_FnExactParseAlphabet.j1])
        | succ kj35 =>
         have H := HA.out; clear HA
         simp only [laws_FnExactParseAlphabet.j1] at H
         by_cases c62 : x57_35 = true
         ·subst c62
          have H1 : (some false) = some r := by rw [if_pos rfl] at H; exact H
          clear H; have H := H1; clear H1
          obtain rfl := Option.some.inj H
          go_wp2
          go_ret
          exact ⟨rz, beQ HB⟩
         ·replace c62 := Bool.eq_false_iff.mpr c62
          subst c62
          have H1 : ((laws_heldAlphabet.f kj35 t330 t338 1).bind fun t347 => (if t347 < 0 then (some false) else (if t347 = t337 then (some true) else (some false)))) = some r := by rw [if_neg (show ¬ (false = true) by decide)] at H; exact H
          clear H; have H := H1; clear H1; replace H := Option.bind_eq_some_iff.mp H; obtain ⟨t347, A630, H⟩ := H
          replace H : (if t347 < 0 then (some false) else (if t347 = t337 then (some true) else (some false))) = some r := H
          have A63 := Aside0.mk A630; clear A630
          by_cases c64 : t347 < 0
          ·rw [if_pos c64] at H
           have c64b0 : decide (t347 < 0) = true := decide_eq_true c64
           clear c64
           obtain rfl := Option.some.inj H
           have hnb65 := NB335_329.out; have hnc65 := NB329_335.out; have hnb66 := NB335_345.out; have hnc66 := NB345_335.out
           have hcz67_0 : wc.cell? ⟨gb335, 0, none⟩ = some (.int .i64 t330) := bc BK335 0
           have hcz67_1 : wc.cell? ⟨gb335, 1, none⟩ = some (.slice Ao14 t338.length co14) := bc BK335 1
           have hfz67_0 := blk_frozen BK335.out 0; have hfz67_1 := blk_frozen BK335.out 1
           go_wp2_with (first | ((with_reducible refine gate_callee (f := 14) rfl ?_); refine goesL_ (some 60) rfl rfl Tryd.func14 (by kernel_rfl) rfl #[.agg #[.int .i64 t330, .slice Ao14 t338.length co14], .int .i64 1] rfl lz ?_; (with_reducible refine (laws_heldAlphabet.calls kj35 t330 _ _ t338 1 t347 _ ?side1 ?side2 A63.out).mono ?_); (case side1 => have q_ := Aside0.mk (Kd.R_reads' HO_336001.out).2.2; exact cQ q_); (case side2 => exact (Kd.R_reads' HO_336001.out).2.1); rintro e w68 ⟨rfl, hb⟩; refine ⟨_, rfl, ?_⟩; replace HO_330001 := kb HO_330001 hb; replace HO_336001 := kb HO_336001 hb; replace HO_346001 := kb HO_346001 hb; replace BK329 := bb BK329 hb; replace BK335 := bb BK335 hb; replace BK345 := bb BK345 hb; replace HB := Aside0.mk (below_step (beQ HB) hb); (try clear hb); (try clear hb2); (try clear hk); (try clear hi); (try clear hgw_)))
           go_ret
           exact ⟨rz, beQ HB⟩
          ·rw [if_neg c64] at H
           have c64b0 : decide (t347 < 0) = false := decide_eq_false c64
           clear c64
           by_cases c69 : t347 = t337
           ·rw [if_pos c69] at H
            have c69b0 : (t347 == t337) = true := beq_iff_eq.mpr c69
            have c69b1 : (t347 != t337) = false := bne_eq_false_iff_eq.mpr c69
            clear c69
            obtain rfl := Option.some.inj H
            have hnb70 := NB335_329.out; have hnc70 := NB329_335.out; have hnb71 := NB335_345.out; have hnc71 := NB345_335.out
            have hcz72_0 : wc.cell? ⟨gb335, 0, none⟩ = some (.int .i64 t330) := bc BK335 0
            have hcz72_1 : wc.cell? ⟨gb335, 1, none⟩ = some (.slice Ao14 t338.length co14) := bc BK335 1
            have hfz72_0 := blk_frozen BK335.out 0; have hfz72_1 := blk_frozen BK335.out 1
            go_wp2_with (first | ((with_reducible refine gate_callee (f := 14) rfl ?_); refine goesL_ (some 60) rfl rfl Tryd.func14 (by kernel_rfl) rfl #[.agg #[.int .i64 t330, .slice Ao14 t338.length co14], .int .i64 1] rfl lz ?_; (with_reducible refine (laws_heldAlphabet.calls kj35 t330 _ _ t338 1 t347 _ ?side1 ?side2 A63.out).mono ?_); (case side1 => have q_ := Aside0.mk (Kd.R_reads' HO_336001.out).2.2; exact cQ q_); (case side2 => exact (Kd.R_reads' HO_336001.out).2.1); rintro e w73 ⟨rfl, hb⟩; refine ⟨_, rfl, ?_⟩; replace HO_330001 := kb HO_330001 hb; replace HO_336001 := kb HO_336001 hb; replace HO_346001 := kb HO_346001 hb; replace BK329 := bb BK329 hb; replace BK335 := bb BK335 hb; replace BK345 := bb BK345 hb; replace HB := Aside0.mk (below_step (beQ HB) hb); (try clear hb); (try clear hb2); (try clear hk); (try clear hi); (try clear hgw_)))
            go_ret
            exact ⟨rz, beQ HB⟩
           ·rw [if_neg c69] at H
            have c69b0 : (t347 == t337) = false := beq_eq_false_iff_ne.mpr c69
            have c69b1 : (t347 != t337) = true := bne_iff_ne.mpr c69
            obtain rfl := Option.some.inj H
            have hnb74 := NB335_329.out; have hnc74 := NB329_335.out; have hnb75 := NB335_345.out; have hnc75 := NB345_335.out
            have hcz76_0 : wc.cell? ⟨gb335, 0, none⟩ = some (.int .i64 t330) := bc BK335 0
            have hcz76_1 : wc.cell? ⟨gb335, 1, none⟩ = some (.slice Ao14 t338.length co14) := bc BK335 1
            have hfz76_0 := blk_frozen BK335.out 0; have hfz76_1 := blk_frozen BK335.out 1
            go_wp2_with (first | ((with_reducible refine gate_callee (f := 14) rfl ?_); refine goesL_ (some 60) rfl rfl Tryd.func14 (by kernel_rfl) rfl #[.agg #[.int .i64 t330, .slice Ao14 t338.length co14], .int .i64 1] rfl lz ?_; (with_reducible refine (laws_heldAlphabet.calls kj35 t330 _ _ t338 1 t347 _ ?side1 ?side2 A63.out).mono ?_); (case side1 => have q_ := Aside0.mk (Kd.R_reads' HO_336001.out).2.2; exact cQ q_); (case side2 => exact (Kd.R_reads' HO_336001.out).2.1); rintro e w77 ⟨rfl, hb⟩; refine ⟨_, rfl, ?_⟩; replace HO_330001 := kb HO_330001 hb; replace HO_336001 := kb HO_336001 hb; replace HO_346001 := kb HO_346001 hb; replace BK329 := bb BK329 hb; replace BK335 := bb BK335 hb; replace BK345 := bb BK345 hb; replace HB := Aside0.mk (below_step (beQ HB) hb); (try clear hb); (try clear hb2); (try clear hk); (try clear hi); (try clear hgw_)))
            go_ret
            exact ⟨rz, beQ HB⟩
      ·rw [if_neg c34] at H
       have c34b0 : (t339 == t337) = false := beq_eq_false_iff_ne.mpr c34
       have c34b1 : (t339 != t337) = true := bne_iff_ne.mpr c34
       obtain rfl := Option.some.inj H
       have hnb78 := NB335_329.out; have hnc78 := NB329_335.out
       have hcz79_0 : wc.cell? ⟨gb335, 0, none⟩ = some (.int .i64 t330) := bc BK335 0
       have hcz79_1 : wc.cell? ⟨gb335, 1, none⟩ = some (.slice Ao14 t331.length co14) := bc BK335 1
       have hfz79_0 := blk_frozen BK335.out 0; have hfz79_1 := blk_frozen BK335.out 1
       go_wp2_with (first | ((with_reducible refine gate_callee (f := 13) rfl ?_); refine goesL_ (some 35) rfl rfl Tryd.func13 (by kernel_rfl) rfl #[.agg #[.int .i64 t330, .slice Ao14 t331.length co14], .int .i64 1] rfl lz ?_; (with_reducible refine (laws_markAlphabet.calls kj4 t330 (fun k_ => some k_ = (.slice Ao14 t331.length co14 : Value).ownBlock) (.slice Ao14 t331.length co14) t331 1 t337 t338 w _ ?side1 ?side2 A26.out).mono ?_); (case side1 => repeat (first | (with_reducible first | exact HB.out | apply below_alloc | apply pw_below_drewN | apply below_drew1 | refine below_set ?_ GE329.out | refine below_set ?_ GE335.out) | exact HB.out)); (case side2 => exact Kd.R_tight rfl HO_336001.out); rintro e w80 ⟨rfl, hy0, hb, hkp⟩; refine ⟨_, rfl, ?_⟩; replace HO_330001 := Aside0.mk (Kd.R_mono (ok' := fun k_ => some k_ ≠ (.slice Ao14 t331.length co14 : Value).ownBlock) (Kd.R_keptB (HO_330001.out) hkp (fun k_ hk_ hs_ => (hk_) hs_)) (fun k_ hk_ => hk_.1)); replace BK329 := Aside0.mk (blk_kept (blkQ BK329) hkp (fun hs_ => (fun e_ => (Kd.R_ne HO_336001.out BK329.out (by decide)) e_) hs_)); replace BK335 := Aside0.mk (blk_kept (blkQ BK335) hkp (fun hs_ => (fun e_ => (Kd.R_ne HO_336001.out BK335.out (by decide)) e_) hs_)); replace HO_336001 := Aside0.mk (Kd.R_reok rfl hy0 (fun k_ e_ => HO_336001.out.1 k_ e_)); replace HB := Aside0.mk (hb); (try clear hb); (try clear hkp); (try clear hy0); have hcz81_0 : w80.cell? ⟨gb335, 0, none⟩ = some (.int .i64 t330) := bc BK335 0; have hcz81_1 : w80.cell? ⟨gb335, 1, none⟩ = some (.slice Ao14 t331.length co14) := bc BK335 1; have hfz81_0 := blk_frozen BK335.out 0; have hfz81_1 := blk_frozen BK335.out 1) | ((with_reducible refine gate_callee (f := 14) rfl ?_); refine goesL_ (some 38) rfl rfl Tryd.func14 (by kernel_rfl) rfl #[.agg #[.int .i64 t330, .slice Ao14 t338.length co14], .int .i64 1] rfl (by (try simp only [List.map_toArray, List.map_cons, List.map_nil]); first | done | (rw [show t338.length = t331.length from (Kd.R_reads' HO_336001.out).1.symm] <;> rfl) | rfl | (simp only [List.length_drop, List.length_take]; rfl)) ?_; (with_reducible refine (laws_heldAlphabet.calls kj4 t330 _ _ t338 1 t339 _ ?side1 ?side2 A27.out).mono ?_); (case side1 => have q_ := Aside0.mk (Kd.R_reads' HO_336001.out).2.2; exact cQ q_); (case side2 => rw [show t338.length = t331.length from (Kd.R_reads' HO_336001.out).1.symm]; exact (Kd.R_reads' HO_336001.out).2.1); rintro e w82 ⟨rfl, hb⟩; refine ⟨_, rfl, ?_⟩; replace HO_330001 := kb HO_330001 hb; replace HO_336001 := kb HO_336001 hb; replace BK329 := bb BK329 hb; replace BK335 := bb BK335 hb; replace HB := Aside0.mk (below_step (beQ HB) hb); (try clear hb); (try clear hb2); (try clear hk); (try clear hi); (try clear hgw_)))
       go_ret
       exact ⟨rz, beQ HB⟩

end Go.Proofs.YtbhkpfkkjknmlaaDoor.G
