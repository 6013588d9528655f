/- How the program's functions compute, function by function: each is told by a plain Lean function of the same answers, under the condition that this one answers. Written by a program of this project over the seat's translation; Lean checks it. -/
import Derived.Test.YtbhkpfkkjknmlaaDoorG0
import Derived.Test.YtbhkpfkkjknmlaaDoorGQ00
import Derived.Test.YtbhkpfkkjknmlaaDoorGQ02a
import Derived.Test.YtbhkpfkkjknmlaaDoorGQ02d
import Derived.Test.YtbhkpfkkjknmlaaDoorGQ03
namespace Go.Proofs.YtbhkpfkkjknmlaaDoor.G
open Go.RowKit Go.Proofs.YtbhkpfkkjknmlaaDoorW.PrintWords Go.Proofs.YtbhkpfkkjknmlaaDoorW.PrintLast Go.Proofs.YtbhkpfkkjknmlaaDoorW.PrintMore
attribute [local go_sem] max2_int min2_int max_two min_two max_three min_three max_four min_four   -- for this text's walks alone
set_option linter.unusedVariables false
set_option linter.unusedSimpArgs false

/-! ### laws_FnExactAlphabetText: function 3 -/
def laws_FnExactAlphabetText.j0 : Nat → Bool → Int → List Int → Int → List Int → Option (Bool)
 | 0, _, _, _, _, _ => none
 | k + 1, x34, x217000, x217001, x229000, x229001 => if x34 = true then (some false) else ((laws_toAlphabet.f k x217000 x217001).bind fun bt231 => ((laws_eqAlphabet.f k x229000 x229001 bt231.1 bt231.2).bind fun t235 => (if t235 = true then (some true) else (some false))))
def laws_FnExactAlphabetText.f (k : Nat) (a0_0 : Int) (l0_1 : List Int) : Option (Bool) := (laws_szAlphabet.f a0_0 l0_1 1048576).bind fun t217 => (if t217 < 0 then (some true) else ((laws_toAlphabet.f k a0_0 l0_1).bind fun bt218 => ((spec_AlphabetText.f k bt218.1 bt218.2).bind fun bt222 => ((laws_toAlphabet.f k a0_0 l0_1).bind fun bt224 => ((impl_AlphabetText.f k bt224.1 bt224.2).bind fun bt229 => (if bt229.1.toList = bt222.1.toList then (laws_FnExactAlphabetText.j0 k (bt229.2 != bt222.2) a0_0 l0_1 bt224.1 bt224.2) else (laws_FnExactAlphabetText.j0 k true a0_0 l0_1 bt224.1 bt224.2)))))))
theorem laws_FnExactAlphabetText.mono_l : ∀ k, (∀ y0 y1 y2 y3 y4, LeO (laws_FnExactAlphabetText.j0 k y0 y1 y2 y3 y4) (laws_FnExactAlphabetText.j0 (k + 1) y0 y1 y2 y3 y4))
 | 0 => fun _ _ _ _ _ r h => by simp [laws_FnExactAlphabetText.j0] at h
 | k + 1 => by
  have ih0 := laws_FnExactAlphabetText.mono_l k
  ·intro y0 y1 y2 y3 y4
   unfold laws_FnExactAlphabetText.j0
   repeat' first
   | (with_reducible exact ih0 _ _ _ _ _)
   | (with_reducible exact impl_AlphabetText.mono _ _ _)
   | (with_reducible exact laws_eqAlphabet.mono _ _ _ _ _)
   | (with_reducible exact laws_toAlphabet.mono _ _ _)
   | (with_reducible exact spec_AlphabetText.mono _ _ _)
   | (with_reducible exact LeO.refl _)
   | (with_reducible exact LeO.none _)
   | (with_reducible refine LeO.ite ?_ ?_)
   | (with_reducible refine LeO.bind ?_ (fun _ => ?_))
   | exact ih0 _ _ _ _ _
   | exact impl_AlphabetText.mono _ _ _
   | exact laws_eqAlphabet.mono _ _ _ _ _
   | exact laws_toAlphabet.mono _ _ _
   | exact spec_AlphabetText.mono _ _ _
   | exact LeO.none _
   | refine LeO.ite ?_ ?_
   | refine LeO.bind ?_ (fun _ => ?_)
theorem laws_FnExactAlphabetText.mono : ∀ a0 a1 k, LeO (laws_FnExactAlphabetText.f k a0 a1) (laws_FnExactAlphabetText.f (k + 1) a0 a1) := by
 intro a0 a1 k
 have ih0 := laws_FnExactAlphabetText.mono_l k
 unfold laws_FnExactAlphabetText.f
 repeat' first
   | (with_reducible exact ih0 _ _ _ _ _)
   | (with_reducible exact impl_AlphabetText.mono _ _ _)
   | (with_reducible exact laws_eqAlphabet.mono _ _ _ _ _)
   | (with_reducible exact laws_toAlphabet.mono _ _ _)
   | (with_reducible exact spec_AlphabetText.mono _ _ _)
   | (with_reducible exact LeO.refl _)
   | (with_reducible exact LeO.none _)
   | (with_reducible refine LeO.ite ?_ ?_)
   | (with_reducible refine LeO.bind ?_ (fun _ => ?_))
   | exact ih0 _ _ _ _ _
   | exact impl_AlphabetText.mono _ _ _
   | exact laws_eqAlphabet.mono _ _ _ _ _
   | exact laws_toAlphabet.mono _ _ _
   | exact spec_AlphabetText.mono _ _ _
   | exact LeO.none _
   | refine LeO.ite ?_ ?_
   | refine LeO.bind ?_ (fun _ => ?_)
set_option maxHeartbeats 8000000 in
set_option maxRecDepth 100000 in
theorem laws_FnExactAlphabetText.calls (k : Nat) (a0_0 : Int) (A0_1 : Option Addr) (c0_1 : Nat) (l0_1 : List Int) (r : Bool) (w : World) (hr0_1 : Kd.C (Kd.int .i64) w A0_1 l0_1.length l0_1) (hc0_1 : l0_1.length ≤ c0_1) (hT : TabW w) (h : laws_FnExactAlphabetText.f k a0_0 l0_1 = some r) :
  Calls Tryd.prog 3 #[.agg #[.int .i64 a0_0, .slice A0_1 l0_1.length c0_1]] w fun e w' => e = .returned (.bool r) ∧ Below w.heap.size w w' := by
 have hu24 := Tryd.underlying24; have hu28 := Tryd.underlying28; have HT := Aside0.mk hT; clear hT; have HR0_1 := Aside0.mk hr0_1; have HC0_1 := Aside0.mk hc0_1; clear hr0_1 hc0_1; have HB := Aside0.mk (Below.refl w.heap.size w)
 have H : ((laws_szAlphabet.f a0_0 l0_1 1048576).bind fun t217 => (if t217 < 0 then (some true) else ((laws_toAlphabet.f k a0_0 l0_1).bind fun bt218 => ((spec_AlphabetText.f k bt218.1 bt218.2).bind fun bt222 => ((laws_toAlphabet.f k a0_0 l0_1).bind fun bt224 => ((impl_AlphabetText.f k bt224.1 bt224.2).bind fun bt229 => (if bt229.1.toList = bt222.1.toList then (laws_FnExactAlphabetText.j0 k (bt229.2 != bt222.2) a0_0 l0_1 bt224.1 bt224.2) else (laws_FnExactAlphabetText.j0 k true a0_0 l0_1 bt224.1 bt224.2)))))))) = some r := h
 clear h; replace H := Option.bind_eq_some_iff.mp H; obtain ⟨t217, A20, H⟩ := H
 replace H : (if t217 < 0 then (some true) else ((laws_toAlphabet.f k a0_0 l0_1).bind fun bt218 => ((spec_AlphabetText.f k bt218.1 bt218.2).bind fun bt222 => ((laws_toAlphabet.f k a0_0 l0_1).bind fun bt224 => ((impl_AlphabetText.f k bt224.1 bt224.2).bind fun bt229 => (if bt229.1.toList = bt222.1.toList then (laws_FnExactAlphabetText.j0 k (bt229.2 != bt222.2) a0_0 l0_1 bt224.1 bt224.2) else (laws_FnExactAlphabetText.j0 k true a0_0 l0_1 bt224.1 bt224.2))))))) = some r := H
 have A2 := Aside0.mk A20; clear A20
 by_cases c3 : t217 < 0
 ·rw [if_pos c3] at H
  have c3b0 : decide (t217 < 0) = true := decide_eq_true c3
  clear c3
  obtain rfl := Option.some.inj H
  go_enter Tryd.func3, Tryd.ntmps3
  go_wp2_with (first | ((with_reducible refine gate_dst (N := 1) rfl ?_); refine box_event ?hg (N := 1) ?hd (cs := #[.int .i64 a0_0, .slice A0_1 l0_1.length c0_1]) (t := 24) ?hr ?_; (case hd => rfl); (case hg => rfl); (case hr => first | (go_simp; done) | (go_simp; rfl)); intro gb216 hg w4 hbox hb; have BK216 := Aside0.mk (hbox); have GW216 := Aside0.mk ((by rw [hg]; exact (below_size (beQ HB)) : w.heap.size ≤ gb216)); have GE216 := Aside0.mk ((by rw [hg]; exact (below_size (beQ HB)) : w.heap.size ≤ gb216)); replace HB := Aside0.mk (below_step (beQ HB) hb); clear hb hbox hg; have hcz5_0 : w4.cell? ⟨gb216, 0, none⟩ = some (.int .i64 a0_0) := bc BK216 0; have hcz5_1 : w4.cell? ⟨gb216, 1, none⟩ = some (.slice A0_1 l0_1.length c0_1) := bc BK216 1; have hfz5_0 := blk_frozen BK216.out 0; have hfz5_1 := blk_frozen BK216.out 1) | ((with_reducible refine gate_callee (f := 6) rfl ?_); refine goesL_ (some 11) rfl rfl Tryd.func6 (by kernel_rfl) rfl #[.agg #[.int .i64 a0_0, .slice A0_1 l0_1.length c0_1], .int .i64 1048576] rfl lz ?_; (with_reducible refine (laws_szAlphabet.calls a0_0 _ _ l0_1 1048576 t217 _ ?side1 ?side2 A2.out).mono ?_); (case side1 => have q_ := Aside0.mk (Kd.C_below HR0_1.out HB.out); exact cQ q_); (case side2 => exact HC0_1.out); rintro e w6 ⟨rfl, hb⟩; refine ⟨_, rfl, ?_⟩; replace BK216 := bb BK216 hb; replace HB := Aside0.mk (below_step (beQ HB) hb); (try clear hb); (try clear hb2); (try clear hk); (try clear hi)))
  go_ret
  exact ⟨rz, beQ HB⟩
 ·rw [if_neg c3] at H
  have c3b0 : decide (t217 < 0) = false := decide_eq_false c3
  clear c3; replace H := Option.bind_eq_some_iff.mp H
  obtain ⟨⟨t218, t219⟩, A70, H⟩ := H
  replace H : ((spec_AlphabetText.f k t218 t219).bind fun bt222 => ((laws_toAlphabet.f k a0_0 l0_1).bind fun bt224 => ((impl_AlphabetText.f k bt224.1 bt224.2).bind fun bt229 => (if bt229.1.toList = bt222.1.toList then (laws_FnExactAlphabetText.j0 k (bt229.2 != bt222.2) a0_0 l0_1 bt224.1 bt224.2) else (laws_FnExactAlphabetText.j0 k true a0_0 l0_1 bt224.1 bt224.2))))) = some r := H
  have A7 := Aside0.mk A70; clear A70; replace H := Option.bind_eq_some_iff.mp H
  obtain ⟨⟨t222, t223⟩, A80, H⟩ := H
  replace H : ((laws_toAlphabet.f k a0_0 l0_1).bind fun bt224 => ((impl_AlphabetText.f k bt224.1 bt224.2).bind fun bt229 => (if bt229.1.toList = t222.toList then (laws_FnExactAlphabetText.j0 k (bt229.2 != t223) a0_0 l0_1 bt224.1 bt224.2) else (laws_FnExactAlphabetText.j0 k true a0_0 l0_1 bt224.1 bt224.2)))) = some r := H
  have A8 := Aside0.mk A80; clear A80; replace H := Option.bind_eq_some_iff.mp H
  obtain ⟨⟨t224, t225⟩, A90, H⟩ := H
  replace H : ((impl_AlphabetText.f k t224 t225).bind fun bt229 => (if bt229.1.toList = t222.toList then (laws_FnExactAlphabetText.j0 k (bt229.2 != t223) a0_0 l0_1 t224 t225) else (laws_FnExactAlphabetText.j0 k true a0_0 l0_1 t224 t225))) = some r := H
  have A9 := Aside0.mk A90; clear A90; replace H := Option.bind_eq_some_iff.mp H
  obtain ⟨⟨t229, t230⟩, A100, H⟩ := H
  replace H : (if t229.toList = t222.toList then (laws_FnExactAlphabetText.j0 k (t230 != t223) a0_0 l0_1 t224 t225) else (laws_FnExactAlphabetText.j0 k true a0_0 l0_1 t224 t225)) = some r := H
  have A10 := Aside0.mk A100; clear A100; have HC11 := Aside0.mk H; clear H
  go_enter Tryd.func3, Tryd.ntmps3
  go_upto_region 8 with (first | ((with_reducible refine gate_dst (N := 1) rfl ?_); refine box_event ?hg (N := 1) ?hd (cs := #[.int .i64 a0_0, .slice A0_1 l0_1.length c0_1]) (t := 24) ?hr ?_; (case hd => rfl); (case hg => rfl); (case hr => first | (go_simp; done) | (go_simp; rfl)); intro gb216 hg w12 hbox hb; have BK216 := Aside0.mk (hbox); have GW216 := Aside0.mk ((by rw [hg]; exact (below_size (beQ HB)) : w.heap.size ≤ gb216)); have GE216 := Aside0.mk ((by rw [hg]; exact (below_size (beQ HB)) : w.heap.size ≤ gb216)); replace HB := Aside0.mk (below_step (beQ HB) hb); clear hb hbox hg; have hcz13_0 : w12.cell? ⟨gb216, 0, none⟩ = some (.int .i64 a0_0) := bc BK216 0; have hcz13_1 : w12.cell? ⟨gb216, 1, none⟩ = some (.slice A0_1 l0_1.length c0_1) := bc BK216 1; have hfz13_0 := blk_frozen BK216.out 0; have hfz13_1 := blk_frozen BK216.out 1) | ((with_reducible refine gate_callee (f := 6) rfl ?_); refine goesL_ (some 11) rfl rfl Tryd.func6 (by kernel_rfl) rfl #[.agg #[.int .i64 a0_0, .slice A0_1 l0_1.length c0_1], .int .i64 1048576] rfl lz ?_; (with_reducible refine (laws_szAlphabet.calls a0_0 _ _ l0_1 1048576 t217 _ ?side1 ?side2 A2.out).mono ?_); (case side1 => have q_ := Aside0.mk (Kd.C_below HR0_1.out HB.out); exact cQ q_); (case side2 => exact HC0_1.out); rintro e w14 ⟨rfl, hb⟩; refine ⟨_, rfl, ?_⟩; replace BK216 := bb BK216 hb; replace HB := Aside0.mk (below_step (beQ HB) hb); (try clear hb); (try clear hb2); (try clear hk); (try clear hi); have hcz15_0 : w14.cell? ⟨gb216, 0, none⟩ = some (.int .i64 a0_0) := bc BK216 0; have hcz15_1 : w14.cell? ⟨gb216, 1, none⟩ = some (.slice A0_1 l0_1.length c0_1) := bc BK216 1; have hfz15_0 := blk_frozen BK216.out 0; have hfz15_1 := blk_frozen BK216.out 1) | ((with_reducible refine gate_callee (f := 8) rfl ?_); refine goesL_ (some 16) rfl rfl Tryd.func8 (by kernel_rfl) rfl #[.agg #[.int .i64 a0_0, .slice A0_1 l0_1.length c0_1]] rfl lz ?_; (with_reducible refine (laws_toAlphabet.calls k a0_0 _ _ l0_1 t218 t219 _ ?side1 ?side2 A7.out).mono ?_); (case side1 => have q_ := Aside0.mk (Kd.C_below HR0_1.out HB.out); exact cQ q_); (case side2 => exact HC0_1.out); rintro e w16 ⟨v220, rfl, ho0, hb⟩; refine ⟨_, rfl, ?_⟩; have HO221 := Aside0.mk (Kd.R_lower ho0 (below_size (beQ HB))); replace BK216 := bb BK216 hb; replace HB := Aside0.mk (below_step (beQ HB) hb); (try clear hb); (try clear hb2); (try clear hk); (try clear hi); (try clear ho0); obtain ⟨Ao17, co17, eo17⟩ := Kd.R_slice HO221.out; subst eo17) | ((with_reducible refine gate_callee (f := 7) rfl ?_); refine goesL_ (some 17) rfl rfl Tryd.func7 (by kernel_rfl) rfl #[.agg #[.int .i64 t218, .slice Ao17 t219.length co17]] rfl lz ?_; (with_reducible refine (spec_AlphabetText.calls k t218 _ _ t219 t222 t223 _ ?side1 ?side2 A8.out).mono ?_); (case side1 => have q_ := Aside0.mk (Kd.R_reads' HO221.out).2.2; exact cQ q_); (case side2 => exact (Kd.R_reads' HO221.out).2.1); rintro e w18 ⟨rfl, hb⟩; refine ⟨_, rfl, ?_⟩; replace HO221 := kb HO221 hb; replace BK216 := bb BK216 hb; replace HB := Aside0.mk (below_step (beQ HB) hb); (try clear hb); (try clear hb2); (try clear hk); (try clear hi); have hcz19_0 : w18.cell? ⟨gb216, 0, none⟩ = some (.int .i64 a0_0) := bc BK216 0; have hcz19_1 : w18.cell? ⟨gb216, 1, none⟩ = some (.slice A0_1 l0_1.length c0_1) := bc BK216 1; have hfz19_0 := blk_frozen BK216.out 0; have hfz19_1 := blk_frozen BK216.out 1) | ((with_reducible refine gate_callee (f := 8) rfl ?_); refine goesL_ (some 21) rfl rfl Tryd.func8 (by kernel_rfl) rfl #[.agg #[.int .i64 a0_0, .slice A0_1 l0_1.length c0_1]] rfl lz ?_; (with_reducible refine (laws_toAlphabet.calls k a0_0 _ _ l0_1 t224 t225 _ ?side1 ?side2 A9.out).mono ?_); (case side1 => have q_ := Aside0.mk (Kd.C_below HR0_1.out HB.out); exact cQ q_); (case side2 => exact HC0_1.out); rintro e w20 ⟨v226, rfl, ho0, hb⟩; refine ⟨_, rfl, ?_⟩; have HO227 := Aside0.mk (Kd.R_lower (Kd.R_new' ho0 (Kd.R_lt (kdQ HO221))) (below_size (beQ HB))); replace HO221 := Aside0.mk (Kd.R_elder' (kdQ HO221) (Kd.R_base ho0) hb); replace BK216 := bb BK216 hb; replace HB := Aside0.mk (below_step (beQ HB) hb); (try clear hb); (try clear hb2); (try clear hk); (try clear hi); (try clear ho0)) | ((with_reducible refine gate_dst (N := 6) rfl ?_); refine box_event ?hg (N := 6) ?hd (cs := #[.int .i64 0, .slice none 0 0]) (t := 28) ?hr ?_; (case hd => rfl); (case hg => rfl); (case hr => first | (go_simp; done) | (go_simp; rfl)); intro gb228 hg w21 hbox hb; replace HO221 := kb HO221 hb; replace HO227 := kb HO227 hb; have BK228 := Aside0.mk (hbox); have GW228 := Aside0.mk ((by rw [hg]; exact (below_size (beQ HB)) : w.heap.size ≤ gb228)); have GE228 := Aside0.mk ((by rw [hg]; exact (below_size (beQ HB)) : w.heap.size ≤ gb228)); replace HB := Aside0.mk (below_step (beQ HB) hb); have NB216_228 := Aside0.mk ((by rw [hg]; exact Nat.ne_of_lt (blk_lt (blkQ BK216)) : gb216 ≠ gb228)); have NB228_216 := Aside0.mk ((by rw [hg]; exact Nat.ne_of_gt (blk_lt (blkQ BK216)) : gb228 ≠ gb216)); replace BK216 := bb BK216 hb; clear hb hbox hg; have hnb22 := NB228_216.out; have hnc22 := NB216_228.out; have hcz23_0 : w21.cell? ⟨gb228, 0, none⟩ = some (.int .i64 0) := bc BK228 0; have hcz23_1 : w21.cell? ⟨gb228, 1, none⟩ = some (.slice none 0 0) := bc BK228 1; have hfz23_0 := blk_frozen BK228.out 0; have hfz23_1 := blk_frozen BK228.out 1; obtain ⟨Ao24, co24, eo24⟩ := Kd.R_slice HO227.out; subst eo24) | ((with_reducible refine gate_callee (f := 9) rfl ?_); refine goesL_ (some 24) rfl rfl Tryd.func9 (by kernel_rfl) rfl #[.agg #[.int .i64 t224, .slice Ao24 t225.length co24]] rfl lz ?_; (with_reducible refine (impl_AlphabetText.calls k t224 _ _ t225 t229 t230 _ ?side1 ?side2 ?side3 A10.out).mono ?_); (case side1 => refine (Kd.R_reads' (e := 2) (base := w.heap.size) (ok := fun k_ => (True ∧ some k_ ≠ (.slice Ao17 t219.length co17 : Value).ownBlock)) (n := t225.length) (c := co24) ?_).2.2; exact (by (with_reducible repeat (first | apply Kd.R_alloc | apply Kd.R_drewN | apply Kd.R_drew)); exact (Kd.R_mono (Kd.R_far (p := ⟨gb228, 1, none⟩) (Kd.R_far (p := ⟨gb228, 0, none⟩) (Kd.R_types HO227.out BK228.out (by decide)) (fun _ hk => hk.2) (.int .i64 t224)) (fun _ hk => hk.2) (.slice Ao24 t225.length co24)) (fun _ h_ => h_.1)))); (case side2 => exact (Kd.R_reads' HO227.out).2.1); (case side3 => exact TabW.below HT.out (beQ HB)); rintro e w25 ⟨rfl, hb⟩; refine ⟨_, rfl, ?_⟩; replace HO221 := Aside0.mk (Kd.R_below (by (with_reducible repeat (first | apply Kd.R_alloc | apply Kd.R_drewN | apply Kd.R_drew)); exact (Kd.R_mono (Kd.R_far (p := ⟨gb228, 1, none⟩) (Kd.R_far (p := ⟨gb228, 0, none⟩) (Kd.R_types HO221.out BK228.out (by decide)) (fun _ hk => hk.2) (.int .i64 t224)) (fun _ hk => hk.2) (.slice Ao24 t225.length co24)) (fun _ h_ => h_.1))) hb); replace HO227 := Aside0.mk (Kd.R_below (by (with_reducible repeat (first | apply Kd.R_alloc | apply Kd.R_drewN | apply Kd.R_drew)); exact (Kd.R_mono (Kd.R_far (p := ⟨gb228, 1, none⟩) (Kd.R_far (p := ⟨gb228, 0, none⟩) (Kd.R_types HO227.out BK228.out (by decide)) (fun _ hk => hk.2) (.int .i64 t224)) (fun _ hk => hk.2) (.slice Ao24 t225.length co24)) (fun _ h_ => h_.1))) hb); replace BK216 := Aside0.mk (blk_below (blkF BK216) hb); replace BK228 := Aside0.mk (blk_below (g := gb228) (o := .cells #[.int .i64 t224, .slice Ao24 t225.length co24] 28 (0, 0)) (by (with_reducible repeat (first | refine blk_drewN ?_ _ | refine blk_drew ?_ | refine blk_alloc ?_ _)); refine blk_put (cs := #[.int .i64 t224, .slice none 0 0]) ?_ 1 _ rfl; (with_reducible repeat (first | refine blk_drewN ?_ _ | refine blk_drew ?_ | refine blk_alloc ?_ _)); refine blk_put (cs := #[.int .i64 0, .slice none 0 0]) ?_ 0 _ rfl; (with_reducible repeat (first | refine blk_drewN ?_ _ | refine blk_drew ?_ | refine blk_alloc ?_ _)); exact BK228.out) hb); replace HB := Aside0.mk (below_step (beQ HB) hb); (try clear hb); (try clear hb2); (try clear hk); (try clear hi)))
  (try simp only [Act.put, List.setIfInBounds_toArray, List.set_cons_zero, List.set_cons_succ])
  go_cut [34] (fun v34 wc => ∃ (kq : Nat) (x34_10 : Bool), v34 = .bool x34_10 ∧ Aside0 (laws_FnExactAlphabetText.j0 kq x34_10 a0_0 l0_1 t224 t225 = some r) ∧ Aside0 (kq ≤ k) ∧ Aside0 (Kd.R (Kd.int .i64) 2 wc w.heap.size (fun _ => True) (.slice Ao24 t225.length co24) t225) ∧ Aside0 (wc.heap[gb216]? = some (.cells #[.int .i64 a0_0, (.slice A0_1 l0_1.length c0_1)] 24 (0, 0))) ∧ Aside0 (wc.heap[gb228]? = some (.cells #[.int .i64 t224, (.slice Ao24 t225.length co24)] 28 (0, 0))) ∧ Aside0 (Below w.heap.size w wc))
  case first =>
   have H := HC11.out; clear HC11
   by_cases c26 : t229.toList = t222.toList
   ·rw [if_pos c26] at H
    have c26b0 : (t229.toList == t222.toList) = true := beq_iff_eq.mpr c26
    have c26b1 : (t229.toList != t222.toList) = false := bne_eq_false_iff_eq.mpr c26
    clear c26
    (first | rw [c26b0] | (simp only [i64_w, i32_w]; rw [c26b0]) | skip)
    have H' := Aside0.mk H
    clear H
    go_wp2
    go_meet
    case rel => exact ⟨_, ((t230 != t223)), sz, H', ⟨by first | omega | exact Nat.le_refl _⟩, ⟨by (with_reducible repeat (first | apply Kd.R_alloc | apply Kd.R_drewN | apply Kd.R_drew)); exact Kd.R_mono HO227.out (fun _ hk => trivial)⟩, ⟨blkQ BK216⟩, ⟨blkQ BK228⟩, ⟨beQ HB⟩⟩
   ·rw [if_neg c26] at H
    have c26b0 : (t229.toList == t222.toList) = false := beq_eq_false_iff_ne.mpr c26
    have c26b1 : (t229.toList != t222.toList) = true := bne_iff_ne.mpr c26
    (first | rw [c26b0] | (simp only [i64_w, i32_w]; rw [c26b0]) | skip)
    have H' := Aside0.mk H
    clear H
    go_wp2
    go_meet
    case rel => exact ⟨_, (true), sz, H', ⟨by first | omega | exact Nat.le_refl _⟩, ⟨by (with_reducible repeat (first | apply Kd.R_alloc | apply Kd.R_drewN | apply Kd.R_drew)); exact Kd.R_mono HO227.out (fun _ hk => trivial)⟩, ⟨blkQ BK216⟩, ⟨blkQ BK228⟩, ⟨beQ HB⟩⟩
  case rest =>
   clear HC11
   try clear c2
   try clear p2
   try clear c3
   try clear c3b0
   try clear c6
   try clear c7
   try clear c8
   try clear c9
   try clear c22
   try clear c26
   try clear c26b0
   try clear c26b1
   try clear hcz13_0
   try clear hcz13_1
   try clear hcz15_0
   try clear hcz15_1
   try clear hcz19_0
   try clear hcz19_1
   try clear hcz23_0
   try clear hcz23_1
   try clear hcz5_0
   try clear hcz5_1
   try clear hfz13_0
   try clear hfz13_1
   try clear hfz15_0
   try clear hfz15_1
   try clear hfz19_0
   try clear hfz19_1
   try clear hfz23_0
   try clear hfz23_1
   try clear hfz5_0
   try clear hfz5_1
   obtain ⟨kq, x34_10, rfl, HA, HJ10, HO_229001, BK216, BK228, HB⟩ := hcut
   cases kq with
   | zero => exact absurd HA.out (by simp [laws_FnExactAlphabetText.j0])
   | succ kj10 =>
    have H := HA.out; clear HA
    simp only [laws_FnExactAlphabetText.j0] at H
    by_cases c27 : x34_10 = true
    ·subst c27
     have H1 : (some false) = some r := by rw [if_pos rfl] at H; exact H
     clear H; have H := H1; clear H1
     obtain rfl := Option.some.inj H
     go_wp2
     go_ret
     exact ⟨rz, beQ HB⟩
    ·replace c27 := Bool.eq_false_iff.mpr c27
     subst c27
     have H1 : ((laws_toAlphabet.f kj10 a0_0 l0_1).bind fun bt231 => ((laws_eqAlphabet.f kj10 t224 t225 bt231.1 bt231.2).bind fun t235 => (if t235 = true then (some true) else (some false)))) = some r := by rw [if_neg (show ¬ (false = true) by decide)] at H; exact H
     clear H; have H := H1; clear H1; replace H := Option.bind_eq_some_iff.mp H
     obtain ⟨⟨t231, t232⟩, A280, H⟩ := H
     replace H : ((laws_eqAlphabet.f kj10 t224 t225 t231 t232).bind fun t235 => (if t235 = true then (some true) else (some false))) = some r := H
     have A28 := Aside0.mk A280; clear A280; replace H := Option.bind_eq_some_iff.mp H; obtain ⟨t235, A290, H⟩ := H
     replace H : (if t235 = true then (some true) else (some false)) = some r := H
     have A29 := Aside0.mk A290; clear A290
     by_cases c30 : t235 = true
     ·subst c30
      have H1 : (some true) = some r := by rw [if_pos rfl] at H; exact H
      clear H; have H := H1; clear H1
      obtain rfl := Option.some.inj H
      try go_wp2
      replace HO_229001 := Aside0.mk (Kd.R_drew HO_229001.out); replace BK216 := Aside0.mk (blk_drew BK216.out); replace BK228 := Aside0.mk (blk_drew BK228.out); replace HB := Aside0.mk (below_drew1 HB.out)
      refine start_ (n := 5) (S := fun w' => w'.cell? ⟨gb228, 0, none⟩ = some (.int .i64 t224) ∧ w'.cell? ⟨gb228, 1, none⟩ = some (.slice Ao24 t225.length co24) ∧ w'.cell? ⟨gb216, 0, none⟩ = some (.int .i64 a0_0) ∧ w'.cell? ⟨gb216, 1, none⟩ = some (.slice A0_1 l0_1.length c0_1)) (ds := []) #[false, false, false, false, false] (by kernel_rfl) rfl rfl ⟨bc BK228 0, bc BK228 1, bc BK216 0, bc BK216 1⟩ (fun hHeld => ?_)
      generalize wc.drew = w31 at HO_229001 BK216 BK228 HB hHeld ⊢
      refine take_ (i := 0) (N := some 35) (v := ?_) (a' := ?_) #[true, false, false, false, false] rfl rfl (by kernel_rfl) (fun _ _ _ h => h) (Or.inl ⟨by rfl, ?_⟩) hHeld ?_ ?_
      rotate_left
      ·rintro w' ⟨s0, s1, s2, s3⟩
       go_simp
       with_reducible rfl
      rotate_left
      ·simp only [Act.put, s1, s2, s3, i64_w, i32_w]
       rfl
      refine take_ (i := 1) (N := some 36) (v := ?_) (a' := ?_) #[true, true, false, false, false] rfl rfl (by kernel_rfl) (fun _ _ _ h => h) (Or.inl ⟨by rfl, ?_⟩) hHeld ?_ ?_
      rotate_left
      ·rintro w' ⟨s0, s1, s2, s3⟩
       go_simp
       with_reducible rfl
      rotate_left
      ·simp only [Act.put, s1, s2, s3, i64_w, i32_w]
       rfl
      refine one_ (i := 2) (N := some 37) #[true, true, true, false, false] rfl rfl (by kernel_rfl) (by decide) (fun K hK => ?_)
      refine goes_ Tryd.func8 (by kernel_rfl) rfl #[.agg #[.int .i64 a0_0, .slice A0_1 l0_1.length c0_1]] (by rfl) rfl rfl lz ?_
      with_reducible refine (laws_toAlphabet.calls kj10 a0_0 _ _ l0_1 t231 t232 _ ?side1 ?side2 A28.out).mono ?_
      (case side1 => have q_ := Aside0.mk (Kd.C_below HR0_1.out HB.out); exact cQ q_)
      (case side2 => exact HC0_1.out)
      rintro e w32 ⟨v233, rfl, ho0, hb⟩
      refine ⟨_, rfl, ?_⟩
      have HO234 := Aside0.mk (Kd.R_lower (Kd.R_new' ho0 (Kd.R_lt (kdQ HO_229001))) (below_size (beQ HB))); replace HO_229001 := Aside0.mk (Kd.R_elder' (kdQ HO_229001) (Kd.R_base ho0) hb); replace BK216 := bb BK216 hb; replace BK228 := bb BK228 hb; replace HB := Aside0.mk (below_step (beQ HB) hb)
      (try clear hb)
      (try clear hb2)
      (try clear hk)
      (try clear hi)
      (try clear ho0)
      obtain ⟨Ao33, co33, eo33⟩ := Kd.R_slice HO234.out
      (first | subst eo33 | (injection eo33 with f1_ f2_ f3_; have f4_ := f1_.symm; have f5_ := f3_.symm; clear f1_ f2_ f3_; subst f4_; subst f5_))
      refine hK.out _ _ ⟨bc BK228 0, bc BK228 1, bc BK216 0, bc BK216 1⟩ (fun hHeld => ?_)
      clear hK K
      refine norm_ (a' := ?_) ?_ ?_
      rotate_left
      ·show Act.put _ (some 37) _ = _
       simp only [Act.put, s1, s2, s3, i64_w, i32_w]
       rfl
      refine one_ (i := 3) (N := some 38) #[true, true, true, true, false] rfl rfl (by kernel_rfl) (by decide) (fun K hK => ?_)
      refine goes_ Tryd.func10 (by kernel_rfl) rfl #[.agg #[.int .i64 t224, .slice Ao24 t225.length co24], .agg #[.int .i64 t231, .slice Ao33 t232.length co33]] (by rfl) rfl rfl lz ?_
      with_reducible refine (laws_eqAlphabet.calls kj10 t224 _ _ t225 t231 _ _ t232 true _ ?side1 ?side2 ?side3 ?side4 A29.out).mono ?_
      (case side1 => have q_ := Aside0.mk (Kd.R_reads' HO_229001.out).2.2; exact cQ q_)
      (case side2 => exact (Kd.R_reads' HO_229001.out).2.1)
      (case side3 => have q_ := Aside0.mk (Kd.R_reads' HO234.out).2.2; exact cQ q_)
      (case side4 => exact (Kd.R_reads' HO234.out).2.1)
      rintro e w34 ⟨rfl, hb⟩
      refine ⟨_, rfl, ?_⟩
      replace HO_229001 := kb HO_229001 hb; replace HO234 := kb HO234 hb; replace BK216 := bb BK216 hb; replace BK228 := bb BK228 hb; replace HB := Aside0.mk (below_step (beQ HB) hb)
      (try clear hb)
      (try clear hb2)
      (try clear hk)
      (try clear hi)
      refine hK.out _ _ ⟨bc BK228 0, bc BK228 1, bc BK216 0, bc BK216 1⟩ (fun hHeld => ?_)
      clear hK K
      refine norm_ (a' := ?_) ?_ ?_
      rotate_left
      ·show Act.put _ (some 38) _ = _
       simp only [Act.put, s1, s2, s3, i64_w, i32_w]
       rfl
      refine pure_ (i := 4) (N := some 39) (v := ?_) (a' := ?_) #[true, true, true, true, true] rfl rfl (by kernel_rfl) (fun _ _ _ h => h) (Or.inl ⟨by rfl, ?_⟩) ?_ ?_
      rotate_left
      ·intro w'
       go_simp
       with_reducible rfl
      rotate_left
      ·simp only [Act.put, s1, s2, s3, i64_w, i32_w]
       rfl
      refine done_ (by kernel_rfl) ?_
      try go_wp2
      go_ret
      exact ⟨rz, beQ HB⟩
     ·replace c30 := Bool.eq_false_iff.mpr c30
      subst c30
      have H1 : (some false) = some r := by rw [if_neg (show ¬ (false = true) by decide)] at H; exact H
      clear H; have H := H1; clear H1
      obtain rfl := Option.some.inj H
      try go_wp2
      replace HO_229001 := Aside0.mk (Kd.R_drew HO_229001.out); replace BK216 := Aside0.mk (blk_drew BK216.out); replace BK228 := Aside0.mk (blk_drew BK228.out); replace HB := Aside0.mk (below_drew1 HB.out)
      refine start_ (n := 5) (S := fun w' => w'.cell? ⟨gb228, 0, none⟩ = some (.int .i64 t224) ∧ w'.cell? ⟨gb228, 1, none⟩ = some (.slice Ao24 t225.length co24) ∧ w'.cell? ⟨gb216, 0, none⟩ = some (.int .i64 a0_0) ∧ w'.cell? ⟨gb216, 1, none⟩ = some (.slice A0_1 l0_1.length c0_1)) (ds := []) #[false, false, false, false, false] (by kernel_rfl) rfl rfl ⟨bc BK228 0, bc BK228 1, bc BK216 0, bc BK216 1⟩ (fun hHeld => ?_)
      generalize wc.drew = w35 at HO_229001 BK216 BK228 HB hHeld ⊢
      refine take_ (i := 0) (N := some 35) (v := ?_) (a' := ?_) #[true, false, false, false, false] rfl rfl (by kernel_rfl) (fun _ _ _ h => h) (Or.inl ⟨by rfl, ?_⟩) hHeld ?_ ?_
      rotate_left
      ·rintro w' ⟨s0, s1, s2, s3⟩
       go_simp
       with_reducible rfl
      rotate_left
      ·simp only [Act.put, s1, s2, s3, i64_w, i32_w]
       rfl
      refine take_ (i := 1) (N := some 36) (v := ?_) (a' := ?_) #[true, true, false, false, false] rfl rfl (by kernel_rfl) (fun _ _ _ h => h) (Or.inl ⟨by rfl, ?_⟩) hHeld ?_ ?_
      rotate_left
      ·rintro w' ⟨s0, s1, s2, s3⟩
       go_simp
       with_reducible rfl
      rotate_left
      ·simp only [Act.put, s1, s2, s3, i64_w, i32_w]
       rfl
      refine one_ (i := 2) (N := some 37) #[true, true, true, false, false] rfl rfl (by kernel_rfl) (by decide) (fun K hK => ?_)
      refine goes_ Tryd.func8 (by kernel_rfl) rfl #[.agg #[.int .i64 a0_0, .slice A0_1 l0_1.length c0_1]] (by rfl) rfl rfl lz ?_
      with_reducible refine (laws_toAlphabet.calls kj10 a0_0 _ _ l0_1 t231 t232 _ ?side1 ?side2 A28.out).mono ?_
      (case side1 => have q_ := Aside0.mk (Kd.C_below HR0_1.out HB.out); exact cQ q_)
      (case side2 => exact HC0_1.out)
      rintro e w36 ⟨v233, rfl, ho0, hb⟩
      refine ⟨_, rfl, ?_⟩
      have HO234 := Aside0.mk (Kd.R_lower (Kd.R_new' ho0 (Kd.R_lt (kdQ HO_229001))) (below_size (beQ HB))); replace HO_229001 := Aside0.mk (Kd.R_elder' (kdQ HO_229001) (Kd.R_base ho0) hb); replace BK216 := bb BK216 hb; replace BK228 := bb BK228 hb; replace HB := Aside0.mk (below_step (beQ HB) hb)
      (try clear hb)
      (try clear hb2)
      (try clear hk)
      (try clear hi)
      (try clear ho0)
      obtain ⟨Ao37, co37, eo37⟩ := Kd.R_slice HO234.out
      (first | subst eo37 | (injection eo37 with f1_ f2_ f3_; have f4_ := f1_.symm; have f5_ := f3_.symm; clear f1_ f2_ f3_; subst f4_; subst f5_))
      refine hK.out _ _ ⟨bc BK228 0, bc BK228 1, bc BK216 0, bc BK216 1⟩ (fun hHeld => ?_)
      clear hK K
      refine norm_ (a' := ?_) ?_ ?_
      rotate_left
      ·show Act.put _ (some 37) _ = _
       simp only [Act.put, s1, s2, s3, i64_w, i32_w]
       rfl
      refine one_ (i := 3) (N := some 38) #[true, true, true, true, false] rfl rfl (by kernel_rfl) (by decide) (fun K hK => ?_)
      refine goes_ Tryd.func10 (by kernel_rfl) rfl #[.agg #[.int .i64 t224, .slice Ao24 t225.length co24], .agg #[.int .i64 t231, .slice Ao37 t232.length co37]] (by rfl) rfl rfl lz ?_
      with_reducible refine (laws_eqAlphabet.calls kj10 t224 _ _ t225 t231 _ _ t232 false _ ?side1 ?side2 ?side3 ?side4 A29.out).mono ?_
      (case side1 => have q_ := Aside0.mk (Kd.R_reads' HO_229001.out).2.2; exact cQ q_)
      (case side2 => exact (Kd.R_reads' HO_229001.out).2.1)
      (case side3 => have q_ := Aside0.mk (Kd.R_reads' HO234.out).2.2; exact cQ q_)
      (case side4 => exact (Kd.R_reads' HO234.out).2.1)
      rintro e w38 ⟨rfl, hb⟩
      refine ⟨_, rfl, ?_⟩
      replace HO_229001 := kb HO_229001 hb; replace HO234 := kb HO234 hb; replace BK216 := bb BK216 hb; replace BK228 := bb BK228 hb; replace HB := Aside0.mk (below_step (beQ HB) hb)
      (try clear hb)
      (try clear hb2)
      (try clear hk)
      (try clear hi)
      refine hK.out _ _ ⟨bc BK228 0, bc BK228 1, bc BK216 0, bc BK216 1⟩ (fun hHeld => ?_)
      clear hK K
      refine norm_ (a' := ?_) ?_ ?_
      rotate_left
      ·show Act.put _ (some 38) _ = _
       simp only [Act.put, s1, s2, s3, i64_w, i32_w]
       rfl
      refine pure_ (i := 4) (N := some 39) (v := ?_) (a' := ?_) #[true, true, true, true, true] rfl rfl (by kernel_rfl) (fun _ _ _ h => h) (Or.inl ⟨by rfl, ?_⟩) ?_ ?_
      rotate_left
      ·intro w'
       go_simp
       with_reducible rfl
      rotate_left
      ·simp only [Act.put, s1, s2, s3, i64_w, i32_w]
       rfl
      refine done_ (by kernel_rfl) ?_
      try go_wp2
      go_ret
      exact ⟨rz, beQ HB⟩

end Go.Proofs.YtbhkpfkkjknmlaaDoor.G
