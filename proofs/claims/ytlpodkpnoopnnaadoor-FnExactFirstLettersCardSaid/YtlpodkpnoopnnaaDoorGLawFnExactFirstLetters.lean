/- How the program's functions compute, function by function: each is told by a plain Lean function of the same answers, under the condition that this one answers. Written by a program of this project over the seat's translation; Lean checks it. -/
import Derived.Test.YtlpodkpnoopnnaaDoorG0
import Derived.Test.YtlpodkpnoopnnaaDoorGQ00
import Derived.Test.YtlpodkpnoopnnaaDoorGQ05
namespace Go.Proofs.YtlpodkpnoopnnaaDoor.G
open Go.RowKit Go.Proofs.YtlpodkpnoopnnaaDoorW.PrintWords Go.Proofs.YtlpodkpnoopnnaaDoorW.PrintLast Go.Proofs.YtlpodkpnoopnnaaDoorW.PrintMore
attribute [local go_sem] max2_int min2_int max_two min_two max_three min_three max_four min_four   -- for this text's walks alone
set_option linter.unusedVariables false
set_option linter.unusedSimpArgs false

/-! ### laws_FnExactFirstLetters: function 3 -/
def laws_FnExactFirstLetters.j0 : Nat → List Int → List Int → Bool → Int → List Int → Int → List Int → Option (Bool)
 | 0, _, _, _, _, _, _, _ => none
 | k + 1, x1, x9, x45, x195000, x195001, x210000, x210001 => if x45 = true then (some false) else ((laws_toAlphabet.f k x195000 x195001).bind fun bt215 => ((laws_eqAlphabet.f k x210000 x210001 bt215.1 bt215.2).bind fun t219 => (if t219 = true then ((laws_toInt64S.f k x1).bind fun t220 => ((laws_eqInt64S.f k x9 t220).bind fun t223 => (if t223 = true then (some true) else (some false)))) else (some false))))
def laws_FnExactFirstLetters.f (k : Nat) (a0_0 : Int) (l0_1 : List Int) (l1 : List Int) : Option (Bool) := if (l1.length : Int) > 1048576 then (some true) else ((laws_szAlphabet.f a0_0 l0_1 1048576).bind fun t195 => (if t195 < 0 then (some true) else ((laws_toAlphabet.f k a0_0 l0_1).bind fun bt196 => ((laws_toInt64S.f k l1).bind fun t200 => ((spec_FirstLetters.f k bt196.1 bt196.2 t200).bind fun bt203 => ((laws_toAlphabet.f k a0_0 l0_1).bind fun bt205 => ((laws_toInt64S.f k l1).bind fun t210 => ((impl_FirstLetters.f k bt205.1 bt205.2 t210).bind fun bt213 => (if bt213.1 = bt203.1 then (laws_FnExactFirstLetters.j0 k l1 t210 (bt213.2 != bt203.2) a0_0 l0_1 bt205.1 bt205.2) else (laws_FnExactFirstLetters.j0 k l1 t210 true a0_0 l0_1 bt205.1 bt205.2))))))))))
theorem laws_FnExactFirstLetters.mono_l : ∀ k, (∀ y0 y1 y2 y3 y4 y5 y6, LeO (laws_FnExactFirstLetters.j0 k y0 y1 y2 y3 y4 y5 y6) (laws_FnExactFirstLetters.j0 (k + 1) y0 y1 y2 y3 y4 y5 y6))
 | 0 => fun _ _ _ _ _ _ _ r h => by simp [laws_FnExactFirstLetters.j0] at h
 | k + 1 => by
  have ih0 := laws_FnExactFirstLetters.mono_l k
  ·intro y0 y1 y2 y3 y4 y5 y6
   unfold laws_FnExactFirstLetters.j0
   repeat' first
   | (with_reducible exact ih0 _ _ _ _ _ _ _)
   | (with_reducible exact impl_FirstLetters.mono _ _ _ _)
   | (with_reducible exact laws_eqAlphabet.mono _ _ _ _ _)
   | (with_reducible exact laws_eqInt64S.mono _ _ _)
   | (with_reducible exact laws_toAlphabet.mono _ _ _)
   | (with_reducible exact laws_toInt64S.mono _ _)
   | (with_reducible exact spec_FirstLetters.mono _ _ _ _)
   | (with_reducible exact LeO.refl _)
   | (with_reducible exact LeO.none _)
   | (with_reducible refine LeO.ite ?_ ?_)
   | (with_reducible refine LeO.bind ?_ (fun _ => ?_))
   | exact ih0 _ _ _ _ _ _ _
   | exact impl_FirstLetters.mono _ _ _ _
   | exact laws_eqAlphabet.mono _ _ _ _ _
   | exact laws_eqInt64S.mono _ _ _
   | exact laws_toAlphabet.mono _ _ _
   | exact laws_toInt64S.mono _ _
   | exact spec_FirstLetters.mono _ _ _ _
   | exact LeO.none _
   | refine LeO.ite ?_ ?_
   | refine LeO.bind ?_ (fun _ => ?_)
theorem laws_FnExactFirstLetters.mono : ∀ a0 a1 a2 k, LeO (laws_FnExactFirstLetters.f k a0 a1 a2) (laws_FnExactFirstLetters.f (k + 1) a0 a1 a2) := by
 intro a0 a1 a2 k
 have ih0 := laws_FnExactFirstLetters.mono_l k
 unfold laws_FnExactFirstLetters.f
 repeat' first
   | (with_reducible exact ih0 _ _ _ _ _ _ _)
   | (with_reducible exact impl_FirstLetters.mono _ _ _ _)
   | (with_reducible exact laws_eqAlphabet.mono _ _ _ _ _)
   | (with_reducible exact laws_eqInt64S.mono _ _ _)
   | (with_reducible exact laws_toAlphabet.mono _ _ _)
   | (with_reducible exact laws_toInt64S.mono _ _)
   | (with_reducible exact spec_FirstLetters.mono _ _ _ _)
   | (with_reducible exact LeO.refl _)
   | (with_reducible exact LeO.none _)
   | (with_reducible refine LeO.ite ?_ ?_)
   | (with_reducible refine LeO.bind ?_ (fun _ => ?_))
   | exact ih0 _ _ _ _ _ _ _
   | exact impl_FirstLetters.mono _ _ _ _
   | exact laws_eqAlphabet.mono _ _ _ _ _
   | exact laws_eqInt64S.mono _ _ _
   | exact laws_toAlphabet.mono _ _ _
   | exact laws_toInt64S.mono _ _
   | exact spec_FirstLetters.mono _ _ _ _
   | exact LeO.none _
   | refine LeO.ite ?_ ?_
   | refine LeO.bind ?_ (fun _ => ?_)
set_option maxHeartbeats 8000000 in
set_option maxRecDepth 100000 in
theorem laws_FnExactFirstLetters.calls (k : Nat) (a0_0 : Int) (A0_1 : Option Addr) (c0_1 : Nat) (l0_1 : List Int) (A1 : Option Addr) (c1 : Nat) (l1 : List Int) (r : Bool) (w : World) (hr0_1 : Kd.C (Kd.int .i64) w A0_1 l0_1.length l0_1) (hc0_1 : l0_1.length ≤ c0_1) (hr1 : Kd.C (Kd.int .i64) w A1 l1.length l1) (hc1 : l1.length ≤ c1) (hT : TabW w) (h : laws_FnExactFirstLetters.f k a0_0 l0_1 l1 = some r) :
  Calls Tryd.prog 3 #[.agg #[.int .i64 a0_0, .slice A0_1 l0_1.length c0_1], .slice A1 l1.length c1] w fun e w' => e = .returned (.bool r) ∧ Below w.heap.size w w' := by
 have hu24 := Tryd.underlying24; have hu28 := Tryd.underlying28; have HT := Aside0.mk hT; clear hT; have HR0_1 := Aside0.mk hr0_1; have HC0_1 := Aside0.mk hc0_1; clear hr0_1 hc0_1; have HR1 := Aside0.mk hr1; have HC1 := Aside0.mk hc1; clear hr1 hc1; have HB := Aside0.mk (Below.refl w.heap.size w)
 have H : (if (l1.length : Int) > 1048576 then (some true) else ((laws_szAlphabet.f a0_0 l0_1 1048576).bind fun t195 => (if t195 < 0 then (some true) else ((laws_toAlphabet.f k a0_0 l0_1).bind fun bt196 => ((laws_toInt64S.f k l1).bind fun t200 => ((spec_FirstLetters.f k bt196.1 bt196.2 t200).bind fun bt203 => ((laws_toAlphabet.f k a0_0 l0_1).bind fun bt205 => ((laws_toInt64S.f k l1).bind fun t210 => ((impl_FirstLetters.f k bt205.1 bt205.2 t210).bind fun bt213 => (if bt213.1 = bt203.1 then (laws_FnExactFirstLetters.j0 k l1 t210 (bt213.2 != bt203.2) a0_0 l0_1 bt205.1 bt205.2) else (laws_FnExactFirstLetters.j0 k l1 t210 true a0_0 l0_1 bt205.1 bt205.2))))))))))) = some r := h
 clear h
 by_cases c3 : (l1.length : Int) > 1048576
 ·rw [if_pos c3] at H
  have c3b0 : decide (1048576 < (l1.length : Int)) = true := decide_eq_true c3
  have c3b1 : decide (1048576 < l1.length) = true := decide_eq_true (by omega)
  clear c3
  obtain rfl := Option.some.inj H
  go_enter Tryd.func3, Tryd.ntmps3
  go_wp2_with (first | ((with_reducible refine gate_dst (N := 2) rfl ?_); refine box_event ?hg (N := 2) ?hd (cs := #[.int .i64 a0_0, .slice A0_1 l0_1.length c0_1]) (t := 24) ?hr ?_; (case hd => rfl); (case hg => rfl); (case hr => first | (go_simp; done) | (go_simp; rfl)); intro gb194 hg w4 hbox hb; have BK194 := Aside0.mk (hbox); have GW194 := Aside0.mk ((by rw [hg]; exact (below_size (beQ HB)) : w.heap.size ≤ gb194)); have GE194 := Aside0.mk ((by rw [hg]; exact (below_size (beQ HB)) : w.heap.size ≤ gb194)); replace HB := Aside0.mk (below_step (beQ HB) hb); clear hb hbox hg))
  go_ret
  exact ⟨rz, beQ HB⟩
 ·rw [if_neg c3] at H
  have c3b0 : decide (1048576 < (l1.length : Int)) = false := decide_eq_false c3
  have c3b1 : decide (1048576 < l1.length) = false := decide_eq_false (by omega)
  clear c3; replace H := Option.bind_eq_some_iff.mp H; obtain ⟨t195, A50, H⟩ := H
  replace H : (if t195 < 0 then (some true) else ((laws_toAlphabet.f k a0_0 l0_1).bind fun bt196 => ((laws_toInt64S.f k l1).bind fun t200 => ((spec_FirstLetters.f k bt196.1 bt196.2 t200).bind fun bt203 => ((laws_toAlphabet.f k a0_0 l0_1).bind fun bt205 => ((laws_toInt64S.f k l1).bind fun t210 => ((impl_FirstLetters.f k bt205.1 bt205.2 t210).bind fun bt213 => (if bt213.1 = bt203.1 then (laws_FnExactFirstLetters.j0 k l1 t210 (bt213.2 != bt203.2) a0_0 l0_1 bt205.1 bt205.2) else (laws_FnExactFirstLetters.j0 k l1 t210 true a0_0 l0_1 bt205.1 bt205.2))))))))) = some r := H
  have A5 := Aside0.mk A50; clear A50
  by_cases c6 : t195 < 0
  ·rw [if_pos c6] at H
   have c6b0 : decide (t195 < 0) = true := decide_eq_true c6
   clear c6
   obtain rfl := Option.some.inj H
   go_enter Tryd.func3, Tryd.ntmps3
   go_wp2_with (first | ((with_reducible refine gate_dst (N := 2) rfl ?_); refine box_event ?hg (N := 2) ?hd (cs := #[.int .i64 a0_0, .slice A0_1 l0_1.length c0_1]) (t := 24) ?hr ?_; (case hd => rfl); (case hg => rfl); (case hr => first | (go_simp; done) | (go_simp; rfl)); intro gb194 hg w7 hbox hb; have BK194 := Aside0.mk (hbox); have GW194 := Aside0.mk ((by rw [hg]; exact (below_size (beQ HB)) : w.heap.size ≤ gb194)); have GE194 := Aside0.mk ((by rw [hg]; exact (below_size (beQ HB)) : w.heap.size ≤ gb194)); replace HB := Aside0.mk (below_step (beQ HB) hb); clear hb hbox hg; have hcz8_0 : w7.cell? ⟨gb194, 0, none⟩ = some (.int .i64 a0_0) := bc BK194 0; have hcz8_1 : w7.cell? ⟨gb194, 1, none⟩ = some (.slice A0_1 l0_1.length c0_1) := bc BK194 1; have hfz8_0 := blk_frozen BK194.out 0; have hfz8_1 := blk_frozen BK194.out 1) | ((with_reducible refine gate_callee (f := 15) rfl ?_); refine goesL_ (some 17) rfl rfl Tryd.func15 (by kernel_rfl) rfl #[.agg #[.int .i64 a0_0, .slice A0_1 l0_1.length c0_1], .int .i64 1048576] rfl lz ?_; (with_reducible refine (laws_szAlphabet.calls a0_0 _ _ l0_1 1048576 t195 _ ?side1 ?side2 A5.out).mono ?_); (case side1 => have q_ := Aside0.mk (Kd.C_below HR0_1.out HB.out); exact cQ q_); (case side2 => exact HC0_1.out); rintro e w9 ⟨rfl, hb⟩; refine ⟨_, rfl, ?_⟩; replace BK194 := bb BK194 hb; replace HB := Aside0.mk (below_step (beQ HB) hb); (try clear hb); (try clear hb2); (try clear hk); (try clear hi)))
   go_ret
   exact ⟨rz, beQ HB⟩
  ·rw [if_neg c6] at H
   have c6b0 : decide (t195 < 0) = false := decide_eq_false c6
   clear c6; replace H := Option.bind_eq_some_iff.mp H
   obtain ⟨⟨t196, t197⟩, A100, H⟩ := H
   replace H : ((laws_toInt64S.f k l1).bind fun t200 => ((spec_FirstLetters.f k t196 t197 t200).bind fun bt203 => ((laws_toAlphabet.f k a0_0 l0_1).bind fun bt205 => ((laws_toInt64S.f k l1).bind fun t210 => ((impl_FirstLetters.f k bt205.1 bt205.2 t210).bind fun bt213 => (if bt213.1 = bt203.1 then (laws_FnExactFirstLetters.j0 k l1 t210 (bt213.2 != bt203.2) a0_0 l0_1 bt205.1 bt205.2) else (laws_FnExactFirstLetters.j0 k l1 t210 true a0_0 l0_1 bt205.1 bt205.2))))))) = some r := H
   have A10 := Aside0.mk A100; clear A100; replace H := Option.bind_eq_some_iff.mp H; obtain ⟨t200, A110, H⟩ := H
   replace H : ((spec_FirstLetters.f k t196 t197 t200).bind fun bt203 => ((laws_toAlphabet.f k a0_0 l0_1).bind fun bt205 => ((laws_toInt64S.f k l1).bind fun t210 => ((impl_FirstLetters.f k bt205.1 bt205.2 t210).bind fun bt213 => (if bt213.1 = bt203.1 then (laws_FnExactFirstLetters.j0 k l1 t210 (bt213.2 != bt203.2) a0_0 l0_1 bt205.1 bt205.2) else (laws_FnExactFirstLetters.j0 k l1 t210 true a0_0 l0_1 bt205.1 bt205.2)))))) = some r := H
   have A11 := Aside0.mk A110; clear A110; replace H := Option.bind_eq_some_iff.mp H
   obtain ⟨⟨t203, t204⟩, A120, H⟩ := H
   replace H : ((laws_toAlphabet.f k a0_0 l0_1).bind fun bt205 => ((laws_toInt64S.f k l1).bind fun t210 => ((impl_FirstLetters.f k bt205.1 bt205.2 t210).bind fun bt213 => (if bt213.1 = t203 then (laws_FnExactFirstLetters.j0 k l1 t210 (bt213.2 != t204) a0_0 l0_1 bt205.1 bt205.2) else (laws_FnExactFirstLetters.j0 k l1 t210 true a0_0 l0_1 bt205.1 bt205.2))))) = some r := H
   have A12 := Aside0.mk A120; clear A120; replace H := Option.bind_eq_some_iff.mp H
   obtain ⟨⟨t205, t206⟩, A130, H⟩ := H
   replace H : ((laws_toInt64S.f k l1).bind fun t210 => ((impl_FirstLetters.f k t205 t206 t210).bind fun bt213 => (if bt213.1 = t203 then (laws_FnExactFirstLetters.j0 k l1 t210 (bt213.2 != t204) a0_0 l0_1 t205 t206) else (laws_FnExactFirstLetters.j0 k l1 t210 true a0_0 l0_1 t205 t206)))) = some r := H
   have A13 := Aside0.mk A130; clear A130; replace H := Option.bind_eq_some_iff.mp H; obtain ⟨t210, A140, H⟩ := H
   replace H : ((impl_FirstLetters.f k t205 t206 t210).bind fun bt213 => (if bt213.1 = t203 then (laws_FnExactFirstLetters.j0 k l1 t210 (bt213.2 != t204) a0_0 l0_1 t205 t206) else (laws_FnExactFirstLetters.j0 k l1 t210 true a0_0 l0_1 t205 t206))) = some r := H
   have A14 := Aside0.mk A140; clear A140; replace H := Option.bind_eq_some_iff.mp H
   obtain ⟨⟨t213, t214⟩, A150, H⟩ := H
   replace H : (if t213 = t203 then (laws_FnExactFirstLetters.j0 k l1 t210 (t214 != t204) a0_0 l0_1 t205 t206) else (laws_FnExactFirstLetters.j0 k l1 t210 true a0_0 l0_1 t205 t206)) = some r := H
   have A15 := Aside0.mk A150; clear A150; have HC16 := Aside0.mk H; clear H
   go_enter Tryd.func3, Tryd.ntmps3
   go_upto_region 11 with (first | ((with_reducible refine gate_dst (N := 2) rfl ?_); refine box_event ?hg (N := 2) ?hd (cs := #[.int .i64 a0_0, .slice A0_1 l0_1.length c0_1]) (t := 24) ?hr ?_; (case hd => rfl); (case hg => rfl); (case hr => first | (go_simp; done) | (go_simp; rfl)); intro gb194 hg w17 hbox hb; have BK194 := Aside0.mk (hbox); have GW194 := Aside0.mk ((by rw [hg]; exact (below_size (beQ HB)) : w.heap.size ≤ gb194)); have GE194 := Aside0.mk ((by rw [hg]; exact (below_size (beQ HB)) : w.heap.size ≤ gb194)); replace HB := Aside0.mk (below_step (beQ HB) hb); clear hb hbox hg; have hcz18_0 : w17.cell? ⟨gb194, 0, none⟩ = some (.int .i64 a0_0) := bc BK194 0; have hcz18_1 : w17.cell? ⟨gb194, 1, none⟩ = some (.slice A0_1 l0_1.length c0_1) := bc BK194 1; have hfz18_0 := blk_frozen BK194.out 0; have hfz18_1 := blk_frozen BK194.out 1) | ((with_reducible refine gate_callee (f := 15) rfl ?_); refine goesL_ (some 17) rfl rfl Tryd.func15 (by kernel_rfl) rfl #[.agg #[.int .i64 a0_0, .slice A0_1 l0_1.length c0_1], .int .i64 1048576] rfl lz ?_; (with_reducible refine (laws_szAlphabet.calls a0_0 _ _ l0_1 1048576 t195 _ ?side1 ?side2 A5.out).mono ?_); (case side1 => have q_ := Aside0.mk (Kd.C_below HR0_1.out HB.out); exact cQ q_); (case side2 => exact HC0_1.out); rintro e w19 ⟨rfl, hb⟩; refine ⟨_, rfl, ?_⟩; replace BK194 := bb BK194 hb; replace HB := Aside0.mk (below_step (beQ HB) hb); (try clear hb); (try clear hb2); (try clear hk); (try clear hi); have hcz20_0 : w19.cell? ⟨gb194, 0, none⟩ = some (.int .i64 a0_0) := bc BK194 0; have hcz20_1 : w19.cell? ⟨gb194, 1, none⟩ = some (.slice A0_1 l0_1.length c0_1) := bc BK194 1; have hfz20_0 := blk_frozen BK194.out 0; have hfz20_1 := blk_frozen BK194.out 1) | ((with_reducible refine gate_callee (f := 17) rfl ?_); refine goesL_ (some 22) rfl rfl Tryd.func17 (by kernel_rfl) rfl #[.agg #[.int .i64 a0_0, .slice A0_1 l0_1.length c0_1]] rfl lz ?_; (with_reducible refine (laws_toAlphabet.calls k a0_0 _ _ l0_1 t196 t197 _ ?side1 ?side2 A10.out).mono ?_); (case side1 => have q_ := Aside0.mk (Kd.C_below HR0_1.out HB.out); exact cQ q_); (case side2 => exact HC0_1.out); rintro e w21 ⟨v198, rfl, ho0, hb⟩; refine ⟨_, rfl, ?_⟩; have HO199 := Aside0.mk (Kd.R_lower ho0 (below_size (beQ HB))); replace BK194 := bb BK194 hb; replace HB := Aside0.mk (below_step (beQ HB) hb); (try clear hb); (try clear hb2); (try clear hk); (try clear hi); (try clear ho0)) | ((with_reducible refine gate_callee (f := 18) rfl ?_); refine goesL_ (some 24) rfl rfl Tryd.func18 (by kernel_rfl) rfl #[.slice A1 l1.length c1] rfl lz ?_; (with_reducible refine (laws_toInt64S.calls k _ _ l1 t200 _ ?side1 ?side2 A11.out).mono ?_); (case side1 => have q_ := Aside0.mk (Kd.C_below HR1.out HB.out); exact cQ q_); (case side2 => exact HC1.out); rintro e w22 ⟨v201, rfl, ho0, hb⟩; refine ⟨_, rfl, ?_⟩; have HO202 := Aside0.mk (Kd.R_lower (Kd.R_new' ho0 (Kd.R_lt (kdQ HO199))) (below_size (beQ HB))); replace HO199 := Aside0.mk (Kd.R_elder' (kdQ HO199) (Kd.R_base ho0) hb); replace BK194 := bb BK194 hb; replace HB := Aside0.mk (below_step (beQ HB) hb); (try clear hb); (try clear hb2); (try clear hk); (try clear hi); (try clear ho0); obtain ⟨Ao23, co23, eo23⟩ := Kd.R_slice HO199.out; subst eo23; obtain ⟨Ao24, co24, eo24⟩ := Kd.R_slice HO202.out; subst eo24) | ((with_reducible refine gate_callee (f := 16) rfl ?_); refine goesL_ (some 25) rfl rfl Tryd.func16 (by kernel_rfl) rfl #[.agg #[.int .i64 t196, .slice Ao23 t197.length co23], .slice Ao24 t200.length co24] rfl lz ?_; (with_reducible refine (spec_FirstLetters.calls k t196 _ _ t197 _ _ t200 t203 t204 _ ?side1 ?side2 ?side3 ?side4 A12.out).mono ?_); (case side1 => have q_ := Aside0.mk (Kd.R_reads' HO199.out).2.2; exact cQ q_); (case side2 => exact (Kd.R_reads' HO199.out).2.1); (case side3 => have q_ := Aside0.mk (Kd.R_reads' HO202.out).2.2; exact cQ q_); (case side4 => exact (Kd.R_reads' HO202.out).2.1); rintro e w25 ⟨rfl, hb⟩; refine ⟨_, rfl, ?_⟩; replace HO199 := kb HO199 hb; replace HO202 := kb HO202 hb; replace BK194 := bb BK194 hb; replace HB := Aside0.mk (below_step (beQ HB) hb); (try clear hb); (try clear hb2); (try clear hk); (try clear hi); have hcz26_0 : w25.cell? ⟨gb194, 0, none⟩ = some (.int .i64 a0_0) := bc BK194 0; have hcz26_1 : w25.cell? ⟨gb194, 1, none⟩ = some (.slice A0_1 l0_1.length c0_1) := bc BK194 1; have hfz26_0 := blk_frozen BK194.out 0; have hfz26_1 := blk_frozen BK194.out 1) | ((with_reducible refine gate_callee (f := 17) rfl ?_); refine goesL_ (some 29) rfl rfl Tryd.func17 (by kernel_rfl) rfl #[.agg #[.int .i64 a0_0, .slice A0_1 l0_1.length c0_1]] rfl lz ?_; (with_reducible refine (laws_toAlphabet.calls k a0_0 _ _ l0_1 t205 t206 _ ?side1 ?side2 A13.out).mono ?_); (case side1 => have q_ := Aside0.mk (Kd.C_below HR0_1.out HB.out); exact cQ q_); (case side2 => exact HC0_1.out); rintro e w27 ⟨v207, rfl, ho0, hb⟩; refine ⟨_, rfl, ?_⟩; have HO208 := Aside0.mk (Kd.R_lower (Kd.R_new' (Kd.R_new' ho0 (Kd.R_lt (kdQ HO199))) (Kd.R_lt (kdQ HO202))) (below_size (beQ HB))); replace HO199 := Aside0.mk (Kd.R_elder' (kdQ HO199) (Kd.R_base ho0) hb); replace HO202 := Aside0.mk (Kd.R_elder' (kdQ HO202) (Kd.R_base ho0) hb); replace BK194 := bb BK194 hb; replace HB := Aside0.mk (below_step (beQ HB) hb); (try clear hb); (try clear hb2); (try clear hk); (try clear hi); (try clear ho0)) | ((with_reducible refine gate_dst (N := 8) rfl ?_); refine box_event ?hg (N := 8) ?hd (cs := #[.int .i64 0, .slice none 0 0]) (t := 28) ?hr ?_; (case hd => rfl); (case hg => rfl); (case hr => first | (go_simp; done) | (go_simp; rfl)); intro gb209 hg w28 hbox hb; replace HO199 := kb HO199 hb; replace HO202 := kb HO202 hb; replace HO208 := kb HO208 hb; have BK209 := Aside0.mk (hbox); have GW209 := Aside0.mk ((by rw [hg]; exact (below_size (beQ HB)) : w.heap.size ≤ gb209)); have GE209 := Aside0.mk ((by rw [hg]; exact (below_size (beQ HB)) : w.heap.size ≤ gb209)); replace HB := Aside0.mk (below_step (beQ HB) hb); have NB194_209 := Aside0.mk ((by rw [hg]; exact Nat.ne_of_lt (blk_lt (blkQ BK194)) : gb194 ≠ gb209)); have NB209_194 := Aside0.mk ((by rw [hg]; exact Nat.ne_of_gt (blk_lt (blkQ BK194)) : gb209 ≠ gb194)); replace BK194 := bb BK194 hb; clear hb hbox hg; have hnb29 := NB209_194.out; have hnc29 := NB194_209.out; have hcz30_0 : w28.cell? ⟨gb209, 0, none⟩ = some (.int .i64 0) := bc BK209 0; have hcz30_1 : w28.cell? ⟨gb209, 1, none⟩ = some (.slice none 0 0) := bc BK209 1; have hfz30_0 := blk_frozen BK209.out 0; have hfz30_1 := blk_frozen BK209.out 1; obtain ⟨Ao31, co31, eo31⟩ := Kd.R_slice HO208.out; subst eo31) | ((with_reducible refine gate_callee (f := 18) rfl ?_); refine goesL_ (some 31) rfl rfl Tryd.func18 (by kernel_rfl) rfl #[.slice A1 l1.length c1] rfl lz ?_; (with_reducible refine (laws_toInt64S.calls k _ _ l1 t210 _ ?side1 ?side2 A14.out).mono ?_); (case side1 => exact Kd.C_below HR1.out (beQ HB)); (case side2 => exact HC1.out); rintro e w32 ⟨v211, rfl, ho0, hb⟩; refine ⟨_, rfl, ?_⟩; have HO212 := Aside0.mk (Kd.R_lower (Kd.R_new' (Kd.R_new' (Kd.R_new' ho0 (Kd.R_lt (by (with_reducible repeat (first | apply Kd.R_alloc | apply Kd.R_drewN | apply Kd.R_drew)); exact (Kd.R_mono (Kd.R_far (p := ⟨gb209, 1, none⟩) (Kd.R_far (p := ⟨gb209, 0, none⟩) (Kd.R_types HO199.out BK209.out (by decide)) (fun _ hk => hk.2) (.int .i64 t205)) (fun _ hk => hk.2) (.slice Ao31 t206.length co31)) (fun _ h_ => h_.1))))) (Kd.R_lt (by (with_reducible repeat (first | apply Kd.R_alloc | apply Kd.R_drewN | apply Kd.R_drew)); exact (Kd.R_mono (Kd.R_far (p := ⟨gb209, 1, none⟩) (Kd.R_far (p := ⟨gb209, 0, none⟩) (Kd.R_types HO202.out BK209.out (by decide)) (fun _ hk => hk.2) (.int .i64 t205)) (fun _ hk => hk.2) (.slice Ao31 t206.length co31)) (fun _ h_ => h_.1))))) (Kd.R_lt (by (with_reducible repeat (first | apply Kd.R_alloc | apply Kd.R_drewN | apply Kd.R_drew)); exact (Kd.R_mono (Kd.R_far (p := ⟨gb209, 1, none⟩) (Kd.R_far (p := ⟨gb209, 0, none⟩) (Kd.R_types HO208.out BK209.out (by decide)) (fun _ hk => hk.2) (.int .i64 t205)) (fun _ hk => hk.2) (.slice Ao31 t206.length co31)) (fun _ h_ => h_.1))))) (below_size (beQ HB))); replace HO199 := Aside0.mk (Kd.R_elder' (by (with_reducible repeat (first | apply Kd.R_alloc | apply Kd.R_drewN | apply Kd.R_drew)); exact (Kd.R_mono (Kd.R_far (p := ⟨gb209, 1, none⟩) (Kd.R_far (p := ⟨gb209, 0, none⟩) (Kd.R_types HO199.out BK209.out (by decide)) (fun _ hk => hk.2) (.int .i64 t205)) (fun _ hk => hk.2) (.slice Ao31 t206.length co31)) (fun _ h_ => h_.1))) (Kd.R_base ho0) hb); replace HO202 := Aside0.mk (Kd.R_elder' (by (with_reducible repeat (first | apply Kd.R_alloc | apply Kd.R_drewN | apply Kd.R_drew)); exact (Kd.R_mono (Kd.R_far (p := ⟨gb209, 1, none⟩) (Kd.R_far (p := ⟨gb209, 0, none⟩) (Kd.R_types HO202.out BK209.out (by decide)) (fun _ hk => hk.2) (.int .i64 t205)) (fun _ hk => hk.2) (.slice Ao31 t206.length co31)) (fun _ h_ => h_.1))) (Kd.R_base ho0) hb); replace HO208 := Aside0.mk (Kd.R_elder' (by (with_reducible repeat (first | apply Kd.R_alloc | apply Kd.R_drewN | apply Kd.R_drew)); exact (Kd.R_mono (Kd.R_far (p := ⟨gb209, 1, none⟩) (Kd.R_far (p := ⟨gb209, 0, none⟩) (Kd.R_types HO208.out BK209.out (by decide)) (fun _ hk => hk.2) (.int .i64 t205)) (fun _ hk => hk.2) (.slice Ao31 t206.length co31)) (fun _ h_ => h_.1))) (Kd.R_base ho0) hb); replace BK194 := Aside0.mk (blk_below (blkF BK194) hb); replace BK209 := Aside0.mk (blk_below (g := gb209) (o := .cells #[.int .i64 t205, .slice Ao31 t206.length co31] 28 (0, 0)) (by (with_reducible repeat (first | refine blk_drewN ?_ _ | refine blk_drew ?_ | refine blk_alloc ?_ _)); refine blk_put (cs := #[.int .i64 t205, .slice none 0 0]) ?_ 1 _ rfl; (with_reducible repeat (first | refine blk_drewN ?_ _ | refine blk_drew ?_ | refine blk_alloc ?_ _)); refine blk_put (cs := #[.int .i64 0, .slice none 0 0]) ?_ 0 _ rfl; (with_reducible repeat (first | refine blk_drewN ?_ _ | refine blk_drew ?_ | refine blk_alloc ?_ _)); exact BK209.out) hb); replace HB := Aside0.mk (below_step (beQ HB) hb); (try clear hb); (try clear hb2); (try clear hk); (try clear hi); (try clear ho0); have hcz33_0 : w32.cell? ⟨gb209, 0, none⟩ = some (.int .i64 t205) := bc BK209 0; have hcz33_1 : w32.cell? ⟨gb209, 1, none⟩ = some (.slice Ao31 t206.length co31) := bc BK209 1; have hfz33_0 := blk_frozen BK209.out 0; have hfz33_1 := blk_frozen BK209.out 1; obtain ⟨Ao34, co34, eo34⟩ := Kd.R_slice HO212.out; subst eo34) | ((with_reducible refine gate_callee (f := 19) rfl ?_); refine goesL_ (some 35) rfl rfl Tryd.func19 (by kernel_rfl) rfl #[.agg #[.int .i64 t205, .slice Ao31 t206.length co31], .slice Ao34 t210.length co34] rfl lz ?_; (with_reducible refine (impl_FirstLetters.calls k t205 _ _ t206 (fun k_ => some k_ = (.slice Ao34 t210.length co34 : Value).ownBlock) _ _ t210 t213 t214 _ ?side1 ?side2 ?side3 ?side4 A15.out).mono ?_); (case side1 => have q_ := Aside0.mk (Kd.R_reads' HO208.out).2.2; exact cQ q_); (case side2 => exact (Kd.R_reads' HO208.out).2.1); (case side3 => exact Kd.R_V (Kd.R_tight rfl (Kd.R_types (Kd.R_types (HO212.out) BK194.out (by decide)) BK209.out (by decide)))); (case side4 => exact TabW.below HT.out (beQ HB)); rintro e w35 ⟨rfl, hb⟩; refine ⟨_, rfl, ?_⟩; replace HO199 := kb HO199 hb; replace HO202 := kb HO202 hb; replace HO208 := kb HO208 hb; replace HO212 := kb HO212 hb; replace BK194 := bb BK194 hb; replace BK209 := bb BK209 hb; replace HB := Aside0.mk (below_step (beQ HB) hb); (try clear hb); (try clear hb2); (try clear hk); (try clear hi)))
   (try simp only [Act.put, List.setIfInBounds_toArray, List.set_cons_zero, List.set_cons_succ])
   go_cut [45] (fun v45 wc => ∃ (kq : Nat) (x45_15 : Bool), v45 = .bool x45_15 ∧ Aside0 (laws_FnExactFirstLetters.j0 kq l1 t210 x45_15 a0_0 l0_1 t205 t206 = some r) ∧ Aside0 (kq ≤ k) ∧ Aside0 (Kd.R (Kd.int .i64) 2 wc w.heap.size (fun k_ => some k_ ≠ ((.slice Ao31 t206.length co31) : Value).ownBlock) (.slice Ao34 t210.length co34) t210) ∧ Aside0 (Kd.R (Kd.int .i64) 2 wc w.heap.size (fun k_ => some k_ ≠ ((.slice Ao34 t210.length co34) : Value).ownBlock) (.slice Ao31 t206.length co31) t206) ∧ Aside0 (wc.heap[gb194]? = some (.cells #[.int .i64 a0_0, (.slice A0_1 l0_1.length c0_1)] 24 (0, 0))) ∧ Aside0 (wc.heap[gb209]? = some (.cells #[.int .i64 t205, (.slice Ao31 t206.length co31)] 28 (0, 0))) ∧ Aside0 (Below w.heap.size w wc))
   case first =>
    have H := HC16.out; clear HC16
    by_cases c36 : t213 = t203
    ·rw [if_pos c36] at H
     have c36b0 : (t213 == t203) = true := beq_iff_eq.mpr c36
     have c36b1 : (t213 != t203) = false := bne_eq_false_iff_eq.mpr c36
     clear c36
     (first | rw [c36b0] | (simp only [i64_w, i32_w]; rw [c36b0]) | skip)
     have H' := Aside0.mk H
     clear H
     go_wp2
     go_meet
     case rel => exact ⟨_, ((t214 != t204)), sz, H', ⟨by first | omega | exact Nat.le_refl _⟩, ⟨by (with_reducible repeat (first | apply Kd.R_alloc | apply Kd.R_drewN | apply Kd.R_drew)); exact Kd.R_mono HO212.out (fun _ hk => hk.2)⟩, ⟨by (with_reducible repeat (first | apply Kd.R_alloc | apply Kd.R_drewN | apply Kd.R_drew)); exact Kd.R_mono HO208.out (fun _ hk => hk.2)⟩, ⟨blkQ BK194⟩, ⟨blkQ BK209⟩, ⟨beQ HB⟩⟩
    ·rw [if_neg c36] at H
     have c36b0 : (t213 == t203) = false := beq_eq_false_iff_ne.mpr c36
     have c36b1 : (t213 != t203) = true := bne_iff_ne.mpr c36
     (first | rw [c36b0] | (simp only [i64_w, i32_w]; rw [c36b0]) | skip)
     have H' := Aside0.mk H
     clear H
     go_wp2
     go_meet
     case rel => exact ⟨_, (true), sz, H', ⟨by first | omega | exact Nat.le_refl _⟩, ⟨by (with_reducible repeat (first | apply Kd.R_alloc | apply Kd.R_drewN | apply Kd.R_drew)); exact Kd.R_mono HO212.out (fun _ hk => hk.2)⟩, ⟨by (with_reducible repeat (first | apply Kd.R_alloc | apply Kd.R_drewN | apply Kd.R_drew)); exact Kd.R_mono HO208.out (fun _ hk => hk.2)⟩, ⟨blkQ BK194⟩, ⟨blkQ BK209⟩, ⟨beQ HB⟩⟩
   case rest =>
    clear HC16
    try clear c1
    try clear c2
    try clear p2
    try clear c3
    try clear c3b0
    try clear c3b1
    try clear c6
    try clear c6b0
    try clear c15
    try clear c16
    try clear c17
    try clear c18
    try clear c19
    try clear c29
    try clear c36
    try clear c36b0
    try clear c36b1
    try clear hcz18_0
    try clear hcz18_1
    try clear hcz20_0
    try clear hcz20_1
    try clear hcz26_0
    try clear hcz26_1
    try clear hcz30_0
    try clear hcz30_1
    try clear hcz33_0
    try clear hcz33_1
    try clear hcz8_0
    try clear hcz8_1
    try clear hfz18_0
    try clear hfz18_1
    try clear hfz20_0
    try clear hfz20_1
    try clear hfz26_0
    try clear hfz26_1
    try clear hfz30_0
    try clear hfz30_1
    try clear hfz33_0
    try clear hfz33_1
    try clear hfz8_0
    try clear hfz8_1
    obtain ⟨kq, x45_15, rfl, HA, HJ15, HO_9, HO_210001, BK194, BK209, HB⟩ := hcut
    cases kq with
    | zero => exact absurd HA.out (by simp [laws_FnExactFirstLetters.j0])
    | succ kj15 =>
     have H := HA.out; clear HA
     simp only [laws_FnExactFirstLetters.j0] at H
     by_cases c37 : x45_15 = true
     ·subst c37
      have H1 : (some false) = some r := by rw [if_pos rfl] at H; exact H
      clear H; have H := H1; clear H1
      obtain rfl := Option.some.inj H
      go_wp2
      go_ret
      exact ⟨rz, beQ HB⟩
     ·replace c37 := Bool.eq_false_iff.mpr c37
      subst c37
      have H1 : ((laws_toAlphabet.f kj15 a0_0 l0_1).bind fun bt215 => ((laws_eqAlphabet.f kj15 t205 t206 bt215.1 bt215.2).bind fun t219 => (if t219 = true then ((laws_toInt64S.f kj15 l1).bind fun t220 => ((laws_eqInt64S.f kj15 t210 t220).bind fun t223 => (if t223 = true then (some true) else (some false)))) else (some false)))) = some r := by rw [if_neg (show ¬ (false = true) by decide)] at H; exact H
      clear H; have H := H1; clear H1; replace H := Option.bind_eq_some_iff.mp H
      obtain ⟨⟨t215, t216⟩, A380, H⟩ := H
      replace H : ((laws_eqAlphabet.f kj15 t205 t206 t215 t216).bind fun t219 => (if t219 = true then ((laws_toInt64S.f kj15 l1).bind fun t220 => ((laws_eqInt64S.f kj15 t210 t220).bind fun t223 => (if t223 = true then (some true) else (some false)))) else (some false))) = some r := H
      have A38 := Aside0.mk A380; clear A380; replace H := Option.bind_eq_some_iff.mp H; obtain ⟨t219, A390, H⟩ := H
      replace H : (if t219 = true then ((laws_toInt64S.f kj15 l1).bind fun t220 => ((laws_eqInt64S.f kj15 t210 t220).bind fun t223 => (if t223 = true then (some true) else (some false)))) else (some false)) = some r := H
      have A39 := Aside0.mk A390; clear A390
      by_cases c40 : t219 = true
      ·subst c40
       have H1 : ((laws_toInt64S.f kj15 l1).bind fun t220 => ((laws_eqInt64S.f kj15 t210 t220).bind fun t223 => (if t223 = true then (some true) else (some false)))) = some r := by rw [if_pos rfl] at H; exact H
       clear H; have H := H1; clear H1; replace H := Option.bind_eq_some_iff.mp H; obtain ⟨t220, A410, H⟩ := H
       replace H : ((laws_eqInt64S.f kj15 t210 t220).bind fun t223 => (if t223 = true then (some true) else (some false))) = some r := H
       have A41 := Aside0.mk A410; clear A410; replace H := Option.bind_eq_some_iff.mp H; obtain ⟨t223, A420, H⟩ := H
       replace H : (if t223 = true then (some true) else (some false)) = some r := H
       have A42 := Aside0.mk A420; clear A420
       by_cases c43 : t223 = true
       ·subst c43
        have H1 : (some true) = some r := by rw [if_pos rfl] at H; exact H
        clear H; have H := H1; clear H1
        obtain rfl := Option.some.inj H
        try go_wp2
        replace HO_9 := Aside0.mk (Kd.R_drew HO_9.out); replace HO_210001 := Aside0.mk (Kd.R_drew HO_210001.out); replace BK194 := Aside0.mk (blk_drew BK194.out); replace BK209 := Aside0.mk (blk_drew BK209.out); replace HB := Aside0.mk (below_drew1 HB.out)
        refine start_ (n := 5) (S := fun w' => w'.cell? ⟨gb209, 0, none⟩ = some (.int .i64 t205) ∧ w'.cell? ⟨gb209, 1, none⟩ = some (.slice Ao31 t206.length co31) ∧ w'.cell? ⟨gb194, 0, none⟩ = some (.int .i64 a0_0) ∧ w'.cell? ⟨gb194, 1, none⟩ = some (.slice A0_1 l0_1.length c0_1)) (ds := []) #[false, false, false, false, false] (by kernel_rfl) rfl rfl ⟨bc BK209 0, bc BK209 1, bc BK194 0, bc BK194 1⟩ (fun hHeld => ?_)
        generalize wc.drew = w44 at HO_9 HO_210001 BK194 BK209 HB hHeld ⊢
        refine take_ (i := 0) (N := some 46) (v := ?_) (a' := ?_) #[true, false, false, false, false] rfl rfl (by kernel_rfl) (fun _ _ _ h => h) (Or.inl ⟨by rfl, ?_⟩) hHeld ?_ ?_
        rotate_left
        ·rintro w' ⟨s0, s1, s2, s3⟩
         go_simp
         with_reducible rfl
        rotate_left
        ·simp only [Act.put, s1, s2, s3, i64_w, i32_w]
         rfl
        refine take_ (i := 1) (N := some 47) (v := ?_) (a' := ?_) #[true, true, false, false, false] rfl rfl (by kernel_rfl) (fun _ _ _ h => h) (Or.inl ⟨by rfl, ?_⟩) hHeld ?_ ?_
        rotate_left
        ·rintro w' ⟨s0, s1, s2, s3⟩
         go_simp
         with_reducible rfl
        rotate_left
        ·simp only [Act.put, s1, s2, s3, i64_w, i32_w]
         rfl
        refine one_ (i := 2) (N := some 48) #[true, true, true, false, false] rfl rfl (by kernel_rfl) (by decide) (fun K hK => ?_)
        refine goes_ Tryd.func17 (by kernel_rfl) rfl #[.agg #[.int .i64 a0_0, .slice A0_1 l0_1.length c0_1]] (by rfl) rfl rfl lz ?_
        with_reducible refine (laws_toAlphabet.calls kj15 a0_0 _ _ l0_1 t215 t216 _ ?side1 ?side2 A38.out).mono ?_
        (case side1 => have q_ := Aside0.mk (Kd.C_below HR0_1.out HB.out); exact cQ q_)
        (case side2 => exact HC0_1.out)
        rintro e w45 ⟨v217, rfl, ho0, hb⟩
        refine ⟨_, rfl, ?_⟩
        have HO218 := Aside0.mk (Kd.R_lower (Kd.R_new' (Kd.R_new' ho0 (Kd.R_lt (kdQ HO_9))) (Kd.R_lt (kdQ HO_210001))) (below_size (beQ HB))); replace HO_9 := Aside0.mk (Kd.R_elder' (kdQ HO_9) (Kd.R_base ho0) hb); replace HO_210001 := Aside0.mk (Kd.R_elder' (kdQ HO_210001) (Kd.R_base ho0) hb); replace BK194 := bb BK194 hb; replace BK209 := bb BK209 hb; replace HB := Aside0.mk (below_step (beQ HB) hb)
        (try clear hb)
        (try clear hb2)
        (try clear hk)
        (try clear hi)
        (try clear ho0)
        obtain ⟨Ao46, co46, eo46⟩ := Kd.R_slice HO218.out
        (first | subst eo46 | (injection eo46 with f1_ f2_ f3_; have f4_ := f1_.symm; have f5_ := f3_.symm; clear f1_ f2_ f3_; subst f4_; subst f5_))
        refine hK.out _ _ ⟨bc BK209 0, bc BK209 1, bc BK194 0, bc BK194 1⟩ (fun hHeld => ?_)
        clear hK K
        refine norm_ (a' := ?_) ?_ ?_
        rotate_left
        ·show Act.put _ (some 48) _ = _
         simp only [Act.put, s1, s2, s3, i64_w, i32_w]
         rfl
        refine one_ (i := 3) (N := some 49) #[true, true, true, true, false] rfl rfl (by kernel_rfl) (by decide) (fun K hK => ?_)
        refine goes_ Tryd.func20 (by kernel_rfl) rfl #[.agg #[.int .i64 t205, .slice Ao31 t206.length co31], .agg #[.int .i64 t215, .slice Ao46 t216.length co46]] (by rfl) rfl rfl lz ?_
        with_reducible refine (laws_eqAlphabet.calls kj15 t205 _ _ t206 t215 _ _ t216 true _ ?side1 ?side2 ?side3 ?side4 A39.out).mono ?_
        (case side1 => have q_ := Aside0.mk (Kd.R_reads' HO_210001.out).2.2; exact cQ q_)
        (case side2 => exact (Kd.R_reads' HO_210001.out).2.1)
        (case side3 => have q_ := Aside0.mk (Kd.R_reads' HO218.out).2.2; exact cQ q_)
        (case side4 => exact (Kd.R_reads' HO218.out).2.1)
        rintro e w47 ⟨rfl, hb⟩
        refine ⟨_, rfl, ?_⟩
        replace HO_9 := kb HO_9 hb; replace HO_210001 := kb HO_210001 hb; replace HO218 := kb HO218 hb; replace BK194 := bb BK194 hb; replace BK209 := bb BK209 hb; replace HB := Aside0.mk (below_step (beQ HB) hb)
        (try clear hb)
        (try clear hb2)
        (try clear hk)
        (try clear hi)
        refine hK.out _ _ ⟨bc BK209 0, bc BK209 1, bc BK194 0, bc BK194 1⟩ (fun hHeld => ?_)
        clear hK K
        refine norm_ (a' := ?_) ?_ ?_
        rotate_left
        ·show Act.put _ (some 49) _ = _
         simp only [Act.put, s1, s2, s3, i64_w, i32_w]
         rfl
        refine pure_ (i := 4) (N := some 50) (v := ?_) (a' := ?_) #[true, true, true, true, true] rfl rfl (by kernel_rfl) (fun _ _ _ h => h) (Or.inl ⟨by rfl, ?_⟩) ?_ ?_
        rotate_left
        ·intro w'
         go_simp
         with_reducible rfl
        rotate_left
        ·simp only [Act.put, s1, s2, s3, i64_w, i32_w]
         rfl
        refine done_ (by kernel_rfl) ?_
        try go_wp2_with (first | ((with_reducible refine gate_callee (f := 18) rfl ?_); refine goesL_ (some 53) rfl rfl Tryd.func18 (by kernel_rfl) rfl #[.slice A1 l1.length c1] rfl lz ?_; (with_reducible refine (laws_toInt64S.calls kj15 _ _ l1 t220 _ ?side1 ?side2 A41.out).mono ?_); (case side1 => have q_ := Aside0.mk (Kd.C_below HR1.out HB.out); exact cQ q_); (case side2 => exact HC1.out); rintro e w48 ⟨v221, rfl, ho0, hb⟩; refine ⟨_, rfl, ?_⟩; have HO222 := Aside0.mk (Kd.R_lower (Kd.R_new' (Kd.R_new' (Kd.R_new' ho0 (Kd.R_lt (kdQ HO_9))) (Kd.R_lt (kdQ HO_210001))) (Kd.R_lt (kdQ HO218))) (below_size (beQ HB))); replace HO_9 := Aside0.mk (Kd.R_elder' (kdQ HO_9) (Kd.R_base ho0) hb); replace HO_210001 := Aside0.mk (Kd.R_elder' (kdQ HO_210001) (Kd.R_base ho0) hb); replace HO218 := Aside0.mk (Kd.R_elder' (kdQ HO218) (Kd.R_base ho0) hb); replace BK194 := bb BK194 hb; replace BK209 := bb BK209 hb; replace HB := Aside0.mk (below_step (beQ HB) hb); (try clear hb); (try clear hb2); (try clear hk); (try clear hi); (try clear ho0); obtain ⟨Ao49, co49, eo49⟩ := Kd.R_slice HO222.out; subst eo49) | ((with_reducible refine gate_callee (f := 21) rfl ?_); refine goesL_ (some 54) rfl rfl Tryd.func21 (by kernel_rfl) rfl #[.slice Ao34 t210.length co34, .slice Ao49 t220.length co49] rfl lz ?_; (with_reducible refine (laws_eqInt64S.calls kj15 _ _ t210 _ _ t220 true _ ?side1 ?side2 ?side3 ?side4 A42.out).mono ?_); (case side1 => have q_ := Aside0.mk (Kd.R_reads' HO_9.out).2.2; exact cQ q_); (case side2 => exact (Kd.R_reads' HO_9.out).2.1); (case side3 => have q_ := Aside0.mk (Kd.R_reads' HO222.out).2.2; exact cQ q_); (case side4 => exact (Kd.R_reads' HO222.out).2.1); rintro e w' ⟨rfl, ⟨nd, rfl⟩⟩; refine ⟨_, rfl, ?_⟩))
        go_ret
        exact ⟨rz, beQ HB⟩
       ·replace c43 := Bool.eq_false_iff.mpr c43
        subst c43
        have H1 : (some false) = some r := by rw [if_neg (show ¬ (false = true) by decide)] at H; exact H
        clear H; have H := H1; clear H1
        obtain rfl := Option.some.inj H
        try go_wp2
        replace HO_9 := Aside0.mk (Kd.R_drew HO_9.out); replace HO_210001 := Aside0.mk (Kd.R_drew HO_210001.out); replace BK194 := Aside0.mk (blk_drew BK194.out); replace BK209 := Aside0.mk (blk_drew BK209.out); replace HB := Aside0.mk (below_drew1 HB.out)
        refine start_ (n := 5) (S := fun w' => w'.cell? ⟨gb209, 0, none⟩ = some (.int .i64 t205) ∧ w'.cell? ⟨gb209, 1, none⟩ = some (.slice Ao31 t206.length co31) ∧ w'.cell? ⟨gb194, 0, none⟩ = some (.int .i64 a0_0) ∧ w'.cell? ⟨gb194, 1, none⟩ = some (.slice A0_1 l0_1.length c0_1)) (ds := []) #[false, false, false, false, false] (by kernel_rfl) rfl rfl ⟨bc BK209 0, bc BK209 1, bc BK194 0, bc BK194 1⟩ (fun hHeld => ?_)
        generalize wc.drew = w50 at HO_9 HO_210001 BK194 BK209 HB hHeld ⊢
        refine take_ (i := 0) (N := some 46) (v := ?_) (a' := ?_) #[true, false, false, false, false] rfl rfl (by kernel_rfl) (fun _ _ _ h => h) (Or.inl ⟨by rfl, ?_⟩) hHeld ?_ ?_
        rotate_left
        ·rintro w' ⟨s0, s1, s2, s3⟩
         go_simp
         with_reducible rfl
        rotate_left
        ·simp only [Act.put, s1, s2, s3, i64_w, i32_w]
         rfl
        refine take_ (i := 1) (N := some 47) (v := ?_) (a' := ?_) #[true, true, false, false, false] rfl rfl (by kernel_rfl) (fun _ _ _ h => h) (Or.inl ⟨by rfl, ?_⟩) hHeld ?_ ?_
        rotate_left
        ·rintro w' ⟨s0, s1, s2, s3⟩
         go_simp
         with_reducible rfl
        rotate_left
        ·simp only [Act.put, s1, s2, s3, i64_w, i32_w]
         rfl
        refine one_ (i := 2) (N := some 48) #[true, true, true, false, false] rfl rfl (by kernel_rfl) (by decide) (fun K hK => ?_)
        refine goes_ Tryd.func17 (by kernel_rfl) rfl #[.agg #[.int .i64 a0_0, .slice A0_1 l0_1.length c0_1]] (by rfl) rfl rfl lz ?_
        with_reducible refine (laws_toAlphabet.calls kj15 a0_0 _ _ l0_1 t215 t216 _ ?side1 ?side2 A38.out).mono ?_
        (case side1 => have q_ := Aside0.mk (Kd.C_below HR0_1.out HB.out); exact cQ q_)
        (case side2 => exact HC0_1.out)
        rintro e w51 ⟨v217, rfl, ho0, hb⟩
        refine ⟨_, rfl, ?_⟩
        have HO218 := Aside0.mk (Kd.R_lower (Kd.R_new' (Kd.R_new' ho0 (Kd.R_lt (kdQ HO_9))) (Kd.R_lt (kdQ HO_210001))) (below_size (beQ HB))); replace HO_9 := Aside0.mk (Kd.R_elder' (kdQ HO_9) (Kd.R_base ho0) hb); replace HO_210001 := Aside0.mk (Kd.R_elder' (kdQ HO_210001) (Kd.R_base ho0) hb); replace BK194 := bb BK194 hb; replace BK209 := bb BK209 hb; replace HB := Aside0.mk (below_step (beQ HB) hb)
        (try clear hb)
        (try clear hb2)
        (try clear hk)
        (try clear hi)
        (try clear ho0)
        obtain ⟨Ao52, co52, eo52⟩ := Kd.R_slice HO218.out
        (first | subst eo52 | (injection eo52 with f1_ f2_ f3_; have f4_ := f1_.symm; have f5_ := f3_.symm; clear f1_ f2_ f3_; subst f4_; subst f5_))
        refine hK.out _ _ ⟨bc BK209 0, bc BK209 1, bc BK194 0, bc BK194 1⟩ (fun hHeld => ?_)
        clear hK K
        refine norm_ (a' := ?_) ?_ ?_
        rotate_left
        ·show Act.put _ (some 48) _ = _
         simp only [Act.put, s1, s2, s3, i64_w, i32_w]
         rfl
        refine one_ (i := 3) (N := some 49) #[true, true, true, true, false] rfl rfl (by kernel_rfl) (by decide) (fun K hK => ?_)
        refine goes_ Tryd.func20 (by kernel_rfl) rfl #[.agg #[.int .i64 t205, .slice Ao31 t206.length co31], .agg #[.int .i64 t215, .slice Ao52 t216.length co52]] (by rfl) rfl rfl lz ?_
        with_reducible refine (laws_eqAlphabet.calls kj15 t205 _ _ t206 t215 _ _ t216 true _ ?side1 ?side2 ?side3 ?side4 A39.out).mono ?_
        (case side1 => have q_ := Aside0.mk (Kd.R_reads' HO_210001.out).2.2; exact cQ q_)
        (case side2 => exact (Kd.R_reads' HO_210001.out).2.1)
        (case side3 => have q_ := Aside0.mk (Kd.R_reads' HO218.out).2.2; exact cQ q_)
        (case side4 => exact (Kd.R_reads' HO218.out).2.1)
        rintro e w53 ⟨rfl, hb⟩
        refine ⟨_, rfl, ?_⟩
        replace HO_9 := kb HO_9 hb; replace HO_210001 := kb HO_210001 hb; replace HO218 := kb HO218 hb; replace BK194 := bb BK194 hb; replace BK209 := bb BK209 hb; replace HB := Aside0.mk (below_step (beQ HB) hb)
        (try clear hb)
        (try clear hb2)
        (try clear hk)
        (try clear hi)
        refine hK.out _ _ ⟨bc BK209 0, bc BK209 1, bc BK194 0, bc BK194 1⟩ (fun hHeld => ?_)
        clear hK K
        refine norm_ (a' := ?_) ?_ ?_
        rotate_left
        ·show Act.put _ (some 49) _ = _
         simp only [Act.put, s1, s2, s3, i64_w, i32_w]
         rfl
        refine pure_ (i := 4) (N := some 50) (v := ?_) (a' := ?_) #[true, true, true, true, true] rfl rfl (by kernel_rfl) (fun _ _ _ h => h) (Or.inl ⟨by rfl, ?_⟩) ?_ ?_
        rotate_left
        ·intro w'
         go_simp
         with_reducible rfl
        rotate_left
        ·simp only [Act.put, s1, s2, s3, i64_w, i32_w]
         rfl
        refine done_ (by kernel_rfl) ?_
        try go_wp2_with (first | ((with_reducible refine gate_callee (f := 18) rfl ?_); refine goesL_ (some 53) rfl rfl Tryd.func18 (by kernel_rfl) rfl #[.slice A1 l1.length c1] rfl lz ?_; (with_reducible refine (laws_toInt64S.calls kj15 _ _ l1 t220 _ ?side1 ?side2 A41.out).mono ?_); (case side1 => have q_ := Aside0.mk (Kd.C_below HR1.out HB.out); exact cQ q_); (case side2 => exact HC1.out); rintro e w54 ⟨v221, rfl, ho0, hb⟩; refine ⟨_, rfl, ?_⟩; have HO222 := Aside0.mk (Kd.R_lower (Kd.R_new' (Kd.R_new' (Kd.R_new' ho0 (Kd.R_lt (kdQ HO_9))) (Kd.R_lt (kdQ HO_210001))) (Kd.R_lt (kdQ HO218))) (below_size (beQ HB))); replace HO_9 := Aside0.mk (Kd.R_elder' (kdQ HO_9) (Kd.R_base ho0) hb); replace HO_210001 := Aside0.mk (Kd.R_elder' (kdQ HO_210001) (Kd.R_base ho0) hb); replace HO218 := Aside0.mk (Kd.R_elder' (kdQ HO218) (Kd.R_base ho0) hb); replace BK194 := bb BK194 hb; replace BK209 := bb BK209 hb; replace HB := Aside0.mk (below_step (beQ HB) hb); (try clear hb); (try clear hb2); (try clear hk); (try clear hi); (try clear ho0); obtain ⟨Ao55, co55, eo55⟩ := Kd.R_slice HO222.out; subst eo55) | ((with_reducible refine gate_callee (f := 21) rfl ?_); refine goesL_ (some 54) rfl rfl Tryd.func21 (by kernel_rfl) rfl #[.slice Ao34 t210.length co34, .slice Ao55 t220.length co55] rfl lz ?_; (with_reducible refine (laws_eqInt64S.calls kj15 _ _ t210 _ _ t220 false _ ?side1 ?side2 ?side3 ?side4 A42.out).mono ?_); (case side1 => have q_ := Aside0.mk (Kd.R_reads' HO_9.out).2.2; exact cQ q_); (case side2 => exact (Kd.R_reads' HO_9.out).2.1); (case side3 => have q_ := Aside0.mk (Kd.R_reads' HO222.out).2.2; exact cQ q_); (case side4 => exact (Kd.R_reads' HO222.out).2.1); rintro e w' ⟨rfl, ⟨nd, rfl⟩⟩; refine ⟨_, rfl, ?_⟩))
        go_ret
        exact ⟨rz, beQ HB⟩
      ·replace c40 := Bool.eq_false_iff.mpr c40
       subst c40
       have H1 : (some false) = some r := by rw [if_neg (show ¬ (false = true) by decide)] at H; exact H
       clear H; have H := H1; clear H1
       obtain rfl := Option.some.inj H
       try go_wp2
       replace HO_9 := Aside0.mk (Kd.R_drew HO_9.out); replace HO_210001 := Aside0.mk (Kd.R_drew HO_210001.out); replace BK194 := Aside0.mk (blk_drew BK194.out); replace BK209 := Aside0.mk (blk_drew BK209.out); replace HB := Aside0.mk (below_drew1 HB.out)
       refine start_ (n := 5) (S := fun w' => w'.cell? ⟨gb209, 0, none⟩ = some (.int .i64 t205) ∧ w'.cell? ⟨gb209, 1, none⟩ = some (.slice Ao31 t206.length co31) ∧ w'.cell? ⟨gb194, 0, none⟩ = some (.int .i64 a0_0) ∧ w'.cell? ⟨gb194, 1, none⟩ = some (.slice A0_1 l0_1.length c0_1)) (ds := []) #[false, false, false, false, false] (by kernel_rfl) rfl rfl ⟨bc BK209 0, bc BK209 1, bc BK194 0, bc BK194 1⟩ (fun hHeld => ?_)
       generalize wc.drew = w56 at HO_9 HO_210001 BK194 BK209 HB hHeld ⊢
       refine take_ (i := 0) (N := some 46) (v := ?_) (a' := ?_) #[true, false, false, false, false] rfl rfl (by kernel_rfl) (fun _ _ _ h => h) (Or.inl ⟨by rfl, ?_⟩) hHeld ?_ ?_
       rotate_left
       ·rintro w' ⟨s0, s1, s2, s3⟩
        go_simp
        with_reducible rfl
       rotate_left
       ·simp only [Act.put, s1, s2, s3, i64_w, i32_w]
        rfl
       refine take_ (i := 1) (N := some 47) (v := ?_) (a' := ?_) #[true, true, false, false, false] rfl rfl (by kernel_rfl) (fun _ _ _ h => h) (Or.inl ⟨by rfl, ?_⟩) hHeld ?_ ?_
       rotate_left
       ·rintro w' ⟨s0, s1, s2, s3⟩
        go_simp
        with_reducible rfl
       rotate_left
       ·simp only [Act.put, s1, s2, s3, i64_w, i32_w]
        rfl
       refine one_ (i := 2) (N := some 48) #[true, true, true, false, false] rfl rfl (by kernel_rfl) (by decide) (fun K hK => ?_)
       refine goes_ Tryd.func17 (by kernel_rfl) rfl #[.agg #[.int .i64 a0_0, .slice A0_1 l0_1.length c0_1]] (by rfl) rfl rfl lz ?_
       with_reducible refine (laws_toAlphabet.calls kj15 a0_0 _ _ l0_1 t215 t216 _ ?side1 ?side2 A38.out).mono ?_
       (case side1 => have q_ := Aside0.mk (Kd.C_below HR0_1.out HB.out); exact cQ q_)
       (case side2 => exact HC0_1.out)
       rintro e w57 ⟨v217, rfl, ho0, hb⟩
       refine ⟨_, rfl, ?_⟩
       have HO218 := Aside0.mk (Kd.R_lower (Kd.R_new' (Kd.R_new' ho0 (Kd.R_lt (kdQ HO_9))) (Kd.R_lt (kdQ HO_210001))) (below_size (beQ HB))); replace HO_9 := Aside0.mk (Kd.R_elder' (kdQ HO_9) (Kd.R_base ho0) hb); replace HO_210001 := Aside0.mk (Kd.R_elder' (kdQ HO_210001) (Kd.R_base ho0) hb); replace BK194 := bb BK194 hb; replace BK209 := bb BK209 hb; replace HB := Aside0.mk (below_step (beQ HB) hb)
       (try clear hb)
       (try clear hb2)
       (try clear hk)
       (try clear hi)
       (try clear ho0)
       obtain ⟨Ao58, co58, eo58⟩ := Kd.R_slice HO218.out
       (first | subst eo58 | (injection eo58 with f1_ f2_ f3_; have f4_ := f1_.symm; have f5_ := f3_.symm; clear f1_ f2_ f3_; subst f4_; subst f5_))
       refine hK.out _ _ ⟨bc BK209 0, bc BK209 1, bc BK194 0, bc BK194 1⟩ (fun hHeld => ?_)
       clear hK K
       refine norm_ (a' := ?_) ?_ ?_
       rotate_left
       ·show Act.put _ (some 48) _ = _
        simp only [Act.put, s1, s2, s3, i64_w, i32_w]
        rfl
       refine one_ (i := 3) (N := some 49) #[true, true, true, true, false] rfl rfl (by kernel_rfl) (by decide) (fun K hK => ?_)
       refine goes_ Tryd.func20 (by kernel_rfl) rfl #[.agg #[.int .i64 t205, .slice Ao31 t206.length co31], .agg #[.int .i64 t215, .slice Ao58 t216.length co58]] (by rfl) rfl rfl lz ?_
       with_reducible refine (laws_eqAlphabet.calls kj15 t205 _ _ t206 t215 _ _ t216 false _ ?side1 ?side2 ?side3 ?side4 A39.out).mono ?_
       (case side1 => have q_ := Aside0.mk (Kd.R_reads' HO_210001.out).2.2; exact cQ q_)
       (case side2 => exact (Kd.R_reads' HO_210001.out).2.1)
       (case side3 => have q_ := Aside0.mk (Kd.R_reads' HO218.out).2.2; exact cQ q_)
       (case side4 => exact (Kd.R_reads' HO218.out).2.1)
       rintro e w59 ⟨rfl, hb⟩
       refine ⟨_, rfl, ?_⟩
       replace HO_9 := kb HO_9 hb; replace HO_210001 := kb HO_210001 hb; replace HO218 := kb HO218 hb; replace BK194 := bb BK194 hb; replace BK209 := bb BK209 hb; replace HB := Aside0.mk (below_step (beQ HB) hb)
       (try clear hb)
       (try clear hb2)
       (try clear hk)
       (try clear hi)
       refine hK.out _ _ ⟨bc BK209 0, bc BK209 1, bc BK194 0, bc BK194 1⟩ (fun hHeld => ?_)
       clear hK K
       refine norm_ (a' := ?_) ?_ ?_
       rotate_left
       ·show Act.put _ (some 49) _ = _
        simp only [Act.put, s1, s2, s3, i64_w, i32_w]
        rfl
       refine pure_ (i := 4) (N := some 50) (v := ?_) (a' := ?_) #[true, true, true, true, true] rfl rfl (by kernel_rfl) (fun _ _ _ h => h) (Or.inl ⟨by rfl, ?_⟩) ?_ ?_
       rotate_left
       ·intro w'
        go_simp
        with_reducible rfl
       rotate_left
       ·simp only [Act.put, s1, s2, s3, i64_w, i32_w]
        rfl
       refine done_ (by kernel_rfl) ?_
       try go_wp2
       go_ret
       exact ⟨rz, beQ HB⟩

end Go.Proofs.YtlpodkpnoopnnaaDoor.G
