/- How the program's functions compute, function by function: each is told by a plain Lean function of the same answers, under the condition that this one answers. Written by a program of this project over the seat's translation; Lean checks it. -/
import Derived.Test.YtlpodkpnoopnnaaDoorG0
import Derived.Test.YtlpodkpnoopnnaaDoorGQ00
import Derived.Test.YtlpodkpnoopnnaaDoorGQ08
import Derived.Test.YtlpodkpnoopnnaaDoorGQ30
namespace Go.Proofs.YtlpodkpnoopnnaaDoor.G
open Go.RowKit Go.Proofs.YtlpodkpnoopnnaaDoorW.PrintWords Go.Proofs.YtlpodkpnoopnnaaDoorW.PrintLast Go.Proofs.YtlpodkpnoopnnaaDoorW.PrintMore
attribute [local go_sem] max2_int min2_int max_two min_two max_three min_three max_four min_four   -- for this text's walks alone
set_option linter.unusedVariables false
set_option linter.unusedSimpArgs false

/-! ### laws_FnExactWordOfFoata: function 13 -/
mutual
def laws_FnExactWordOfFoata.j0 : Nat → List Int → List Int → Int → List Int → List Int → Int → Bool → Int → List Int → Int → List Int → Option (Bool)
 | 0, _, _, _, _, _, _, _, _, _, _, _ => none
 | k + 1, x1, x6, x7, x9, x10, x11, x51, x1039000, x1039001, x1056000, x1056001 => if x51 = true then (some false) else ((laws_toAlphabet.f k x1039000 x1039001).bind fun bt1064 => ((laws_eqAlphabet.f k x1056000 x1056001 bt1064.1 bt1064.2).bind fun t1068 => (if t1068 = true then ((laws_toInt64S.f k x1).bind fun t1069 => ((laws_eqInt64S.f k x9 t1069).bind fun t1072 => (if t1072 = true then ((laws_markAlphabet.f k x1056000 x1056001 1).bind fun bt1073 => ((laws_markInt64S.f k x9 bt1073.1).bind fun bt1075 => (if bt1075.1 < 0 then (laws_FnExactWordOfFoata.j1 k x1 x6 x7 x10 true x1039000 x1039001) else ((laws_eqInt64S.f k x10 x6).bind fun t1077 => (if t1077 = true then (laws_FnExactWordOfFoata.j1 k x1 x6 x7 x10 (x11 != x7) x1039000 x1039001) else (laws_FnExactWordOfFoata.j1 k x1 x6 x7 x10 true x1039000 x1039001)))))) else (some false)))) else (some false))))
def laws_FnExactWordOfFoata.j1 : Nat → List Int → List Int → Int → List Int → Bool → Int → List Int → Option (Bool)
 | 0, _, _, _, _, _, _, _ => none
 | k + 1, x1, x6, x7, x10, x80, x1039000, x1039001 => if x80 = true then (some false) else ((laws_markInt64S.f k x10 1).bind fun bt1078 => ((laws_heldInt64S.f k bt1078.2 1).bind fun t1080 => (if t1080 < 0 then (some false) else (if t1080 = bt1078.1 then ((laws_toAlphabet.f k x1039000 x1039001).bind fun bt1081 => ((laws_toInt64S.f k x1).bind fun t1085 => ((impl_WordOfFoata.f k bt1081.1 bt1081.2 t1085).bind fun bt1088 => ((laws_eqInt64S.f k bt1088.1 x6).bind fun t1092 => (if t1092 = true then (laws_FnExactWordOfFoata.j2 k bt1078.2 bt1078.1 (bt1088.2 != x7)) else (laws_FnExactWordOfFoata.j2 k bt1078.2 bt1078.1 true)))))) else (some false)))))
def laws_FnExactWordOfFoata.j2 : Nat → List Int → Int → Bool → Option (Bool)
 | 0, _, _, _ => none
 | k + 1, x10, x13, x108 => if x108 = true then (some false) else ((laws_heldInt64S.f k x10 1).bind fun t1093 => (if t1093 < 0 then (some false) else (if t1093 = x13 then (some true) else (some false))))
end
def laws_FnExactWordOfFoata.f (k : Nat) (a0_0 : Int) (l0_1 : List Int) (l1 : List Int) : Option (Bool) := if (l1.length : Int) > 1048576 then (some true) else ((laws_szAlphabet.f a0_0 l0_1 1048576).bind fun t1039 => (if t1039 < 0 then (some true) else ((laws_toAlphabet.f k a0_0 l0_1).bind fun bt1040 => ((laws_toInt64S.f k l1).bind fun t1044 => ((spec_WordOfFoata.f k bt1040.1 bt1040.2 t1044).bind fun bt1047 => ((laws_toAlphabet.f k a0_0 l0_1).bind fun bt1051 => ((laws_toInt64S.f k l1).bind fun t1056 => ((impl_WordOfFoata.f k bt1051.1 bt1051.2 t1056).bind fun bt1059 => ((laws_eqInt64S.f k bt1059.1 bt1047.1).bind fun t1063 => (if t1063 = true then (laws_FnExactWordOfFoata.j0 k l1 bt1047.1 bt1047.2 t1056 bt1059.1 bt1059.2 (bt1059.2 != bt1047.2) a0_0 l0_1 bt1051.1 bt1051.2) else (laws_FnExactWordOfFoata.j0 k l1 bt1047.1 bt1047.2 t1056 bt1059.1 bt1059.2 true a0_0 l0_1 bt1051.1 bt1051.2)))))))))))
theorem laws_FnExactWordOfFoata.mono_l : ∀ k, (∀ y0 y1 y2 y3 y4 y5 y6 y7 y8 y9 y10, LeO (laws_FnExactWordOfFoata.j0 k y0 y1 y2 y3 y4 y5 y6 y7 y8 y9 y10) (laws_FnExactWordOfFoata.j0 (k + 1) y0 y1 y2 y3 y4 y5 y6 y7 y8 y9 y10)) ∧ (∀ y0 y1 y2 y3 y4 y5 y6, LeO (laws_FnExactWordOfFoata.j1 k y0 y1 y2 y3 y4 y5 y6) (laws_FnExactWordOfFoata.j1 (k + 1) y0 y1 y2 y3 y4 y5 y6)) ∧ (∀ y0 y1 y2, LeO (laws_FnExactWordOfFoata.j2 k y0 y1 y2) (laws_FnExactWordOfFoata.j2 (k + 1) y0 y1 y2))
 | 0 => ⟨fun _ _ _ _ _ _ _ _ _ _ _ r h => by simp [laws_FnExactWordOfFoata.j0] at h, fun _ _ _ _ _ _ _ r h => by simp [laws_FnExactWordOfFoata.j1] at h, fun _ _ _ r h => by simp [laws_FnExactWordOfFoata.j2] at h⟩
 | k + 1 => by
  obtain ⟨ih0, ih1, ih2⟩ := laws_FnExactWordOfFoata.mono_l k
  refine ⟨?_, ?_, ?_⟩
  ·intro y0 y1 y2 y3 y4 y5 y6 y7 y8 y9 y10
   unfold laws_FnExactWordOfFoata.j0
   repeat' first
   | (with_reducible exact ih0 _ _ _ _ _ _ _ _ _ _ _)
   | (with_reducible exact ih1 _ _ _ _ _ _ _)
   | (with_reducible exact ih2 _ _ _)
   | (with_reducible exact impl_WordOfFoata.mono _ _ _ _)
   | (with_reducible exact laws_eqAlphabet.mono _ _ _ _ _)
   | (with_reducible exact laws_eqInt64S.mono _ _ _)
   | (with_reducible exact laws_heldInt64S.mono _ _ _)
   | (with_reducible exact laws_markAlphabet.mono _ _ _ _)
   | (with_reducible exact laws_markInt64S.mono _ _ _)
   | (with_reducible exact laws_toAlphabet.mono _ _ _)
   | (with_reducible exact laws_toInt64S.mono _ _)
   | (with_reducible exact spec_WordOfFoata.mono _ _ _ _)
   | (with_reducible exact LeO.refl _)
   | (with_reducible exact LeO.none _)
   | (with_reducible refine LeO.ite ?_ ?_)
   | (with_reducible refine LeO.bind ?_ (fun _ => ?_))
   | exact ih0 _ _ _ _ _ _ _ _ _ _ _
   | exact ih1 _ _ _ _ _ _ _
   | exact ih2 _ _ _
   | exact impl_WordOfFoata.mono _ _ _ _
   | exact laws_eqAlphabet.mono _ _ _ _ _
   | exact laws_eqInt64S.mono _ _ _
   | exact laws_heldInt64S.mono _ _ _
   | exact laws_markAlphabet.mono _ _ _ _
   | exact laws_markInt64S.mono _ _ _
   | exact laws_toAlphabet.mono _ _ _
   | exact laws_toInt64S.mono _ _
   | exact spec_WordOfFoata.mono _ _ _ _
   | exact LeO.none _
   | refine LeO.ite ?_ ?_
   | refine LeO.bind ?_ (fun _ => ?_)
  ·intro y0 y1 y2 y3 y4 y5 y6
   unfold laws_FnExactWordOfFoata.j1
   repeat' first
   | (with_reducible exact ih0 _ _ _ _ _ _ _ _ _ _ _)
   | (with_reducible exact ih1 _ _ _ _ _ _ _)
   | (with_reducible exact ih2 _ _ _)
   | (with_reducible exact impl_WordOfFoata.mono _ _ _ _)
   | (with_reducible exact laws_eqAlphabet.mono _ _ _ _ _)
   | (with_reducible exact laws_eqInt64S.mono _ _ _)
   | (with_reducible exact laws_heldInt64S.mono _ _ _)
   | (with_reducible exact laws_markAlphabet.mono _ _ _ _)
   | (with_reducible exact laws_markInt64S.mono _ _ _)
   | (with_reducible exact laws_toAlphabet.mono _ _ _)
   | (with_reducible exact laws_toInt64S.mono _ _)
   | (with_reducible exact spec_WordOfFoata.mono _ _ _ _)
   | (with_reducible exact LeO.refl _)
   | (with_reducible exact LeO.none _)
   | (with_reducible refine LeO.ite ?_ ?_)
   | (with_reducible refine LeO.bind ?_ (fun _ => ?_))
   | exact ih0 _ _ _ _ _ _ _ _ _ _ _
   | exact ih1 _ _ _ _ _ _ _
   | exact ih2 _ _ _
   | exact impl_WordOfFoata.mono _ _ _ _
   | exact laws_eqAlphabet.mono _ _ _ _ _
   | exact laws_eqInt64S.mono _ _ _
   | exact laws_heldInt64S.mono _ _ _
   | exact laws_markAlphabet.mono _ _ _ _
   | exact laws_markInt64S.mono _ _ _
   | exact laws_toAlphabet.mono _ _ _
   | exact laws_toInt64S.mono _ _
   | exact spec_WordOfFoata.mono _ _ _ _
   | exact LeO.none _
   | refine LeO.ite ?_ ?_
   | refine LeO.bind ?_ (fun _ => ?_)
  ·intro y0 y1 y2
   unfold laws_FnExactWordOfFoata.j2
   repeat' first
   | (with_reducible exact ih0 _ _ _ _ _ _ _ _ _ _ _)
   | (with_reducible exact ih1 _ _ _ _ _ _ _)
   | (with_reducible exact ih2 _ _ _)
   | (with_reducible exact impl_WordOfFoata.mono _ _ _ _)
   | (with_reducible exact laws_eqAlphabet.mono _ _ _ _ _)
   | (with_reducible exact laws_eqInt64S.mono _ _ _)
   | (with_reducible exact laws_heldInt64S.mono _ _ _)
   | (with_reducible exact laws_markAlphabet.mono _ _ _ _)
   | (with_reducible exact laws_markInt64S.mono _ _ _)
   | (with_reducible exact laws_toAlphabet.mono _ _ _)
   | (with_reducible exact laws_toInt64S.mono _ _)
   | (with_reducible exact spec_WordOfFoata.mono _ _ _ _)
   | (with_reducible exact LeO.refl _)
   | (with_reducible exact LeO.none _)
   | (with_reducible refine LeO.ite ?_ ?_)
   | (with_reducible refine LeO.bind ?_ (fun _ => ?_))
   | exact ih0 _ _ _ _ _ _ _ _ _ _ _
   | exact ih1 _ _ _ _ _ _ _
   | exact ih2 _ _ _
   | exact impl_WordOfFoata.mono _ _ _ _
   | exact laws_eqAlphabet.mono _ _ _ _ _
   | exact laws_eqInt64S.mono _ _ _
   | exact laws_heldInt64S.mono _ _ _
   | exact laws_markAlphabet.mono _ _ _ _
   | exact laws_markInt64S.mono _ _ _
   | exact laws_toAlphabet.mono _ _ _
   | exact laws_toInt64S.mono _ _
   | exact spec_WordOfFoata.mono _ _ _ _
   | exact LeO.none _
   | refine LeO.ite ?_ ?_
   | refine LeO.bind ?_ (fun _ => ?_)
theorem laws_FnExactWordOfFoata.mono : ∀ a0 a1 a2 k, LeO (laws_FnExactWordOfFoata.f k a0 a1 a2) (laws_FnExactWordOfFoata.f (k + 1) a0 a1 a2) := by
 intro a0 a1 a2 k
 obtain ⟨ih0, ih1, ih2⟩ := laws_FnExactWordOfFoata.mono_l k
 unfold laws_FnExactWordOfFoata.f
 repeat' first
   | (with_reducible exact ih0 _ _ _ _ _ _ _ _ _ _ _)
   | (with_reducible exact ih1 _ _ _ _ _ _ _)
   | (with_reducible exact ih2 _ _ _)
   | (with_reducible exact impl_WordOfFoata.mono _ _ _ _)
   | (with_reducible exact laws_eqAlphabet.mono _ _ _ _ _)
   | (with_reducible exact laws_eqInt64S.mono _ _ _)
   | (with_reducible exact laws_heldInt64S.mono _ _ _)
   | (with_reducible exact laws_markAlphabet.mono _ _ _ _)
   | (with_reducible exact laws_markInt64S.mono _ _ _)
   | (with_reducible exact laws_toAlphabet.mono _ _ _)
   | (with_reducible exact laws_toInt64S.mono _ _)
   | (with_reducible exact spec_WordOfFoata.mono _ _ _ _)
   | (with_reducible exact LeO.refl _)
   | (with_reducible exact LeO.none _)
   | (with_reducible refine LeO.ite ?_ ?_)
   | (with_reducible refine LeO.bind ?_ (fun _ => ?_))
   | exact ih0 _ _ _ _ _ _ _ _ _ _ _
   | exact ih1 _ _ _ _ _ _ _
   | exact ih2 _ _ _
   | exact impl_WordOfFoata.mono _ _ _ _
   | exact laws_eqAlphabet.mono _ _ _ _ _
   | exact laws_eqInt64S.mono _ _ _
   | exact laws_heldInt64S.mono _ _ _
   | exact laws_markAlphabet.mono _ _ _ _
   | exact laws_markInt64S.mono _ _ _
   | exact laws_toAlphabet.mono _ _ _
   | exact laws_toInt64S.mono _ _
   | exact spec_WordOfFoata.mono _ _ _ _
   | exact LeO.none _
   | refine LeO.ite ?_ ?_
   | refine LeO.bind ?_ (fun _ => ?_)
set_option maxHeartbeats 8000000 in
set_option maxRecDepth 100000 in
theorem laws_FnExactWordOfFoata.calls (k : Nat) (a0_0 : Int) (A0_1 : Option Addr) (c0_1 : Nat) (l0_1 : List Int) (A1 : Option Addr) (c1 : Nat) (l1 : List Int) (r : Bool) (w : World) (hr0_1 : Kd.C (Kd.int .i64) w A0_1 l0_1.length l0_1) (hc0_1 : l0_1.length ≤ c0_1) (hr1 : Kd.C (Kd.int .i64) w A1 l1.length l1) (hc1 : l1.length ≤ c1) (hT : TabW w) (h : laws_FnExactWordOfFoata.f k a0_0 l0_1 l1 = some r) :
  Calls Tryd.prog 13 #[.agg #[.int .i64 a0_0, .slice A0_1 l0_1.length c0_1], .slice A1 l1.length c1] w fun e w' => e = .returned (.bool r) ∧ Below w.heap.size w w' := by
 have hu24 := Tryd.underlying24; have hu28 := Tryd.underlying28; have HT := Aside0.mk hT; clear hT; have HR0_1 := Aside0.mk hr0_1; have HC0_1 := Aside0.mk hc0_1; clear hr0_1 hc0_1; have HR1 := Aside0.mk hr1; have HC1 := Aside0.mk hc1; clear hr1 hc1; have HB := Aside0.mk (Below.refl w.heap.size w)
 have H : (if (l1.length : Int) > 1048576 then (some true) else ((laws_szAlphabet.f a0_0 l0_1 1048576).bind fun t1039 => (if t1039 < 0 then (some true) else ((laws_toAlphabet.f k a0_0 l0_1).bind fun bt1040 => ((laws_toInt64S.f k l1).bind fun t1044 => ((spec_WordOfFoata.f k bt1040.1 bt1040.2 t1044).bind fun bt1047 => ((laws_toAlphabet.f k a0_0 l0_1).bind fun bt1051 => ((laws_toInt64S.f k l1).bind fun t1056 => ((impl_WordOfFoata.f k bt1051.1 bt1051.2 t1056).bind fun bt1059 => ((laws_eqInt64S.f k bt1059.1 bt1047.1).bind fun t1063 => (if t1063 = true then (laws_FnExactWordOfFoata.j0 k l1 bt1047.1 bt1047.2 t1056 bt1059.1 bt1059.2 (bt1059.2 != bt1047.2) a0_0 l0_1 bt1051.1 bt1051.2) else (laws_FnExactWordOfFoata.j0 k l1 bt1047.1 bt1047.2 t1056 bt1059.1 bt1059.2 true a0_0 l0_1 bt1051.1 bt1051.2)))))))))))) = some r := h
 clear h
 by_cases c3 : (l1.length : Int) > 1048576
 ·rw [if_pos c3] at H
  have c3b0 : decide (1048576 < (l1.length : Int)) = true := decide_eq_true c3
  have c3b1 : decide (1048576 < l1.length) = true := decide_eq_true (by omega)
  clear c3
  obtain rfl := Option.some.inj H
  go_enter Tryd.func13, Tryd.ntmps13
  go_wp2_with (first | ((with_reducible refine gate_dst (N := 2) rfl ?_); refine box_event ?hg (N := 2) ?hd (cs := #[.int .i64 a0_0, .slice A0_1 l0_1.length c0_1]) (t := 24) ?hr ?_; (case hd => rfl); (case hg => rfl); (case hr => first | (go_simp; done) | (go_simp; rfl)); intro gb1038 hg w4 hbox hb; have BK1038 := Aside0.mk (hbox); have GW1038 := Aside0.mk ((by rw [hg]; exact (below_size (beQ HB)) : w.heap.size ≤ gb1038)); have GE1038 := Aside0.mk ((by rw [hg]; exact (below_size (beQ HB)) : w.heap.size ≤ gb1038)); replace HB := Aside0.mk (below_step (beQ HB) hb); clear hb hbox hg))
  go_ret
  exact ⟨rz, beQ HB⟩
 ·rw [if_neg c3] at H
  have c3b0 : decide (1048576 < (l1.length : Int)) = false := decide_eq_false c3
  have c3b1 : decide (1048576 < l1.length) = false := decide_eq_false (by omega)
  clear c3; replace H := Option.bind_eq_some_iff.mp H; obtain ⟨t1039, A50, H⟩ := H
  replace H : (if t1039 < 0 then (some true) else ((laws_toAlphabet.f k a0_0 l0_1).bind fun bt1040 => ((laws_toInt64S.f k l1).bind fun t1044 => ((spec_WordOfFoata.f k bt1040.1 bt1040.2 t1044).bind fun bt1047 => ((laws_toAlphabet.f k a0_0 l0_1).bind fun bt1051 => ((laws_toInt64S.f k l1).bind fun t1056 => ((impl_WordOfFoata.f k bt1051.1 bt1051.2 t1056).bind fun bt1059 => ((laws_eqInt64S.f k bt1059.1 bt1047.1).bind fun t1063 => (if t1063 = true then (laws_FnExactWordOfFoata.j0 k l1 bt1047.1 bt1047.2 t1056 bt1059.1 bt1059.2 (bt1059.2 != bt1047.2) a0_0 l0_1 bt1051.1 bt1051.2) else (laws_FnExactWordOfFoata.j0 k l1 bt1047.1 bt1047.2 t1056 bt1059.1 bt1059.2 true a0_0 l0_1 bt1051.1 bt1051.2)))))))))) = some r := H
  have A5 := Aside0.mk A50; clear A50
  by_cases c6 : t1039 < 0
  ·rw [if_pos c6] at H
   have c6b0 : decide (t1039 < 0) = true := decide_eq_true c6
   clear c6
   obtain rfl := Option.some.inj H
   go_enter Tryd.func13, Tryd.ntmps13
   go_wp2_with (first | ((with_reducible refine gate_dst (N := 2) rfl ?_); refine box_event ?hg (N := 2) ?hd (cs := #[.int .i64 a0_0, .slice A0_1 l0_1.length c0_1]) (t := 24) ?hr ?_; (case hd => rfl); (case hg => rfl); (case hr => first | (go_simp; done) | (go_simp; rfl)); intro gb1038 hg w7 hbox hb; have BK1038 := Aside0.mk (hbox); have GW1038 := Aside0.mk ((by rw [hg]; exact (below_size (beQ HB)) : w.heap.size ≤ gb1038)); have GE1038 := Aside0.mk ((by rw [hg]; exact (below_size (beQ HB)) : w.heap.size ≤ gb1038)); replace HB := Aside0.mk (below_step (beQ HB) hb); clear hb hbox hg; have hcz8_0 : w7.cell? ⟨gb1038, 0, none⟩ = some (.int .i64 a0_0) := bc BK1038 0; have hcz8_1 : w7.cell? ⟨gb1038, 1, none⟩ = some (.slice A0_1 l0_1.length c0_1) := bc BK1038 1; have hfz8_0 := blk_frozen BK1038.out 0; have hfz8_1 := blk_frozen BK1038.out 1) | ((with_reducible refine gate_callee (f := 15) rfl ?_); refine goesL_ (some 22) rfl rfl Tryd.func15 (by kernel_rfl) rfl #[.agg #[.int .i64 a0_0, .slice A0_1 l0_1.length c0_1], .int .i64 1048576] rfl lz ?_; (with_reducible refine (laws_szAlphabet.calls a0_0 _ _ l0_1 1048576 t1039 _ ?side1 ?side2 A5.out).mono ?_); (case side1 => have q_ := Aside0.mk (Kd.C_below HR0_1.out HB.out); exact cQ q_); (case side2 => exact HC0_1.out); rintro e w9 ⟨rfl, hb⟩; refine ⟨_, rfl, ?_⟩; replace BK1038 := bb BK1038 hb; replace HB := Aside0.mk (below_step (beQ HB) hb); (try clear hb); (try clear hb2); (try clear hk); (try clear hi)))
   go_ret
   exact ⟨rz, beQ HB⟩
  ·rw [if_neg c6] at H
   have c6b0 : decide (t1039 < 0) = false := decide_eq_false c6
   clear c6; replace H := Option.bind_eq_some_iff.mp H
   obtain ⟨⟨t1040, t1041⟩, A100, H⟩ := H
   replace H : ((laws_toInt64S.f k l1).bind fun t1044 => ((spec_WordOfFoata.f k t1040 t1041 t1044).bind fun bt1047 => ((laws_toAlphabet.f k a0_0 l0_1).bind fun bt1051 => ((laws_toInt64S.f k l1).bind fun t1056 => ((impl_WordOfFoata.f k bt1051.1 bt1051.2 t1056).bind fun bt1059 => ((laws_eqInt64S.f k bt1059.1 bt1047.1).bind fun t1063 => (if t1063 = true then (laws_FnExactWordOfFoata.j0 k l1 bt1047.1 bt1047.2 t1056 bt1059.1 bt1059.2 (bt1059.2 != bt1047.2) a0_0 l0_1 bt1051.1 bt1051.2) else (laws_FnExactWordOfFoata.j0 k l1 bt1047.1 bt1047.2 t1056 bt1059.1 bt1059.2 true a0_0 l0_1 bt1051.1 bt1051.2)))))))) = some r := H
   have A10 := Aside0.mk A100; clear A100; replace H := Option.bind_eq_some_iff.mp H; obtain ⟨t1044, A110, H⟩ := H
   replace H : ((spec_WordOfFoata.f k t1040 t1041 t1044).bind fun bt1047 => ((laws_toAlphabet.f k a0_0 l0_1).bind fun bt1051 => ((laws_toInt64S.f k l1).bind fun t1056 => ((impl_WordOfFoata.f k bt1051.1 bt1051.2 t1056).bind fun bt1059 => ((laws_eqInt64S.f k bt1059.1 bt1047.1).bind fun t1063 => (if t1063 = true then (laws_FnExactWordOfFoata.j0 k l1 bt1047.1 bt1047.2 t1056 bt1059.1 bt1059.2 (bt1059.2 != bt1047.2) a0_0 l0_1 bt1051.1 bt1051.2) else (laws_FnExactWordOfFoata.j0 k l1 bt1047.1 bt1047.2 t1056 bt1059.1 bt1059.2 true a0_0 l0_1 bt1051.1 bt1051.2))))))) = some r := H
   have A11 := Aside0.mk A110; clear A110; replace H := Option.bind_eq_some_iff.mp H
   obtain ⟨⟨t1047, t1050⟩, A120, H⟩ := H
   replace H : ((laws_toAlphabet.f k a0_0 l0_1).bind fun bt1051 => ((laws_toInt64S.f k l1).bind fun t1056 => ((impl_WordOfFoata.f k bt1051.1 bt1051.2 t1056).bind fun bt1059 => ((laws_eqInt64S.f k bt1059.1 t1047).bind fun t1063 => (if t1063 = true then (laws_FnExactWordOfFoata.j0 k l1 t1047 t1050 t1056 bt1059.1 bt1059.2 (bt1059.2 != t1050) a0_0 l0_1 bt1051.1 bt1051.2) else (laws_FnExactWordOfFoata.j0 k l1 t1047 t1050 t1056 bt1059.1 bt1059.2 true a0_0 l0_1 bt1051.1 bt1051.2)))))) = some r := H
   have A12 := Aside0.mk A120; clear A120; replace H := Option.bind_eq_some_iff.mp H
   obtain ⟨⟨t1051, t1052⟩, A130, H⟩ := H
   replace H : ((laws_toInt64S.f k l1).bind fun t1056 => ((impl_WordOfFoata.f k t1051 t1052 t1056).bind fun bt1059 => ((laws_eqInt64S.f k bt1059.1 t1047).bind fun t1063 => (if t1063 = true then (laws_FnExactWordOfFoata.j0 k l1 t1047 t1050 t1056 bt1059.1 bt1059.2 (bt1059.2 != t1050) a0_0 l0_1 t1051 t1052) else (laws_FnExactWordOfFoata.j0 k l1 t1047 t1050 t1056 bt1059.1 bt1059.2 true a0_0 l0_1 t1051 t1052))))) = some r := H
   have A13 := Aside0.mk A130; clear A130; replace H := Option.bind_eq_some_iff.mp H; obtain ⟨t1056, A140, H⟩ := H
   replace H : ((impl_WordOfFoata.f k t1051 t1052 t1056).bind fun bt1059 => ((laws_eqInt64S.f k bt1059.1 t1047).bind fun t1063 => (if t1063 = true then (laws_FnExactWordOfFoata.j0 k l1 t1047 t1050 t1056 bt1059.1 bt1059.2 (bt1059.2 != t1050) a0_0 l0_1 t1051 t1052) else (laws_FnExactWordOfFoata.j0 k l1 t1047 t1050 t1056 bt1059.1 bt1059.2 true a0_0 l0_1 t1051 t1052)))) = some r := H
   have A14 := Aside0.mk A140; clear A140; replace H := Option.bind_eq_some_iff.mp H
   obtain ⟨⟨t1059, t1062⟩, A150, H⟩ := H
   replace H : ((laws_eqInt64S.f k t1059 t1047).bind fun t1063 => (if t1063 = true then (laws_FnExactWordOfFoata.j0 k l1 t1047 t1050 t1056 t1059 t1062 (t1062 != t1050) a0_0 l0_1 t1051 t1052) else (laws_FnExactWordOfFoata.j0 k l1 t1047 t1050 t1056 t1059 t1062 true a0_0 l0_1 t1051 t1052))) = some r := H
   have A15 := Aside0.mk A150; clear A150; have HC16 := Aside0.mk H; clear H
   go_enter Tryd.func13, Tryd.ntmps13
   go_upto_region 11 with (first | ((with_reducible refine gate_dst (N := 2) rfl ?_); refine box_event ?hg (N := 2) ?hd (cs := #[.int .i64 a0_0, .slice A0_1 l0_1.length c0_1]) (t := 24) ?hr ?_; (case hd => rfl); (case hg => rfl); (case hr => first | (go_simp; done) | (go_simp; rfl)); intro gb1038 hg w17 hbox hb; have BK1038 := Aside0.mk (hbox); have GW1038 := Aside0.mk ((by rw [hg]; exact (below_size (beQ HB)) : w.heap.size ≤ gb1038)); have GE1038 := Aside0.mk ((by rw [hg]; exact (below_size (beQ HB)) : w.heap.size ≤ gb1038)); replace HB := Aside0.mk (below_step (beQ HB) hb); clear hb hbox hg; have hcz18_0 : w17.cell? ⟨gb1038, 0, none⟩ = some (.int .i64 a0_0) := bc BK1038 0; have hcz18_1 : w17.cell? ⟨gb1038, 1, none⟩ = some (.slice A0_1 l0_1.length c0_1) := bc BK1038 1; have hfz18_0 := blk_frozen BK1038.out 0; have hfz18_1 := blk_frozen BK1038.out 1) | ((with_reducible refine gate_callee (f := 15) rfl ?_); refine goesL_ (some 22) rfl rfl Tryd.func15 (by kernel_rfl) rfl #[.agg #[.int .i64 a0_0, .slice A0_1 l0_1.length c0_1], .int .i64 1048576] rfl lz ?_; (with_reducible refine (laws_szAlphabet.calls a0_0 _ _ l0_1 1048576 t1039 _ ?side1 ?side2 A5.out).mono ?_); (case side1 => have q_ := Aside0.mk (Kd.C_below HR0_1.out HB.out); exact cQ q_); (case side2 => exact HC0_1.out); rintro e w19 ⟨rfl, hb⟩; refine ⟨_, rfl, ?_⟩; replace BK1038 := bb BK1038 hb; replace HB := Aside0.mk (below_step (beQ HB) hb); (try clear hb); (try clear hb2); (try clear hk); (try clear hi); have hcz20_0 : w19.cell? ⟨gb1038, 0, none⟩ = some (.int .i64 a0_0) := bc BK1038 0; have hcz20_1 : w19.cell? ⟨gb1038, 1, none⟩ = some (.slice A0_1 l0_1.length c0_1) := bc BK1038 1; have hfz20_0 := blk_frozen BK1038.out 0; have hfz20_1 := blk_frozen BK1038.out 1) | ((with_reducible refine gate_callee (f := 17) rfl ?_); refine goesL_ (some 27) rfl rfl Tryd.func17 (by kernel_rfl) rfl #[.agg #[.int .i64 a0_0, .slice A0_1 l0_1.length c0_1]] rfl lz ?_; (with_reducible refine (laws_toAlphabet.calls k a0_0 _ _ l0_1 t1040 t1041 _ ?side1 ?side2 A10.out).mono ?_); (case side1 => have q_ := Aside0.mk (Kd.C_below HR0_1.out HB.out); exact cQ q_); (case side2 => exact HC0_1.out); rintro e w21 ⟨v1042, rfl, ho0, hb⟩; refine ⟨_, rfl, ?_⟩; have HO1043 := Aside0.mk (Kd.R_lower ho0 (below_size (beQ HB))); replace BK1038 := bb BK1038 hb; replace HB := Aside0.mk (below_step (beQ HB) hb); (try clear hb); (try clear hb2); (try clear hk); (try clear hi); (try clear ho0)) | ((with_reducible refine gate_callee (f := 18) rfl ?_); refine goesL_ (some 29) rfl rfl Tryd.func18 (by kernel_rfl) rfl #[.slice A1 l1.length c1] rfl lz ?_; (with_reducible refine (laws_toInt64S.calls k _ _ l1 t1044 _ ?side1 ?side2 A11.out).mono ?_); (case side1 => have q_ := Aside0.mk (Kd.C_below HR1.out HB.out); exact cQ q_); (case side2 => exact HC1.out); rintro e w22 ⟨v1045, rfl, ho0, hb⟩; refine ⟨_, rfl, ?_⟩; have HO1046 := Aside0.mk (Kd.R_lower (Kd.R_new' ho0 (Kd.R_lt (kdQ HO1043))) (below_size (beQ HB))); replace HO1043 := Aside0.mk (Kd.R_elder' (kdQ HO1043) (Kd.R_base ho0) hb); replace BK1038 := bb BK1038 hb; replace HB := Aside0.mk (below_step (beQ HB) hb); (try clear hb); (try clear hb2); (try clear hk); (try clear hi); (try clear ho0); obtain ⟨Ao23, co23, eo23⟩ := Kd.R_slice HO1043.out; subst eo23; obtain ⟨Ao24, co24, eo24⟩ := Kd.R_slice HO1046.out; subst eo24) | ((with_reducible refine gate_callee (f := 46) rfl ?_); refine goesL_ (some 30) rfl rfl Tryd.func46 (by kernel_rfl) rfl #[.agg #[.int .i64 t1040, .slice Ao23 t1041.length co23], .slice Ao24 t1044.length co24] rfl lz ?_; (with_reducible refine (spec_WordOfFoata.calls k t1040 _ _ t1041 _ _ t1044 t1047 t1050 _ ?side1 ?side2 ?side3 ?side4 A12.out).mono ?_); (case side1 => have q_ := Aside0.mk (Kd.R_reads' HO1043.out).2.2; exact cQ q_); (case side2 => exact (Kd.R_reads' HO1043.out).2.1); (case side3 => have q_ := Aside0.mk (Kd.R_reads' HO1046.out).2.2; exact cQ q_); (case side4 => exact (Kd.R_reads' HO1046.out).2.1); rintro e w25 ⟨v1048, rfl, ho0, hb⟩; refine ⟨_, rfl, ?_⟩; have HO1049 := Aside0.mk (Kd.R_lower (Kd.R_new' (Kd.R_new' ho0 (Kd.R_lt (kdQ HO1043))) (Kd.R_lt (kdQ HO1046))) (below_size (beQ HB))); replace HO1043 := Aside0.mk (Kd.R_elder' (kdQ HO1043) (Kd.R_base ho0) hb); replace HO1046 := Aside0.mk (Kd.R_elder' (kdQ HO1046) (Kd.R_base ho0) hb); replace BK1038 := bb BK1038 hb; replace HB := Aside0.mk (below_step (beQ HB) hb); (try clear hb); (try clear hb2); (try clear hk); (try clear hi); (try clear ho0); have hcz26_0 : w25.cell? ⟨gb1038, 0, none⟩ = some (.int .i64 a0_0) := bc BK1038 0; have hcz26_1 : w25.cell? ⟨gb1038, 1, none⟩ = some (.slice A0_1 l0_1.length c0_1) := bc BK1038 1; have hfz26_0 := blk_frozen BK1038.out 0; have hfz26_1 := blk_frozen BK1038.out 1) | ((with_reducible refine gate_callee (f := 17) rfl ?_); refine goesL_ (some 34) rfl rfl Tryd.func17 (by kernel_rfl) rfl #[.agg #[.int .i64 a0_0, .slice A0_1 l0_1.length c0_1]] rfl lz ?_; (with_reducible refine (laws_toAlphabet.calls k a0_0 _ _ l0_1 t1051 t1052 _ ?side1 ?side2 A13.out).mono ?_); (case side1 => have q_ := Aside0.mk (Kd.C_below HR0_1.out HB.out); exact cQ q_); (case side2 => exact HC0_1.out); rintro e w27 ⟨v1053, rfl, ho0, hb⟩; refine ⟨_, rfl, ?_⟩; have HO1054 := Aside0.mk (Kd.R_lower (Kd.R_new' (Kd.R_new' (Kd.R_new' ho0 (Kd.R_lt (kdQ HO1043))) (Kd.R_lt (kdQ HO1046))) (Kd.R_lt (kdQ HO1049))) (below_size (beQ HB))); replace HO1043 := Aside0.mk (Kd.R_elder' (kdQ HO1043) (Kd.R_base ho0) hb); replace HO1046 := Aside0.mk (Kd.R_elder' (kdQ HO1046) (Kd.R_base ho0) hb); replace HO1049 := Aside0.mk (Kd.R_elder' (kdQ HO1049) (Kd.R_base ho0) hb); replace BK1038 := bb BK1038 hb; replace HB := Aside0.mk (below_step (beQ HB) hb); (try clear hb); (try clear hb2); (try clear hk); (try clear hi); (try clear ho0)) | ((with_reducible refine gate_dst (N := 8) rfl ?_); refine box_event ?hg (N := 8) ?hd (cs := #[.int .i64 0, .slice none 0 0]) (t := 28) ?hr ?_; (case hd => rfl); (case hg => rfl); (case hr => first | (go_simp; done) | (go_simp; rfl)); intro gb1055 hg w28 hbox hb; replace HO1043 := kb HO1043 hb; replace HO1046 := kb HO1046 hb; replace HO1049 := kb HO1049 hb; replace HO1054 := kb HO1054 hb; have BK1055 := Aside0.mk (hbox); have GW1055 := Aside0.mk ((by rw [hg]; exact (below_size (beQ HB)) : w.heap.size ≤ gb1055)); have GE1055 := Aside0.mk ((by rw [hg]; exact (below_size (beQ HB)) : w.heap.size ≤ gb1055)); replace HB := Aside0.mk (below_step (beQ HB) hb); have NB1038_1055 := Aside0.mk ((by rw [hg]; exact Nat.ne_of_lt (blk_lt (blkQ BK1038)) : gb1038 ≠ gb1055)); have NB1055_1038 := Aside0.mk ((by rw [hg]; exact Nat.ne_of_gt (blk_lt (blkQ BK1038)) : gb1055 ≠ gb1038)); replace BK1038 := bb BK1038 hb; clear hb hbox hg; have hnb29 := NB1055_1038.out; have hnc29 := NB1038_1055.out; have hcz30_0 : w28.cell? ⟨gb1055, 0, none⟩ = some (.int .i64 0) := bc BK1055 0; have hcz30_1 : w28.cell? ⟨gb1055, 1, none⟩ = some (.slice none 0 0) := bc BK1055 1; have hfz30_0 := blk_frozen BK1055.out 0; have hfz30_1 := blk_frozen BK1055.out 1; obtain ⟨Ao31, co31, eo31⟩ := Kd.R_slice HO1054.out; subst eo31) | ((with_reducible refine gate_callee (f := 18) rfl ?_); refine goesL_ (some 36) rfl rfl Tryd.func18 (by kernel_rfl) rfl #[.slice A1 l1.length c1] rfl lz ?_; (with_reducible refine (laws_toInt64S.calls k _ _ l1 t1056 _ ?side1 ?side2 A14.out).mono ?_); (case side1 => exact Kd.C_below HR1.out (beQ HB)); (case side2 => exact HC1.out); rintro e w32 ⟨v1057, rfl, ho0, hb⟩; refine ⟨_, rfl, ?_⟩; have HO1058 := Aside0.mk (Kd.R_lower (Kd.R_new' (Kd.R_new' (Kd.R_new' (Kd.R_new' ho0 (Kd.R_lt (by (with_reducible repeat (first | apply Kd.R_alloc | apply Kd.R_drewN | apply Kd.R_drew)); exact (Kd.R_mono (Kd.R_far (p := ⟨gb1055, 1, none⟩) (Kd.R_far (p := ⟨gb1055, 0, none⟩) (Kd.R_types HO1043.out BK1055.out (by decide)) (fun _ hk => hk.2) (.int .i64 t1051)) (fun _ hk => hk.2) (.slice Ao31 t1052.length co31)) (fun _ h_ => h_.1))))) (Kd.R_lt (by (with_reducible repeat (first | apply Kd.R_alloc | apply Kd.R_drewN | apply Kd.R_drew)); exact (Kd.R_mono (Kd.R_far (p := ⟨gb1055, 1, none⟩) (Kd.R_far (p := ⟨gb1055, 0, none⟩) (Kd.R_types HO1046.out BK1055.out (by decide)) (fun _ hk => hk.2) (.int .i64 t1051)) (fun _ hk => hk.2) (.slice Ao31 t1052.length co31)) (fun _ h_ => h_.1))))) (Kd.R_lt (by (with_reducible repeat (first | apply Kd.R_alloc | apply Kd.R_drewN | apply Kd.R_drew)); exact (Kd.R_mono (Kd.R_far (p := ⟨gb1055, 1, none⟩) (Kd.R_far (p := ⟨gb1055, 0, none⟩) (Kd.R_types HO1049.out BK1055.out (by decide)) (fun _ hk => hk.2) (.int .i64 t1051)) (fun _ hk => hk.2) (.slice Ao31 t1052.length co31)) (fun _ h_ => h_.1))))) (Kd.R_lt (by (with_reducible repeat (first | apply Kd.R_alloc | apply Kd.R_drewN | apply Kd.R_drew)); exact (Kd.R_mono (Kd.R_far (p := ⟨gb1055, 1, none⟩) (Kd.R_far (p := ⟨gb1055, 0, none⟩) (Kd.R_types HO1054.out BK1055.out (by decide)) (fun _ hk => hk.2) (.int .i64 t1051)) (fun _ hk => hk.2) (.slice Ao31 t1052.length co31)) (fun _ h_ => h_.1))))) (below_size (beQ HB))); replace HO1043 := Aside0.mk (Kd.R_elder' (by (with_reducible repeat (first | apply Kd.R_alloc | apply Kd.R_drewN | apply Kd.R_drew)); exact (Kd.R_mono (Kd.R_far (p := ⟨gb1055, 1, none⟩) (Kd.R_far (p := ⟨gb1055, 0, none⟩) (Kd.R_types HO1043.out BK1055.out (by decide)) (fun _ hk => hk.2) (.int .i64 t1051)) (fun _ hk => hk.2) (.slice Ao31 t1052.length co31)) (fun _ h_ => h_.1))) (Kd.R_base ho0) hb); replace HO1046 := Aside0.mk (Kd.R_elder' (by (with_reducible repeat (first | apply Kd.R_alloc | apply Kd.R_drewN | apply Kd.R_drew)); exact (Kd.R_mono (Kd.R_far (p := ⟨gb1055, 1, none⟩) (Kd.R_far (p := ⟨gb1055, 0, none⟩) (Kd.R_types HO1046.out BK1055.out (by decide)) (fun _ hk => hk.2) (.int .i64 t1051)) (fun _ hk => hk.2) (.slice Ao31 t1052.length co31)) (fun _ h_ => h_.1))) (Kd.R_base ho0) hb); replace HO1049 := Aside0.mk (Kd.R_elder' (by (with_reducible repeat (first | apply Kd.R_alloc | apply Kd.R_drewN | apply Kd.R_drew)); exact (Kd.R_mono (Kd.R_far (p := ⟨gb1055, 1, none⟩) (Kd.R_far (p := ⟨gb1055, 0, none⟩) (Kd.R_types HO1049.out BK1055.out (by decide)) (fun _ hk => hk.2) (.int .i64 t1051)) (fun _ hk => hk.2) (.slice Ao31 t1052.length co31)) (fun _ h_ => h_.1))) (Kd.R_base ho0) hb); replace HO1054 := Aside0.mk (Kd.R_elder' (by (with_reducible repeat (first | apply Kd.R_alloc | apply Kd.R_drewN | apply Kd.R_drew)); exact (Kd.R_mono (Kd.R_far (p := ⟨gb1055, 1, none⟩) (Kd.R_far (p := ⟨gb1055, 0, none⟩) (Kd.R_types HO1054.out BK1055.out (by decide)) (fun _ hk => hk.2) (.int .i64 t1051)) (fun _ hk => hk.2) (.slice Ao31 t1052.length co31)) (fun _ h_ => h_.1))) (Kd.R_base ho0) hb); replace BK1038 := Aside0.mk (blk_below (blkF BK1038) hb); replace BK1055 := Aside0.mk (blk_below (g := gb1055) (o := .cells #[.int .i64 t1051, .slice Ao31 t1052.length co31] 28 (0, 0)) (by (with_reducible repeat (first | refine blk_drewN ?_ _ | refine blk_drew ?_ | refine blk_alloc ?_ _)); refine blk_put (cs := #[.int .i64 t1051, .slice none 0 0]) ?_ 1 _ rfl; (with_reducible repeat (first | refine blk_drewN ?_ _ | refine blk_drew ?_ | refine blk_alloc ?_ _)); refine blk_put (cs := #[.int .i64 0, .slice none 0 0]) ?_ 0 _ rfl; (with_reducible repeat (first | refine blk_drewN ?_ _ | refine blk_drew ?_ | refine blk_alloc ?_ _)); exact BK1055.out) hb); replace HB := Aside0.mk (below_step (beQ HB) hb); (try clear hb); (try clear hb2); (try clear hk); (try clear hi); (try clear ho0); have hcz33_0 : w32.cell? ⟨gb1055, 0, none⟩ = some (.int .i64 t1051) := bc BK1055 0; have hcz33_1 : w32.cell? ⟨gb1055, 1, none⟩ = some (.slice Ao31 t1052.length co31) := bc BK1055 1; have hfz33_0 := blk_frozen BK1055.out 0; have hfz33_1 := blk_frozen BK1055.out 1; obtain ⟨Ao34, co34, eo34⟩ := Kd.R_slice HO1058.out; subst eo34) | ((with_reducible refine gate_callee (f := 47) rfl ?_); refine goesL_ (some 40) rfl rfl Tryd.func47 (by kernel_rfl) rfl #[.agg #[.int .i64 t1051, .slice Ao31 t1052.length co31], .slice Ao34 t1056.length co34] rfl lz ?_; (with_reducible refine (impl_WordOfFoata.calls k t1051 _ _ t1052 _ _ t1056 t1059 t1062 _ ?side1 ?side2 ?side3 ?side4 ?side5 A15.out).mono ?_); (case side1 => have q_ := Aside0.mk (Kd.R_reads' HO1054.out).2.2; exact cQ q_); (case side2 => exact (Kd.R_reads' HO1054.out).2.1); (case side3 => have q_ := Aside0.mk (Kd.R_reads' HO1058.out).2.2; exact cQ q_); (case side4 => exact (Kd.R_reads' HO1058.out).2.1); (case side5 => exact TabW.below HT.out (beQ HB)); rintro e w35 ⟨v1060, rfl, ho0, hb⟩; refine ⟨_, rfl, ?_⟩; have HO1061 := Aside0.mk (Kd.R_lower (Kd.R_new' (Kd.R_new' (Kd.R_new' (Kd.R_new' (Kd.R_new' ho0 (Kd.R_lt (kdQ HO1043))) (Kd.R_lt (kdQ HO1046))) (Kd.R_lt (kdQ HO1049))) (Kd.R_lt (kdQ HO1054))) (Kd.R_lt (kdQ HO1058))) (below_size (beQ HB))); replace HO1043 := Aside0.mk (Kd.R_elder' (kdQ HO1043) (Kd.R_base ho0) hb); replace HO1046 := Aside0.mk (Kd.R_elder' (kdQ HO1046) (Kd.R_base ho0) hb); replace HO1049 := Aside0.mk (Kd.R_elder' (kdQ HO1049) (Kd.R_base ho0) hb); replace HO1054 := Aside0.mk (Kd.R_elder' (kdQ HO1054) (Kd.R_base ho0) hb); replace HO1058 := Aside0.mk (Kd.R_elder' (kdQ HO1058) (Kd.R_base ho0) hb); replace BK1038 := bb BK1038 hb; replace BK1055 := bb BK1055 hb; replace HB := Aside0.mk (below_step (beQ HB) hb); (try clear hb); (try clear hb2); (try clear hk); (try clear hi); (try clear ho0)))
   (try simp only [Act.put, List.setIfInBounds_toArray, List.set_cons_zero, List.set_cons_succ])
   go_cut [51] (fun v51 wc => ∃ (kq : Nat) (x51_15 : Bool), v51 = .bool x51_15 ∧ Aside0 (laws_FnExactWordOfFoata.j0 kq l1 t1047 t1050 t1056 t1059 t1062 x51_15 a0_0 l0_1 t1051 t1052 = some r) ∧ Aside0 (kq ≤ k) ∧ Aside0 (Kd.R (Kd.int .i64) 2 wc w.heap.size (fun k_ => some k_ ≠ ((.slice Ao34 t1056.length co34) : Value).ownBlock ∧ some k_ ≠ (v1060 : Value).ownBlock ∧ some k_ ≠ ((.slice Ao31 t1052.length co31) : Value).ownBlock) v1048 t1047) ∧ Aside0 (Kd.R (Kd.int .i64) 2 wc w.heap.size (fun k_ => some k_ ≠ (v1048 : Value).ownBlock ∧ some k_ ≠ (v1060 : Value).ownBlock ∧ some k_ ≠ ((.slice Ao31 t1052.length co31) : Value).ownBlock) (.slice Ao34 t1056.length co34) t1056) ∧ Aside0 (Kd.R (Kd.int .i64) 2 wc w.heap.size (fun k_ => some k_ ≠ (v1048 : Value).ownBlock ∧ some k_ ≠ ((.slice Ao34 t1056.length co34) : Value).ownBlock ∧ some k_ ≠ ((.slice Ao31 t1052.length co31) : Value).ownBlock) v1060 t1059) ∧ Aside0 (Kd.R (Kd.int .i64) 2 wc w.heap.size (fun k_ => some k_ ≠ (v1048 : Value).ownBlock ∧ some k_ ≠ ((.slice Ao34 t1056.length co34) : Value).ownBlock ∧ some k_ ≠ (v1060 : Value).ownBlock) (.slice Ao31 t1052.length co31) t1052) ∧ Aside0 (wc.heap[gb1038]? = some (.cells #[.int .i64 a0_0, (.slice A0_1 l0_1.length c0_1)] 24 (0, 0))) ∧ Aside0 (wc.heap[gb1055]? = some (.cells #[.int .i64 t1051, (.slice Ao31 t1052.length co31)] 28 (0, 0))) ∧ Aside0 (Below w.heap.size w wc))
   case first =>
    have H := HC16.out; clear HC16; replace H := Option.bind_eq_some_iff.mp H; obtain ⟨t1063, A360, H⟩ := H
    replace H : (if t1063 = true then (laws_FnExactWordOfFoata.j0 k l1 t1047 t1050 t1056 t1059 t1062 (t1062 != t1050) a0_0 l0_1 t1051 t1052) else (laws_FnExactWordOfFoata.j0 k l1 t1047 t1050 t1056 t1059 t1062 true a0_0 l0_1 t1051 t1052)) = some r := H
    have A36 := Aside0.mk A360; clear A360
    by_cases c37 : t1063 = true
    ·subst c37
     have H1 : (laws_FnExactWordOfFoata.j0 k l1 t1047 t1050 t1056 t1059 t1062 (t1062 != t1050) a0_0 l0_1 t1051 t1052) = some r := by rw [if_pos rfl] at H; exact H
     clear H; have H := H1; clear H1
     have H' := Aside0.mk H
     clear H; obtain ⟨Ao38, co38, eo38⟩ := Kd.R_slice HO1061.out; subst eo38; obtain ⟨Ao39, co39, eo39⟩ := Kd.R_slice HO1049.out; subst eo39
     go_wp2_with (first | ((with_reducible refine gate_callee (f := 21) rfl ?_); refine goesL_ (some 45) rfl rfl Tryd.func21 (by kernel_rfl) rfl #[.slice Ao38 t1059.length co38, .slice Ao39 t1047.length co39] rfl lz ?_; (with_reducible refine (laws_eqInt64S.calls k _ _ t1059 _ _ t1047 true _ ?side1 ?side2 ?side3 ?side4 A36.out).mono ?_); (case side1 => have q_ := Aside0.mk (Kd.R_reads' HO1061.out).2.2; exact cQ q_); (case side2 => exact (Kd.R_reads' HO1061.out).2.1); (case side3 => have q_ := Aside0.mk (Kd.R_reads' HO1049.out).2.2; exact cQ q_); (case side4 => exact (Kd.R_reads' HO1049.out).2.1); rintro e w' ⟨rfl, ⟨nd, rfl⟩⟩; refine ⟨_, rfl, ?_⟩))
     go_meet
     case rel => exact ⟨_, ((t1062 != t1050)), sz, H', ⟨by first | omega | exact Nat.le_refl _⟩, ⟨by (with_reducible repeat (first | apply Kd.R_alloc | apply Kd.R_drewN | apply Kd.R_drew)); exact Kd.R_mono HO1049.out (fun _ hk => ⟨hk.1.2, ⟨hk.2, hk.1.1.2⟩⟩)⟩, ⟨by (with_reducible repeat (first | apply Kd.R_alloc | apply Kd.R_drewN | apply Kd.R_drew)); exact Kd.R_mono HO1058.out (fun _ hk => ⟨hk.1.1.2, ⟨hk.2, hk.1.2⟩⟩)⟩, ⟨by (with_reducible repeat (first | apply Kd.R_alloc | apply Kd.R_drewN | apply Kd.R_drew)); exact Kd.R_mono HO1061.out (fun _ hk => ⟨hk.1.1.2, ⟨hk.2, hk.1.2⟩⟩)⟩, ⟨by (with_reducible repeat (first | apply Kd.R_alloc | apply Kd.R_drewN | apply Kd.R_drew)); exact Kd.R_mono HO1054.out (fun _ hk => ⟨hk.1.1.2, ⟨hk.1.2, hk.2⟩⟩)⟩, ⟨blkQ BK1038⟩, ⟨blkQ BK1055⟩, ⟨beQ HB⟩⟩
    ·replace c37 := Bool.eq_false_iff.mpr c37
     subst c37
     have H1 : (laws_FnExactWordOfFoata.j0 k l1 t1047 t1050 t1056 t1059 t1062 true a0_0 l0_1 t1051 t1052) = some r := by rw [if_neg (show ¬ (false = true) by decide)] at H; exact H
     clear H; have H := H1; clear H1
     have H' := Aside0.mk H
     clear H; obtain ⟨Ao40, co40, eo40⟩ := Kd.R_slice HO1061.out; subst eo40; obtain ⟨Ao41, co41, eo41⟩ := Kd.R_slice HO1049.out; subst eo41
     go_wp2_with (first | ((with_reducible refine gate_callee (f := 21) rfl ?_); refine goesL_ (some 45) rfl rfl Tryd.func21 (by kernel_rfl) rfl #[.slice Ao40 t1059.length co40, .slice Ao41 t1047.length co41] rfl lz ?_; (with_reducible refine (laws_eqInt64S.calls k _ _ t1059 _ _ t1047 false _ ?side1 ?side2 ?side3 ?side4 A36.out).mono ?_); (case side1 => have q_ := Aside0.mk (Kd.R_reads' HO1061.out).2.2; exact cQ q_); (case side2 => exact (Kd.R_reads' HO1061.out).2.1); (case side3 => have q_ := Aside0.mk (Kd.R_reads' HO1049.out).2.2; exact cQ q_); (case side4 => exact (Kd.R_reads' HO1049.out).2.1); rintro e w' ⟨rfl, ⟨nd, rfl⟩⟩; refine ⟨_, rfl, ?_⟩))
     go_meet
     case rel => exact ⟨_, (true), sz, H', ⟨by first | omega | exact Nat.le_refl _⟩, ⟨by (with_reducible repeat (first | apply Kd.R_alloc | apply Kd.R_drewN | apply Kd.R_drew)); exact Kd.R_mono HO1049.out (fun _ hk => ⟨hk.1.2, ⟨hk.2, hk.1.1.2⟩⟩)⟩, ⟨by (with_reducible repeat (first | apply Kd.R_alloc | apply Kd.R_drewN | apply Kd.R_drew)); exact Kd.R_mono HO1058.out (fun _ hk => ⟨hk.1.1.2, ⟨hk.2, hk.1.2⟩⟩)⟩, ⟨by (with_reducible repeat (first | apply Kd.R_alloc | apply Kd.R_drewN | apply Kd.R_drew)); exact Kd.R_mono HO1061.out (fun _ hk => ⟨hk.1.1.2, ⟨hk.2, hk.1.2⟩⟩)⟩, ⟨by (with_reducible repeat (first | apply Kd.R_alloc | apply Kd.R_drewN | apply Kd.R_drew)); exact Kd.R_mono HO1054.out (fun _ hk => ⟨hk.1.1.2, ⟨hk.1.2, hk.2⟩⟩)⟩, ⟨blkQ BK1038⟩, ⟨blkQ BK1055⟩, ⟨beQ HB⟩⟩
   case rest =>
    clear HC16
    try clear c1
    try clear c2
    try clear p2
    try clear c3
    try clear c3b0
    try clear c3b1
    try clear c4
    try clear c6
    try clear c6b0
    try clear c13
    try clear c15
    try clear c17
    try clear c18
    try clear c21
    try clear c29
    try clear c37
    try clear hcz18_0
    try clear hcz18_1
    try clear hcz20_0
    try clear hcz20_1
    try clear hcz26_0
    try clear hcz26_1
    try clear hcz30_0
    try clear hcz30_1
    try clear hcz33_0
    try clear hcz33_1
    try clear hcz8_0
    try clear hcz8_1
    try clear hfz18_0
    try clear hfz18_1
    try clear hfz20_0
    try clear hfz20_1
    try clear hfz26_0
    try clear hfz26_1
    try clear hfz30_0
    try clear hfz30_1
    try clear hfz33_0
    try clear hfz33_1
    try clear hfz8_0
    try clear hfz8_1
    obtain ⟨kq, x51_15, rfl, HA, HJ15, HO_6, HO_9, HO_10, HO_1056001, BK1038, BK1055, HB⟩ := hcut
    cases kq with
    | zero => exact absurd HA.out (by simp [laws_FnExactWordOfFoata.j0])
    | succ kj15 =>
     have H := HA.out; clear HA
     simp only [laws_FnExactWordOfFoata.j0] at H
     by_cases c42 : x51_15 = true
     ·subst c42
      have H1 : (some false) = some r := by rw [if_pos rfl] at H; exact H
      clear H; have H := H1; clear H1
      obtain rfl := Option.some.inj H
      go_wp2
      go_ret
      exact ⟨rz, beQ HB⟩
     ·replace c42 := Bool.eq_false_iff.mpr c42
      subst c42
      have H1 : ((laws_toAlphabet.f kj15 a0_0 l0_1).bind fun bt1064 => ((laws_eqAlphabet.f kj15 t1051 t1052 bt1064.1 bt1064.2).bind fun t1068 => (if t1068 = true then ((laws_toInt64S.f kj15 l1).bind fun t1069 => ((laws_eqInt64S.f kj15 t1056 t1069).bind fun t1072 => (if t1072 = true then ((laws_markAlphabet.f kj15 t1051 t1052 1).bind fun bt1073 => ((laws_markInt64S.f kj15 t1056 bt1073.1).bind fun bt1075 => (if bt1075.1 < 0 then (laws_FnExactWordOfFoata.j1 kj15 l1 t1047 t1050 t1059 true a0_0 l0_1) else ((laws_eqInt64S.f kj15 t1059 t1047).bind fun t1077 => (if t1077 = true then (laws_FnExactWordOfFoata.j1 kj15 l1 t1047 t1050 t1059 (t1062 != t1050) a0_0 l0_1) else (laws_FnExactWordOfFoata.j1 kj15 l1 t1047 t1050 t1059 true a0_0 l0_1)))))) else (some false)))) else (some false)))) = some r := by rw [if_neg (show ¬ (false = true) by decide)] at H; exact H
      clear H; have H := H1; clear H1; replace H := Option.bind_eq_some_iff.mp H
      obtain ⟨⟨t1064, t1065⟩, A430, H⟩ := H
      replace H : ((laws_eqAlphabet.f kj15 t1051 t1052 t1064 t1065).bind fun t1068 => (if t1068 = true then ((laws_toInt64S.f kj15 l1).bind fun t1069 => ((laws_eqInt64S.f kj15 t1056 t1069).bind fun t1072 => (if t1072 = true then ((laws_markAlphabet.f kj15 t1051 t1052 1).bind fun bt1073 => ((laws_markInt64S.f kj15 t1056 bt1073.1).bind fun bt1075 => (if bt1075.1 < 0 then (laws_FnExactWordOfFoata.j1 kj15 l1 t1047 t1050 t1059 true a0_0 l0_1) else ((laws_eqInt64S.f kj15 t1059 t1047).bind fun t1077 => (if t1077 = true then (laws_FnExactWordOfFoata.j1 kj15 l1 t1047 t1050 t1059 (t1062 != t1050) a0_0 l0_1) else (laws_FnExactWordOfFoata.j1 kj15 l1 t1047 t1050 t1059 true a0_0 l0_1)))))) else (some false)))) else (some false))) = some r := H
      have A43 := Aside0.mk A430; clear A430; replace H := Option.bind_eq_some_iff.mp H; obtain ⟨t1068, A440, H⟩ := H
      replace H : (if t1068 = true then ((laws_toInt64S.f kj15 l1).bind fun t1069 => ((laws_eqInt64S.f kj15 t1056 t1069).bind fun t1072 => (if t1072 = true then ((laws_markAlphabet.f kj15 t1051 t1052 1).bind fun bt1073 => ((laws_markInt64S.f kj15 t1056 bt1073.1).bind fun bt1075 => (if bt1075.1 < 0 then (laws_FnExactWordOfFoata.j1 kj15 l1 t1047 t1050 t1059 true a0_0 l0_1) else ((laws_eqInt64S.f kj15 t1059 t1047).bind fun t1077 => (if t1077 = true then (laws_FnExactWordOfFoata.j1 kj15 l1 t1047 t1050 t1059 (t1062 != t1050) a0_0 l0_1) else (laws_FnExactWordOfFoata.j1 kj15 l1 t1047 t1050 t1059 true a0_0 l0_1)))))) else (some false)))) else (some false)) = some r := H
      have A44 := Aside0.mk A440; clear A440
      by_cases c45 : t1068 = true
      ·subst c45
       have H1 : ((laws_toInt64S.f kj15 l1).bind fun t1069 => ((laws_eqInt64S.f kj15 t1056 t1069).bind fun t1072 => (if t1072 = true then ((laws_markAlphabet.f kj15 t1051 t1052 1).bind fun bt1073 => ((laws_markInt64S.f kj15 t1056 bt1073.1).bind fun bt1075 => (if bt1075.1 < 0 then (laws_FnExactWordOfFoata.j1 kj15 l1 t1047 t1050 t1059 true a0_0 l0_1) else ((laws_eqInt64S.f kj15 t1059 t1047).bind fun t1077 => (if t1077 = true then (laws_FnExactWordOfFoata.j1 kj15 l1 t1047 t1050 t1059 (t1062 != t1050) a0_0 l0_1) else (laws_FnExactWordOfFoata.j1 kj15 l1 t1047 t1050 t1059 true a0_0 l0_1)))))) else (some false)))) = some r := by rw [if_pos rfl] at H; exact H
       clear H; have H := H1; clear H1; replace H := Option.bind_eq_some_iff.mp H; obtain ⟨t1069, A460, H⟩ := H
       replace H : ((laws_eqInt64S.f kj15 t1056 t1069).bind fun t1072 => (if t1072 = true then ((laws_markAlphabet.f kj15 t1051 t1052 1).bind fun bt1073 => ((laws_markInt64S.f kj15 t1056 bt1073.1).bind fun bt1075 => (if bt1075.1 < 0 then (laws_FnExactWordOfFoata.j1 kj15 l1 t1047 t1050 t1059 true a0_0 l0_1) else ((laws_eqInt64S.f kj15 t1059 t1047).bind fun t1077 => (if t1077 = true then (laws_FnExactWordOfFoata.j1 kj15 l1 t1047 t1050 t1059 (t1062 != t1050) a0_0 l0_1) else (laws_FnExactWordOfFoata.j1 kj15 l1 t1047 t1050 t1059 true a0_0 l0_1)))))) else (some false))) = some r := H
       have A46 := Aside0.mk A460; clear A460; replace H := Option.bind_eq_some_iff.mp H; obtain ⟨t1072, A470, H⟩ := H
       replace H : (if t1072 = true then ((laws_markAlphabet.f kj15 t1051 t1052 1).bind fun bt1073 => ((laws_markInt64S.f kj15 t1056 bt1073.1).bind fun bt1075 => (if bt1075.1 < 0 then (laws_FnExactWordOfFoata.j1 kj15 l1 t1047 t1050 t1059 true a0_0 l0_1) else ((laws_eqInt64S.f kj15 t1059 t1047).bind fun t1077 => (if t1077 = true then (laws_FnExactWordOfFoata.j1 kj15 l1 t1047 t1050 t1059 (t1062 != t1050) a0_0 l0_1) else (laws_FnExactWordOfFoata.j1 kj15 l1 t1047 t1050 t1059 true a0_0 l0_1)))))) else (some false)) = some r := H
       have A47 := Aside0.mk A470; clear A470
       by_cases c48 : t1072 = true
       ·subst c48
        have H1 : ((laws_markAlphabet.f kj15 t1051 t1052 1).bind fun bt1073 => ((laws_markInt64S.f kj15 t1056 bt1073.1).bind fun bt1075 => (if bt1075.1 < 0 then (laws_FnExactWordOfFoata.j1 kj15 l1 t1047 t1050 t1059 true a0_0 l0_1) else ((laws_eqInt64S.f kj15 t1059 t1047).bind fun t1077 => (if t1077 = true then (laws_FnExactWordOfFoata.j1 kj15 l1 t1047 t1050 t1059 (t1062 != t1050) a0_0 l0_1) else (laws_FnExactWordOfFoata.j1 kj15 l1 t1047 t1050 t1059 true a0_0 l0_1)))))) = some r := by rw [if_pos rfl] at H; exact H
        clear H; have H := H1; clear H1; replace H := Option.bind_eq_some_iff.mp H
        obtain ⟨⟨t1073, t1074⟩, A490, H⟩ := H
        replace H : ((laws_markInt64S.f kj15 t1056 t1073).bind fun bt1075 => (if bt1075.1 < 0 then (laws_FnExactWordOfFoata.j1 kj15 l1 t1047 t1050 t1059 true a0_0 l0_1) else ((laws_eqInt64S.f kj15 t1059 t1047).bind fun t1077 => (if t1077 = true then (laws_FnExactWordOfFoata.j1 kj15 l1 t1047 t1050 t1059 (t1062 != t1050) a0_0 l0_1) else (laws_FnExactWordOfFoata.j1 kj15 l1 t1047 t1050 t1059 true a0_0 l0_1))))) = some r := H
        have A49 := Aside0.mk A490; clear A490; replace H := Option.bind_eq_some_iff.mp H
        obtain ⟨⟨t1075, t1076⟩, A500, H⟩ := H
        replace H : (if t1075 < 0 then (laws_FnExactWordOfFoata.j1 kj15 l1 t1047 t1050 t1059 true a0_0 l0_1) else ((laws_eqInt64S.f kj15 t1059 t1047).bind fun t1077 => (if t1077 = true then (laws_FnExactWordOfFoata.j1 kj15 l1 t1047 t1050 t1059 (t1062 != t1050) a0_0 l0_1) else (laws_FnExactWordOfFoata.j1 kj15 l1 t1047 t1050 t1059 true a0_0 l0_1)))) = some r := H
        have A50 := Aside0.mk A500; clear A500; have HC51 := Aside0.mk H; clear H
        try go_wp2
        replace HO_6 := Aside0.mk (Kd.R_drew HO_6.out); replace HO_9 := Aside0.mk (Kd.R_drew HO_9.out); replace HO_10 := Aside0.mk (Kd.R_drew HO_10.out); replace HO_1056001 := Aside0.mk (Kd.R_drew HO_1056001.out); replace BK1038 := Aside0.mk (blk_drew BK1038.out); replace BK1055 := Aside0.mk (blk_drew BK1055.out); replace HB := Aside0.mk (below_drew1 HB.out)
        refine start_ (n := 5) (S := fun w' => w'.cell? ⟨gb1055, 0, none⟩ = some (.int .i64 t1051) ∧ w'.cell? ⟨gb1055, 1, none⟩ = some (.slice Ao31 t1052.length co31) ∧ w'.cell? ⟨gb1038, 0, none⟩ = some (.int .i64 a0_0) ∧ w'.cell? ⟨gb1038, 1, none⟩ = some (.slice A0_1 l0_1.length c0_1)) (ds := []) #[false, false, false, false, false] (by kernel_rfl) rfl rfl ⟨bc BK1055 0, bc BK1055 1, bc BK1038 0, bc BK1038 1⟩ (fun hHeld => ?_)
        generalize wc.drew = w52 at HO_6 HO_9 HO_10 HO_1056001 BK1038 BK1055 HB hHeld ⊢
        refine take_ (i := 0) (N := some 52) (v := ?_) (a' := ?_) #[true, false, false, false, false] rfl rfl (by kernel_rfl) (fun _ _ _ h => h) (Or.inl ⟨by rfl, ?_⟩) hHeld ?_ ?_
        rotate_left
        ·rintro w' ⟨s0, s1, s2, s3⟩
         go_simp
         with_reducible rfl
        rotate_left
        ·simp only [Act.put, s1, s2, s3, i64_w, i32_w]
         rfl
        refine take_ (i := 1) (N := some 53) (v := ?_) (a' := ?_) #[true, true, false, false, false] rfl rfl (by kernel_rfl) (fun _ _ _ h => h) (Or.inl ⟨by rfl, ?_⟩) hHeld ?_ ?_
        rotate_left
        ·rintro w' ⟨s0, s1, s2, s3⟩
         go_simp
         with_reducible rfl
        rotate_left
        ·simp only [Act.put, s1, s2, s3, i64_w, i32_w]
         rfl
        refine one_ (i := 2) (N := some 54) #[true, true, true, false, false] rfl rfl (by kernel_rfl) (by decide) (fun K hK => ?_)
        refine goes_ Tryd.func17 (by kernel_rfl) rfl #[.agg #[.int .i64 a0_0, .slice A0_1 l0_1.length c0_1]] (by rfl) rfl rfl lz ?_
        with_reducible refine (laws_toAlphabet.calls kj15 a0_0 _ _ l0_1 t1064 t1065 _ ?side1 ?side2 A43.out).mono ?_
        (case side1 => have q_ := Aside0.mk (Kd.C_below HR0_1.out HB.out); exact cQ q_)
        (case side2 => exact HC0_1.out)
        rintro e w53 ⟨v1066, rfl, ho0, hb⟩
        refine ⟨_, rfl, ?_⟩
        have HO1067 := Aside0.mk (Kd.R_lower (Kd.R_new' (Kd.R_new' (Kd.R_new' (Kd.R_new' ho0 (Kd.R_lt (kdQ HO_6))) (Kd.R_lt (kdQ HO_9))) (Kd.R_lt (kdQ HO_10))) (Kd.R_lt (kdQ HO_1056001))) (below_size (beQ HB))); replace HO_6 := Aside0.mk (Kd.R_elder' (kdQ HO_6) (Kd.R_base ho0) hb); replace HO_9 := Aside0.mk (Kd.R_elder' (kdQ HO_9) (Kd.R_base ho0) hb); replace HO_10 := Aside0.mk (Kd.R_elder' (kdQ HO_10) (Kd.R_base ho0) hb); replace HO_1056001 := Aside0.mk (Kd.R_elder' (kdQ HO_1056001) (Kd.R_base ho0) hb); replace BK1038 := bb BK1038 hb; replace BK1055 := bb BK1055 hb; replace HB := Aside0.mk (below_step (beQ HB) hb)
        (try clear hb)
        (try clear hb2)
        (try clear hk)
        (try clear hi)
        (try clear ho0)
        obtain ⟨Ao54, co54, eo54⟩ := Kd.R_slice HO1067.out
        (first | subst eo54 | (injection eo54 with f1_ f2_ f3_; have f4_ := f1_.symm; have f5_ := f3_.symm; clear f1_ f2_ f3_; subst f4_; subst f5_))
        refine hK.out _ _ ⟨bc BK1055 0, bc BK1055 1, bc BK1038 0, bc BK1038 1⟩ (fun hHeld => ?_)
        clear hK K
        refine norm_ (a' := ?_) ?_ ?_
        rotate_left
        ·show Act.put _ (some 54) _ = _
         simp only [Act.put, s1, s2, s3, i64_w, i32_w]
         rfl
        refine one_ (i := 3) (N := some 55) #[true, true, true, true, false] rfl rfl (by kernel_rfl) (by decide) (fun K hK => ?_)
        refine goes_ Tryd.func20 (by kernel_rfl) rfl #[.agg #[.int .i64 t1051, .slice Ao31 t1052.length co31], .agg #[.int .i64 t1064, .slice Ao54 t1065.length co54]] (by rfl) rfl rfl lz ?_
        with_reducible refine (laws_eqAlphabet.calls kj15 t1051 _ _ t1052 t1064 _ _ t1065 true _ ?side1 ?side2 ?side3 ?side4 A44.out).mono ?_
        (case side1 => have q_ := Aside0.mk (Kd.R_reads' HO_1056001.out).2.2; exact cQ q_)
        (case side2 => exact (Kd.R_reads' HO_1056001.out).2.1)
        (case side3 => have q_ := Aside0.mk (Kd.R_reads' HO1067.out).2.2; exact cQ q_)
        (case side4 => exact (Kd.R_reads' HO1067.out).2.1)
        rintro e w55 ⟨rfl, hb⟩
        refine ⟨_, rfl, ?_⟩
        replace HO_6 := kb HO_6 hb; replace HO_9 := kb HO_9 hb; replace HO_10 := kb HO_10 hb; replace HO_1056001 := kb HO_1056001 hb; replace HO1067 := kb HO1067 hb; replace BK1038 := bb BK1038 hb; replace BK1055 := bb BK1055 hb; replace HB := Aside0.mk (below_step (beQ HB) hb)
        (try clear hb)
        (try clear hb2)
        (try clear hk)
        (try clear hi)
        refine hK.out _ _ ⟨bc BK1055 0, bc BK1055 1, bc BK1038 0, bc BK1038 1⟩ (fun hHeld => ?_)
        clear hK K
        refine norm_ (a' := ?_) ?_ ?_
        rotate_left
        ·show Act.put _ (some 55) _ = _
         simp only [Act.put, s1, s2, s3, i64_w, i32_w]
         rfl
        refine pure_ (i := 4) (N := some 56) (v := ?_) (a' := ?_) #[true, true, true, true, true] rfl rfl (by kernel_rfl) (fun _ _ _ h => h) (Or.inl ⟨by rfl, ?_⟩) ?_ ?_
        rotate_left
        ·intro w'
         go_simp
         with_reducible rfl
        rotate_left
        ·simp only [Act.put, s1, s2, s3, i64_w, i32_w]
         rfl
        refine done_ (by kernel_rfl) ?_
        go_upto_region 20 with (first | ((with_reducible refine gate_callee (f := 18) rfl ?_); refine goesL_ (some 59) rfl rfl Tryd.func18 (by kernel_rfl) rfl #[.slice A1 l1.length c1] rfl lz ?_; (with_reducible refine (laws_toInt64S.calls kj15 _ _ l1 t1069 _ ?side1 ?side2 A46.out).mono ?_); (case side1 => have q_ := Aside0.mk (Kd.C_below HR1.out HB.out); exact cQ q_); (case side2 => exact HC1.out); rintro e w56 ⟨v1070, rfl, ho0, hb⟩; refine ⟨_, rfl, ?_⟩; have HO1071 := Aside0.mk (Kd.R_lower (Kd.R_new' (Kd.R_new' (Kd.R_new' (Kd.R_new' (Kd.R_new' ho0 (Kd.R_lt (kdQ HO_6))) (Kd.R_lt (kdQ HO_9))) (Kd.R_lt (kdQ HO_10))) (Kd.R_lt (kdQ HO_1056001))) (Kd.R_lt (kdQ HO1067))) (below_size (beQ HB))); replace HO_6 := Aside0.mk (Kd.R_elder' (kdQ HO_6) (Kd.R_base ho0) hb); replace HO_9 := Aside0.mk (Kd.R_elder' (kdQ HO_9) (Kd.R_base ho0) hb); replace HO_10 := Aside0.mk (Kd.R_elder' (kdQ HO_10) (Kd.R_base ho0) hb); replace HO_1056001 := Aside0.mk (Kd.R_elder' (kdQ HO_1056001) (Kd.R_base ho0) hb); replace HO1067 := Aside0.mk (Kd.R_elder' (kdQ HO1067) (Kd.R_base ho0) hb); replace BK1038 := bb BK1038 hb; replace BK1055 := bb BK1055 hb; replace HB := Aside0.mk (below_step (beQ HB) hb); (try clear hb); (try clear hb2); (try clear hk); (try clear hi); (try clear ho0); obtain ⟨Ao57, co57, eo57⟩ := Kd.R_slice HO1071.out; subst eo57) | ((with_reducible refine gate_callee (f := 21) rfl ?_); refine goesL_ (some 60) rfl rfl Tryd.func21 (by kernel_rfl) rfl #[.slice Ao34 t1056.length co34, .slice Ao57 t1069.length co57] rfl lz ?_; (with_reducible refine (laws_eqInt64S.calls kj15 _ _ t1056 _ _ t1069 true _ ?side1 ?side2 ?side3 ?side4 A47.out).mono ?_); (case side1 => have q_ := Aside0.mk (Kd.R_reads' HO_9.out).2.2; exact cQ q_); (case side2 => exact (Kd.R_reads' HO_9.out).2.1); (case side3 => have q_ := Aside0.mk (Kd.R_reads' HO1071.out).2.2; exact cQ q_); (case side4 => exact (Kd.R_reads' HO1071.out).2.1); rintro e w' ⟨rfl, ⟨nd, rfl⟩⟩; refine ⟨_, rfl, ?_⟩; have hnb58 := NB1055_1038.out; have hnc58 := NB1038_1055.out; have hcz59_0 : w56.cell? ⟨gb1055, 0, none⟩ = some (.int .i64 t1051) := bc BK1055 0; have hcz59_1 : w56.cell? ⟨gb1055, 1, none⟩ = some (.slice Ao31 t1052.length co31) := bc BK1055 1; have hfz59_0 := blk_frozen BK1055.out 0; have hfz59_1 := blk_frozen BK1055.out 1) | ((with_reducible refine gate_callee (f := 24) rfl ?_); refine goesL_ (some 64) rfl rfl Tryd.func24 (by kernel_rfl) rfl #[.agg #[.int .i64 t1051, .slice Ao31 t1052.length co31], .int .i64 1] rfl lz ?_; (with_reducible refine (laws_markAlphabet.calls kj15 t1051 (fun k_ => some k_ = (.slice Ao31 t1052.length co31 : Value).ownBlock) (.slice Ao31 t1052.length co31) t1052 1 t1073 t1074 w _ ?side1 ?side2 A49.out).mono ?_); (case side1 => repeat (first | (with_reducible first | exact HB.out | apply below_alloc | apply pw_below_drewN | apply below_drew1 | refine below_set ?_ GE1038.out | refine below_set ?_ GE1055.out) | exact HB.out)); (case side2 => exact Kd.R_tight rfl HO_1056001.out); rintro e w60 ⟨rfl, hy0, hb, hkp⟩; refine ⟨_, rfl, ?_⟩; replace HO_6 := Aside0.mk (Kd.R_mono (ok' := fun k_ => some k_ ≠ (.slice Ao34 t1056.length co34 : Value).ownBlock ∧ some k_ ≠ (v1060 : Value).ownBlock ∧ some k_ ≠ (.slice Ao31 t1052.length co31 : Value).ownBlock ∧ some k_ ≠ (.slice Ao54 t1065.length co54 : Value).ownBlock ∧ some k_ ≠ (.slice Ao57 t1069.length co57 : Value).ownBlock) (Kd.R_keptB (HO_6.out) hkp (fun k_ hk_ hs_ => (hk_.1.1.2.2) hs_)) (fun k_ hk_ => ⟨hk_.1.1.1.1, hk_.1.1.1.2.1, hk_.1.1.1.2.2, hk_.1.1.2, hk_.1.2⟩)); replace HO_9 := Aside0.mk (Kd.R_mono (ok' := fun k_ => some k_ ≠ (v1048 : Value).ownBlock ∧ some k_ ≠ (v1060 : Value).ownBlock ∧ some k_ ≠ (.slice Ao31 t1052.length co31 : Value).ownBlock ∧ some k_ ≠ (.slice Ao54 t1065.length co54 : Value).ownBlock ∧ some k_ ≠ (.slice Ao57 t1069.length co57 : Value).ownBlock) (Kd.R_keptB (HO_9.out) hkp (fun k_ hk_ hs_ => (hk_.1.1.2.2) hs_)) (fun k_ hk_ => ⟨hk_.1.1.1.1, hk_.1.1.1.2.1, hk_.1.1.1.2.2, hk_.1.1.2, hk_.1.2⟩)); replace HO_10 := Aside0.mk (Kd.R_mono (ok' := fun k_ => some k_ ≠ (v1048 : Value).ownBlock ∧ some k_ ≠ (.slice Ao34 t1056.length co34 : Value).ownBlock ∧ some k_ ≠ (.slice Ao31 t1052.length co31 : Value).ownBlock ∧ some k_ ≠ (.slice Ao54 t1065.length co54 : Value).ownBlock ∧ some k_ ≠ (.slice Ao57 t1069.length co57 : Value).ownBlock) (Kd.R_keptB (HO_10.out) hkp (fun k_ hk_ hs_ => (hk_.1.1.2.2) hs_)) (fun k_ hk_ => ⟨hk_.1.1.1.1, hk_.1.1.1.2.1, hk_.1.1.1.2.2, hk_.1.1.2, hk_.1.2⟩)); replace BK1038 := Aside0.mk (blk_kept (blkQ BK1038) hkp (fun hs_ => (fun e_ => (Kd.R_ne HO_1056001.out BK1038.out (by decide)) e_) hs_)); replace BK1055 := Aside0.mk (blk_kept (blkQ BK1055) hkp (fun hs_ => (fun e_ => (Kd.R_ne HO_1056001.out BK1055.out (by decide)) e_) hs_)); replace HO_1056001 := Aside0.mk (Kd.R_reok rfl hy0 (fun k_ e_ => HO_1056001.out.1 k_ e_)); replace HO1067 := Aside0.mk (Kd.R_mono (ok' := fun k_ => some k_ ≠ (v1048 : Value).ownBlock ∧ some k_ ≠ (.slice Ao34 t1056.length co34 : Value).ownBlock ∧ some k_ ≠ (v1060 : Value).ownBlock ∧ some k_ ≠ (.slice Ao31 t1052.length co31 : Value).ownBlock ∧ some k_ ≠ (.slice Ao57 t1069.length co57 : Value).ownBlock) (Kd.R_keptB (HO1067.out) hkp (fun k_ hk_ hs_ => (hk_.1.2) hs_)) (fun k_ hk_ => ⟨hk_.1.1.1.1.1.2, hk_.1.1.1.1.2, hk_.1.1.1.2, hk_.1.1.2, hk_.1.2⟩)); replace HO1071 := Aside0.mk (Kd.R_mono (ok' := fun k_ => some k_ ≠ (v1048 : Value).ownBlock ∧ some k_ ≠ (.slice Ao34 t1056.length co34 : Value).ownBlock ∧ some k_ ≠ (v1060 : Value).ownBlock ∧ some k_ ≠ (.slice Ao31 t1052.length co31 : Value).ownBlock ∧ some k_ ≠ (.slice Ao54 t1065.length co54 : Value).ownBlock) (Kd.R_keptB (HO1071.out) hkp (fun k_ hk_ hs_ => (hk_.1.2) hs_)) (fun k_ hk_ => ⟨hk_.1.1.1.1.1.2, hk_.1.1.1.1.2, hk_.1.1.1.2, hk_.1.1.2, hk_.1.2⟩)); replace HB := Aside0.mk (hb); (try clear hb); (try clear hkp); (try clear hy0)) | ((with_reducible refine gate_callee (f := 25) rfl ?_); refine goesL_ (some 67) rfl rfl Tryd.func25 (by kernel_rfl) rfl #[.slice Ao34 t1056.length co34, .int .i64 t1073] rfl lz ?_; (with_reducible refine (laws_markInt64S.calls kj15 (fun k_ => some k_ = (.slice Ao34 t1056.length co34 : Value).ownBlock) (.slice Ao34 t1056.length co34) t1056 t1073 t1075 t1076 w _ ?side1 ?side2 A50.out).mono ?_); (case side1 => repeat (first | (with_reducible first | exact HB.out | apply below_alloc | apply pw_below_drewN | apply below_drew1 | refine below_set ?_ GE1038.out | refine below_set ?_ GE1055.out) | exact HB.out)); (case side2 => exact Kd.R_tight rfl HO_9.out); rintro e w61 ⟨rfl, hy0, hb, hkp⟩; refine ⟨_, rfl, ?_⟩; replace HO_6 := Aside0.mk (Kd.R_mono (ok' := fun k_ => some k_ ≠ (.slice Ao34 t1056.length co34 : Value).ownBlock ∧ some k_ ≠ (v1060 : Value).ownBlock ∧ some k_ ≠ (.slice Ao31 t1052.length co31 : Value).ownBlock ∧ some k_ ≠ (.slice Ao54 t1065.length co54 : Value).ownBlock ∧ some k_ ≠ (.slice Ao57 t1069.length co57 : Value).ownBlock) (Kd.R_keptB (HO_6.out) hkp (fun k_ hk_ hs_ => (hk_.1) hs_)) (fun k_ hk_ => ⟨hk_.1.1, hk_.1.2.1, hk_.1.2.2.1, hk_.1.2.2.2.1, hk_.1.2.2.2.2⟩)); replace HO_10 := Aside0.mk (Kd.R_mono (ok' := fun k_ => some k_ ≠ (v1048 : Value).ownBlock ∧ some k_ ≠ (.slice Ao34 t1056.length co34 : Value).ownBlock ∧ some k_ ≠ (.slice Ao31 t1052.length co31 : Value).ownBlock ∧ some k_ ≠ (.slice Ao54 t1065.length co54 : Value).ownBlock ∧ some k_ ≠ (.slice Ao57 t1069.length co57 : Value).ownBlock) (Kd.R_keptB (HO_10.out) hkp (fun k_ hk_ hs_ => (hk_.2.1) hs_)) (fun k_ hk_ => ⟨hk_.1.1, hk_.1.2.1, hk_.1.2.2.1, hk_.1.2.2.2.1, hk_.1.2.2.2.2⟩)); replace HO_1056001 := Aside0.mk (Kd.R_mono (ok' := fun k_ => some k_ ≠ (v1048 : Value).ownBlock ∧ some k_ ≠ (.slice Ao34 t1056.length co34 : Value).ownBlock ∧ some k_ ≠ (v1060 : Value).ownBlock ∧ some k_ ≠ (.slice Ao54 t1065.length co54 : Value).ownBlock ∧ some k_ ≠ (.slice Ao57 t1069.length co57 : Value).ownBlock) (Kd.R_keptB (HO_1056001.out) hkp (fun k_ hk_ hs_ => (hk_.1.1.2.1) hs_)) (fun k_ hk_ => ⟨hk_.1.1.1.1, hk_.1.1.1.2.1, hk_.1.1.1.2.2, hk_.1.1.2, hk_.1.2⟩)); replace BK1038 := Aside0.mk (blk_kept (blkQ BK1038) hkp (fun hs_ => (fun e_ => (Kd.R_ne HO_9.out BK1038.out (by decide)) e_) hs_)); replace BK1055 := Aside0.mk (blk_kept (blkQ BK1055) hkp (fun hs_ => (fun e_ => (Kd.R_ne HO_9.out BK1055.out (by decide)) e_) hs_)); replace HO_9 := Aside0.mk (Kd.R_reok rfl hy0 (fun k_ e_ => HO_9.out.1 k_ e_)); replace HO1067 := Aside0.mk (Kd.R_mono (ok' := fun k_ => some k_ ≠ (v1048 : Value).ownBlock ∧ some k_ ≠ (.slice Ao34 t1056.length co34 : Value).ownBlock ∧ some k_ ≠ (v1060 : Value).ownBlock ∧ some k_ ≠ (.slice Ao31 t1052.length co31 : Value).ownBlock ∧ some k_ ≠ (.slice Ao57 t1069.length co57 : Value).ownBlock) (Kd.R_keptB (HO1067.out) hkp (fun k_ hk_ hs_ => (hk_.2.1) hs_)) (fun k_ hk_ => ⟨hk_.1.1, hk_.1.2.1, hk_.1.2.2.1, hk_.1.2.2.2.1, hk_.1.2.2.2.2⟩)); replace HO1071 := Aside0.mk (Kd.R_mono (ok' := fun k_ => some k_ ≠ (v1048 : Value).ownBlock ∧ some k_ ≠ (.slice Ao34 t1056.length co34 : Value).ownBlock ∧ some k_ ≠ (v1060 : Value).ownBlock ∧ some k_ ≠ (.slice Ao31 t1052.length co31 : Value).ownBlock ∧ some k_ ≠ (.slice Ao54 t1065.length co54 : Value).ownBlock) (Kd.R_keptB (HO1071.out) hkp (fun k_ hk_ hs_ => (hk_.2.1) hs_)) (fun k_ hk_ => ⟨hk_.1.1, hk_.1.2.1, hk_.1.2.2.1, hk_.1.2.2.2.1, hk_.1.2.2.2.2⟩)); replace HB := Aside0.mk (hb); (try clear hb); (try clear hkp); (try clear hy0)))
        (try simp only [Act.put, List.setIfInBounds_toArray, List.set_cons_zero, List.set_cons_succ])
        go_cut [80] (fun v80 wc => ∃ (kq : Nat) (x80_50 : Bool), v80 = .bool x80_50 ∧ Aside0 (laws_FnExactWordOfFoata.j1 kq l1 t1047 t1050 t1059 x80_50 a0_0 l0_1 = some r) ∧ Aside0 (kq ≤ kj15) ∧ Aside0 (Kd.R (Kd.int .i64) 2 wc w.heap.size (fun k_ => some k_ ≠ (v1060 : Value).ownBlock ∧ some k_ ≠ ((.slice Ao31 t1052.length co31) : Value).ownBlock) v1048 t1047) ∧ Aside0 (Kd.R (Kd.int .i64) 2 wc w.heap.size (fun k_ => some k_ ≠ (v1048 : Value).ownBlock ∧ some k_ ≠ ((.slice Ao31 t1052.length co31) : Value).ownBlock) v1060 t1059) ∧ Aside0 (Kd.R (Kd.int .i64) 2 wc w.heap.size (fun k_ => some k_ ≠ (v1048 : Value).ownBlock ∧ some k_ ≠ (v1060 : Value).ownBlock) (.slice Ao31 t1052.length co31) t1074) ∧ Aside0 (wc.heap[gb1038]? = some (.cells #[.int .i64 a0_0, (.slice A0_1 l0_1.length c0_1)] 24 (0, 0))) ∧ Aside0 (wc.heap[gb1055]? = some (.cells #[.int .i64 t1051, (.slice Ao31 t1052.length co31)] 28 (0, 0))) ∧ Aside0 (Below w.heap.size w wc))
        case first =>
         have H := HC51.out; clear HC51
         by_cases c62 : t1075 < 0
         ·rw [if_pos c62] at H
          have c62b0 : decide (t1075 < 0) = true := decide_eq_true c62
          clear c62
          (first | rw [c62b0] | (simp only [i64_w, i32_w]; rw [c62b0]) | skip)
          have H' := Aside0.mk H
          clear H
          go_wp2
          go_meet
          case rel => exact ⟨_, (true), sz, H', ⟨by have := HJ15.out; first | omega | exact Nat.le_refl _⟩, ⟨by (with_reducible repeat (first | apply Kd.R_alloc | apply Kd.R_drewN | apply Kd.R_drew)); exact Kd.R_mono HO_6.out (fun _ hk => ⟨hk.2.1, hk.2.2.1⟩)⟩, ⟨by (with_reducible repeat (first | apply Kd.R_alloc | apply Kd.R_drewN | apply Kd.R_drew)); exact Kd.R_mono HO_10.out (fun _ hk => ⟨hk.1, hk.2.2.1⟩)⟩, ⟨by (with_reducible repeat (first | apply Kd.R_alloc | apply Kd.R_drewN | apply Kd.R_drew)); exact Kd.R_mono HO_1056001.out (fun _ hk => ⟨hk.1, hk.2.2.1⟩)⟩, ⟨blkQ BK1038⟩, ⟨blkQ BK1055⟩, ⟨beQ HB⟩⟩
         ·rw [if_neg c62] at H
          have c62b0 : decide (t1075 < 0) = false := decide_eq_false c62
          clear c62
          (first | rw [c62b0] | (simp only [i64_w, i32_w]; rw [c62b0]) | skip)
          replace H := Option.bind_eq_some_iff.mp H; obtain ⟨t1077, A630, H⟩ := H
          replace H : (if t1077 = true then (laws_FnExactWordOfFoata.j1 kj15 l1 t1047 t1050 t1059 (t1062 != t1050) a0_0 l0_1) else (laws_FnExactWordOfFoata.j1 kj15 l1 t1047 t1050 t1059 true a0_0 l0_1)) = some r := H
          have A63 := Aside0.mk A630; clear A630
          by_cases c64 : t1077 = true
          ·subst c64
           have H1 : (laws_FnExactWordOfFoata.j1 kj15 l1 t1047 t1050 t1059 (t1062 != t1050) a0_0 l0_1) = some r := by rw [if_pos rfl] at H; exact H
           clear H; have H := H1; clear H1
           have H' := Aside0.mk H
           clear H; obtain ⟨Ao65, co65, eo65⟩ := Kd.R_slice HO_10.out; subst eo65; obtain ⟨Ao66, co66, eo66⟩ := Kd.R_slice HO_6.out; subst eo66
           go_wp2_with (first | (go_at_call 21; (with_reducible refine (laws_eqInt64S.calls kj15 _ _ t1059 _ _ t1047 true _ ?side1 ?side2 ?side3 ?side4 A63.out).mono ?_); (case side1 => have q_ := Aside0.mk (Kd.R_reads' HO_10.out).2.2; exact cQ q_); (case side2 => exact (Kd.R_reads' HO_10.out).2.1); (case side3 => have q_ := Aside0.mk (Kd.R_reads' HO_6.out).2.2; exact cQ q_); (case side4 => exact (Kd.R_reads' HO_6.out).2.1); rintro e w' ⟨rfl, ⟨nd, rfl⟩⟩))
           go_meet
           case rel => exact ⟨_, ((t1062 != t1050)), sz, H', ⟨by have := HJ15.out; first | omega | exact Nat.le_refl _⟩, ⟨by (with_reducible repeat (first | apply Kd.R_alloc | apply Kd.R_drewN | apply Kd.R_drew)); exact Kd.R_mono HO_6.out (fun _ hk => ⟨hk.2.1, hk.2.2.1⟩)⟩, ⟨by (with_reducible repeat (first | apply Kd.R_alloc | apply Kd.R_drewN | apply Kd.R_drew)); exact Kd.R_mono HO_10.out (fun _ hk => ⟨hk.1, hk.2.2.1⟩)⟩, ⟨by (with_reducible repeat (first | apply Kd.R_alloc | apply Kd.R_drewN | apply Kd.R_drew)); exact Kd.R_mono HO_1056001.out (fun _ hk => ⟨hk.1, hk.2.2.1⟩)⟩, ⟨blkQ BK1038⟩, ⟨blkQ BK1055⟩, ⟨beQ HB⟩⟩
          ·replace c64 := Bool.eq_false_iff.mpr c64
           subst c64
           have H1 : (laws_FnExactWordOfFoata.j1 kj15 l1 t1047 t1050 t1059 true a0_0 l0_1) = some r := by rw [if_neg (show ¬ (false = true) by decide)] at H; exact H
           clear H; have H := H1; clear H1
           have H' := Aside0.mk H
           clear H; obtain ⟨Ao67, co67, eo67⟩ := Kd.R_slice HO_10.out; subst eo67; obtain ⟨Ao68, co68, eo68⟩ := Kd.R_slice HO_6.out; subst eo68
           go_wp2_with (first | (go_at_call 21; (with_reducible refine (laws_eqInt64S.calls kj15 _ _ t1059 _ _ t1047 false _ ?side1 ?side2 ?side3 ?side4 A63.out).mono ?_); (case side1 => have q_ := Aside0.mk (Kd.R_reads' HO_10.out).2.2; exact cQ q_); (case side2 => exact (Kd.R_reads' HO_10.out).2.1); (case side3 => have q_ := Aside0.mk (Kd.R_reads' HO_6.out).2.2; exact cQ q_); (case side4 => exact (Kd.R_reads' HO_6.out).2.1); rintro e w' ⟨rfl, ⟨nd, rfl⟩⟩))
           go_meet
           case rel => exact ⟨_, (true), sz, H', ⟨by have := HJ15.out; first | omega | exact Nat.le_refl _⟩, ⟨by (with_reducible repeat (first | apply Kd.R_alloc | apply Kd.R_drewN | apply Kd.R_drew)); exact Kd.R_mono HO_6.out (fun _ hk => ⟨hk.2.1, hk.2.2.1⟩)⟩, ⟨by (with_reducible repeat (first | apply Kd.R_alloc | apply Kd.R_drewN | apply Kd.R_drew)); exact Kd.R_mono HO_10.out (fun _ hk => ⟨hk.1, hk.2.2.1⟩)⟩, ⟨by (with_reducible repeat (first | apply Kd.R_alloc | apply Kd.R_drewN | apply Kd.R_drew)); exact Kd.R_mono HO_1056001.out (fun _ hk => ⟨hk.1, hk.2.2.1⟩)⟩, ⟨blkQ BK1038⟩, ⟨blkQ BK1055⟩, ⟨beQ HB⟩⟩
        case rest =>
         clear HC51
         try clear c1
         try clear c2
         try clear p2
         try clear c3
         try clear c3b0
         try clear c3b1
         try clear c4
         try clear c5
         try clear c6
         try clear c6b0
         try clear c13
         try clear c15
         try clear c17
         try clear c18
         try clear c20
         try clear c21
         try clear c24
         try clear c25
         try clear c29
         try clear c37
         try clear c42
         try clear c45
         try clear c46
         try clear c47
         try clear c48
         try clear c58
         try clear c62
         try clear c62b0
         try clear c64
         try clear hcz18_0
         try clear hcz18_1
         try clear hcz20_0
         try clear hcz20_1
         try clear hcz26_0
         try clear hcz26_1
         try clear hcz30_0
         try clear hcz30_1
         try clear hcz33_0
         try clear hcz33_1
         try clear hcz59_0
         try clear hcz59_1
         try clear hcz8_0
         try clear hcz8_1
         try clear hfz18_0
         try clear hfz18_1
         try clear hfz20_0
         try clear hfz20_1
         try clear hfz26_0
         try clear hfz26_1
         try clear hfz30_0
         try clear hfz30_1
         try clear hfz33_0
         try clear hfz33_1
         try clear hfz59_0
         try clear hfz59_1
         try clear hfz8_0
         try clear hfz8_1
         try clear p2
         obtain ⟨kq, x80_50, rfl, HA, HJ50, HO_6, HO_10, HO_1056001, BK1038, BK1055, HB⟩ := hcut; have hl1056001_50 := (Kd.R_reads' HO_1056001.out).1; rw [hl1056001_50] at HO_1056001
         (try simp only [hl1056001_50])
         (try simp only [hl1056001_50] at BK1038)
         (try simp only [hl1056001_50] at BK1055)
         (try simp only [hl1056001_50] at HO_6)
         (try simp only [hl1056001_50] at HO_10)
         cases kq with
         | zero => exact absurd HA.out (by simp [laws_FnExactWordOfFoata.j1])
         | succ kj50 =>
          have H := HA.out; clear HA
          simp only [laws_FnExactWordOfFoata.j1] at H
          by_cases c69 : x80_50 = true
          ·subst c69
           have H1 : (some false) = some r := by rw [if_pos rfl] at H; exact H
           clear H; have H := H1; clear H1
           obtain rfl := Option.some.inj H
           go_wp2
           go_ret
           exact ⟨rz, beQ HB⟩
          ·replace c69 := Bool.eq_false_iff.mpr c69
           subst c69
           have H1 : ((laws_markInt64S.f kj50 t1059 1).bind fun bt1078 => ((laws_heldInt64S.f kj50 bt1078.2 1).bind fun t1080 => (if t1080 < 0 then (some false) else (if t1080 = bt1078.1 then ((laws_toAlphabet.f kj50 a0_0 l0_1).bind fun bt1081 => ((laws_toInt64S.f kj50 l1).bind fun t1085 => ((impl_WordOfFoata.f kj50 bt1081.1 bt1081.2 t1085).bind fun bt1088 => ((laws_eqInt64S.f kj50 bt1088.1 t1047).bind fun t1092 => (if t1092 = true then (laws_FnExactWordOfFoata.j2 kj50 bt1078.2 bt1078.1 (bt1088.2 != t1050)) else (laws_FnExactWordOfFoata.j2 kj50 bt1078.2 bt1078.1 true)))))) else (some false))))) = some r := by rw [if_neg (show ¬ (false = true) by decide)] at H; exact H
           clear H; have H := H1; clear H1; replace H := Option.bind_eq_some_iff.mp H
           obtain ⟨⟨t1078, t1079⟩, A700, H⟩ := H
           replace H : ((laws_heldInt64S.f kj50 t1079 1).bind fun t1080 => (if t1080 < 0 then (some false) else (if t1080 = t1078 then ((laws_toAlphabet.f kj50 a0_0 l0_1).bind fun bt1081 => ((laws_toInt64S.f kj50 l1).bind fun t1085 => ((impl_WordOfFoata.f kj50 bt1081.1 bt1081.2 t1085).bind fun bt1088 => ((laws_eqInt64S.f kj50 bt1088.1 t1047).bind fun t1092 => (if t1092 = true then (laws_FnExactWordOfFoata.j2 kj50 t1079 t1078 (bt1088.2 != t1050)) else (laws_FnExactWordOfFoata.j2 kj50 t1079 t1078 true)))))) else (some false)))) = some r := H
           have A70 := Aside0.mk A700; clear A700; replace H := Option.bind_eq_some_iff.mp H; obtain ⟨t1080, A710, H⟩ := H
           replace H : (if t1080 < 0 then (some false) else (if t1080 = t1078 then ((laws_toAlphabet.f kj50 a0_0 l0_1).bind fun bt1081 => ((laws_toInt64S.f kj50 l1).bind fun t1085 => ((impl_WordOfFoata.f kj50 bt1081.1 bt1081.2 t1085).bind fun bt1088 => ((laws_eqInt64S.f kj50 bt1088.1 t1047).bind fun t1092 => (if t1092 = true then (laws_FnExactWordOfFoata.j2 kj50 t1079 t1078 (bt1088.2 != t1050)) else (laws_FnExactWordOfFoata.j2 kj50 t1079 t1078 true)))))) else (some false))) = some r := H
           have A71 := Aside0.mk A710; clear A710
           by_cases c72 : t1080 < 0
           ·rw [if_pos c72] at H
            have c72b0 : decide (t1080 < 0) = true := decide_eq_true c72
            clear c72
            obtain rfl := Option.some.inj H
            obtain ⟨Ao73, co73, eo73⟩ := Kd.R_slice HO_10.out; subst eo73
            go_wp2_with (first | ((with_reducible refine gate_callee (f := 25) rfl ?_); refine goesL_ (some 83) rfl rfl Tryd.func25 (by kernel_rfl) rfl #[.slice Ao73 t1059.length co73, .int .i64 1] rfl lz ?_; (with_reducible refine (laws_markInt64S.calls kj50 (fun k_ => some k_ = (.slice Ao73 t1059.length co73 : Value).ownBlock) (.slice Ao73 t1059.length co73) t1059 1 t1078 t1079 w _ ?side1 ?side2 A70.out).mono ?_); (case side1 => repeat (first | (with_reducible first | exact HB.out | apply below_alloc | apply pw_below_drewN | apply below_drew1 | refine below_set ?_ GE1038.out | refine below_set ?_ GE1055.out) | exact HB.out)); (case side2 => exact Kd.R_tight rfl HO_10.out); rintro e w74 ⟨rfl, hy0, hb, hkp⟩; refine ⟨_, rfl, ?_⟩; replace HO_6 := Aside0.mk (Kd.R_mono (ok' := fun k_ => some k_ ≠ (.slice Ao73 t1059.length co73 : Value).ownBlock ∧ some k_ ≠ (.slice Ao31 t1074.length co31 : Value).ownBlock) (Kd.R_keptB (HO_6.out) hkp (fun k_ hk_ hs_ => (hk_.1) hs_)) (fun k_ hk_ => ⟨hk_.1.1, hk_.1.2⟩)); replace HO_1056001 := Aside0.mk (Kd.R_mono (ok' := fun k_ => some k_ ≠ (v1048 : Value).ownBlock ∧ some k_ ≠ (.slice Ao73 t1059.length co73 : Value).ownBlock) (Kd.R_keptB (HO_1056001.out) hkp (fun k_ hk_ hs_ => (hk_.2) hs_)) (fun k_ hk_ => ⟨hk_.1.1, hk_.1.2⟩)); replace BK1038 := Aside0.mk (blk_kept (blkQ BK1038) hkp (fun hs_ => (fun e_ => (Kd.R_ne HO_10.out BK1038.out (by decide)) e_) hs_)); replace BK1055 := Aside0.mk (blk_kept (blkQ BK1055) hkp (fun hs_ => (fun e_ => (Kd.R_ne HO_10.out BK1055.out (by decide)) e_) hs_)); replace HO_10 := Aside0.mk (Kd.R_reok rfl hy0 (fun k_ e_ => HO_10.out.1 k_ e_)); replace HB := Aside0.mk (hb); (try clear hb); (try clear hkp); (try clear hy0)) | ((with_reducible refine gate_callee (f := 26) rfl ?_); refine goesL_ (some 86) rfl rfl Tryd.func26 (by kernel_rfl) rfl #[.slice Ao73 t1079.length co73, .int .i64 1] rfl (by (try simp only [List.map_toArray, List.map_cons, List.map_nil]); first | done | (rw [show t1079.length = t1059.length from (Kd.R_reads' HO_10.out).1.symm] <;> rfl) | rfl | (simp only [List.length_drop, List.length_take]; rfl)) ?_; (with_reducible refine (laws_heldInt64S.calls kj50 _ _ t1079 1 t1080 _ ?side1 ?side2 A71.out).mono ?_); (case side1 => have q_ := Aside0.mk (Kd.R_reads' HO_10.out).2.2; exact cQ q_); (case side2 => rw [show t1079.length = t1059.length from (Kd.R_reads' HO_10.out).1.symm]; exact (Kd.R_reads' HO_10.out).2.1); rintro e w' ⟨rfl, ⟨nd, rfl⟩⟩; refine ⟨_, rfl, ?_⟩))
            go_ret
            exact ⟨rz, beQ HB⟩
           ·rw [if_neg c72] at H
            have c72b0 : decide (t1080 < 0) = false := decide_eq_false c72
            clear c72
            by_cases c75 : t1080 = t1078
            ·rw [if_pos c75] at H
             have c75b0 : (t1080 == t1078) = true := beq_iff_eq.mpr c75
             have c75b1 : (t1080 != t1078) = false := bne_eq_false_iff_eq.mpr c75
             clear c75; replace H := Option.bind_eq_some_iff.mp H
             obtain ⟨⟨t1081, t1082⟩, A760, H⟩ := H
             replace H : ((laws_toInt64S.f kj50 l1).bind fun t1085 => ((impl_WordOfFoata.f kj50 t1081 t1082 t1085).bind fun bt1088 => ((laws_eqInt64S.f kj50 bt1088.1 t1047).bind fun t1092 => (if t1092 = true then (laws_FnExactWordOfFoata.j2 kj50 t1079 t1078 (bt1088.2 != t1050)) else (laws_FnExactWordOfFoata.j2 kj50 t1079 t1078 true))))) = some r := H
             have A76 := Aside0.mk A760; clear A760; replace H := Option.bind_eq_some_iff.mp H; obtain ⟨t1085, A770, H⟩ := H
             replace H : ((impl_WordOfFoata.f kj50 t1081 t1082 t1085).bind fun bt1088 => ((laws_eqInt64S.f kj50 bt1088.1 t1047).bind fun t1092 => (if t1092 = true then (laws_FnExactWordOfFoata.j2 kj50 t1079 t1078 (bt1088.2 != t1050)) else (laws_FnExactWordOfFoata.j2 kj50 t1079 t1078 true)))) = some r := H
             have A77 := Aside0.mk A770; clear A770; replace H := Option.bind_eq_some_iff.mp H
             obtain ⟨⟨t1088, t1091⟩, A780, H⟩ := H
             replace H : ((laws_eqInt64S.f kj50 t1088 t1047).bind fun t1092 => (if t1092 = true then (laws_FnExactWordOfFoata.j2 kj50 t1079 t1078 (t1091 != t1050)) else (laws_FnExactWordOfFoata.j2 kj50 t1079 t1078 true))) = some r := H
             have A78 := Aside0.mk A780; clear A780; have HC79 := Aside0.mk H; clear H; obtain ⟨Ao80, co80, eo80⟩ := Kd.R_slice HO_10.out; subst eo80
             go_upto_region 31 with (first | ((with_reducible refine gate_callee (f := 25) rfl ?_); refine goesL_ (some 83) rfl rfl Tryd.func25 (by kernel_rfl) rfl #[.slice Ao80 t1059.length co80, .int .i64 1] rfl lz ?_; (with_reducible refine (laws_markInt64S.calls kj50 (fun k_ => some k_ = (.slice Ao80 t1059.length co80 : Value).ownBlock) (.slice Ao80 t1059.length co80) t1059 1 t1078 t1079 w _ ?side1 ?side2 A70.out).mono ?_); (case side1 => repeat (first | (with_reducible first | exact HB.out | apply below_alloc | apply pw_below_drewN | apply below_drew1 | refine below_set ?_ GE1038.out | refine below_set ?_ GE1055.out) | exact HB.out)); (case side2 => exact Kd.R_tight rfl HO_10.out); rintro e w81 ⟨rfl, hy0, hb, hkp⟩; refine ⟨_, rfl, ?_⟩; replace HO_6 := Aside0.mk (Kd.R_mono (ok' := fun k_ => some k_ ≠ (.slice Ao80 t1059.length co80 : Value).ownBlock ∧ some k_ ≠ (.slice Ao31 t1074.length co31 : Value).ownBlock) (Kd.R_keptB (HO_6.out) hkp (fun k_ hk_ hs_ => (hk_.1) hs_)) (fun k_ hk_ => ⟨hk_.1.1, hk_.1.2⟩)); replace HO_1056001 := Aside0.mk (Kd.R_mono (ok' := fun k_ => some k_ ≠ (v1048 : Value).ownBlock ∧ some k_ ≠ (.slice Ao80 t1059.length co80 : Value).ownBlock) (Kd.R_keptB (HO_1056001.out) hkp (fun k_ hk_ hs_ => (hk_.2) hs_)) (fun k_ hk_ => ⟨hk_.1.1, hk_.1.2⟩)); replace BK1038 := Aside0.mk (blk_kept (blkQ BK1038) hkp (fun hs_ => (fun e_ => (Kd.R_ne HO_10.out BK1038.out (by decide)) e_) hs_)); replace BK1055 := Aside0.mk (blk_kept (blkQ BK1055) hkp (fun hs_ => (fun e_ => (Kd.R_ne HO_10.out BK1055.out (by decide)) e_) hs_)); replace HO_10 := Aside0.mk (Kd.R_reok rfl hy0 (fun k_ e_ => HO_10.out.1 k_ e_)); replace HB := Aside0.mk (hb); (try clear hb); (try clear hkp); (try clear hy0)) | ((with_reducible refine gate_callee (f := 26) rfl ?_); refine goesL_ (some 86) rfl rfl Tryd.func26 (by kernel_rfl) rfl #[.slice Ao80 t1079.length co80, .int .i64 1] rfl (by (try simp only [List.map_toArray, List.map_cons, List.map_nil]); first | done | (rw [show t1079.length = t1059.length from (Kd.R_reads' HO_10.out).1.symm] <;> rfl) | rfl | (simp only [List.length_drop, List.length_take]; rfl)) ?_; (with_reducible refine (laws_heldInt64S.calls kj50 _ _ t1079 1 t1080 _ ?side1 ?side2 A71.out).mono ?_); (case side1 => have q_ := Aside0.mk (Kd.R_reads' HO_10.out).2.2; exact cQ q_); (case side2 => rw [show t1079.length = t1059.length from (Kd.R_reads' HO_10.out).1.symm]; exact (Kd.R_reads' HO_10.out).2.1); rintro e w' ⟨rfl, ⟨nd, rfl⟩⟩; refine ⟨_, rfl, ?_⟩; have hnb82 := NB1038_1055.out; have hnc82 := NB1055_1038.out; have hcz83_0 : w81.cell? ⟨gb1038, 0, none⟩ = some (.int .i64 a0_0) := bc BK1038 0; have hcz83_1 : w81.cell? ⟨gb1038, 1, none⟩ = some (.slice A0_1 l0_1.length c0_1) := bc BK1038 1; have hfz83_0 := blk_frozen BK1038.out 0; have hfz83_1 := blk_frozen BK1038.out 1) | ((with_reducible refine gate_callee (f := 17) rfl ?_); refine goesL_ (some 94) rfl rfl Tryd.func17 (by kernel_rfl) rfl #[.agg #[.int .i64 a0_0, .slice A0_1 l0_1.length c0_1]] rfl lz ?_; (with_reducible refine (laws_toAlphabet.calls kj50 a0_0 _ _ l0_1 t1081 t1082 _ ?side1 ?side2 A76.out).mono ?_); (case side1 => have q_ := Aside0.mk (Kd.C_below HR0_1.out (beQ HB)); exact cQ q_); (case side2 => exact HC0_1.out); rintro e w84 ⟨v1083, rfl, ho0, hb⟩; refine ⟨_, rfl, ?_⟩; have HO1084 := Aside0.mk (Kd.R_lower (Kd.R_new' (Kd.R_new' (Kd.R_new' ho0 (Kd.R_lt (kdQ HO_6))) (Kd.R_lt (kdQ HO_10))) (Kd.R_lt (kdQ HO_1056001))) (below_size (beQ HB))); replace HO_6 := Aside0.mk (Kd.R_elder' (kdQ HO_6) (Kd.R_base ho0) hb); replace HO_10 := Aside0.mk (Kd.R_elder' (kdQ HO_10) (Kd.R_base ho0) hb); replace HO_1056001 := Aside0.mk (Kd.R_elder' (kdQ HO_1056001) (Kd.R_base ho0) hb); replace BK1038 := bb BK1038 hb; replace BK1055 := bb BK1055 hb; replace HB := Aside0.mk (below_step (beQ HB) hb); (try clear hb); (try clear hb2); (try clear hk); (try clear hi); (try clear ho0)) | ((with_reducible refine gate_callee (f := 18) rfl ?_); refine goesL_ (some 96) rfl rfl Tryd.func18 (by kernel_rfl) rfl #[.slice A1 l1.length c1] rfl lz ?_; (with_reducible refine (laws_toInt64S.calls kj50 _ _ l1 t1085 _ ?side1 ?side2 A77.out).mono ?_); (case side1 => have q_ := Aside0.mk (Kd.C_below HR1.out HB.out); exact cQ q_); (case side2 => exact HC1.out); rintro e w85 ⟨v1086, rfl, ho0, hb⟩; refine ⟨_, rfl, ?_⟩; have HO1087 := Aside0.mk (Kd.R_lower (Kd.R_new' (Kd.R_new' (Kd.R_new' (Kd.R_new' ho0 (Kd.R_lt (kdQ HO_6))) (Kd.R_lt (kdQ HO_10))) (Kd.R_lt (kdQ HO_1056001))) (Kd.R_lt (kdQ HO1084))) (below_size (beQ HB))); replace HO_6 := Aside0.mk (Kd.R_elder' (kdQ HO_6) (Kd.R_base ho0) hb); replace HO_10 := Aside0.mk (Kd.R_elder' (kdQ HO_10) (Kd.R_base ho0) hb); replace HO_1056001 := Aside0.mk (Kd.R_elder' (kdQ HO_1056001) (Kd.R_base ho0) hb); replace HO1084 := Aside0.mk (Kd.R_elder' (kdQ HO1084) (Kd.R_base ho0) hb); replace BK1038 := bb BK1038 hb; replace BK1055 := bb BK1055 hb; replace HB := Aside0.mk (below_step (beQ HB) hb); (try clear hb); (try clear hb2); (try clear hk); (try clear hi); (try clear ho0); obtain ⟨Ao86, co86, eo86⟩ := Kd.R_slice HO1084.out; subst eo86; obtain ⟨Ao87, co87, eo87⟩ := Kd.R_slice HO1087.out; subst eo87) | ((with_reducible refine gate_callee (f := 47) rfl ?_); refine goesL_ (some 97) rfl rfl Tryd.func47 (by kernel_rfl) rfl #[.agg #[.int .i64 t1081, .slice Ao86 t1082.length co86], .slice Ao87 t1085.length co87] rfl lz ?_; (with_reducible refine (impl_WordOfFoata.calls kj50 t1081 _ _ t1082 _ _ t1085 t1088 t1091 _ ?side1 ?side2 ?side3 ?side4 ?side5 A78.out).mono ?_); (case side1 => have q_ := Aside0.mk (Kd.R_reads' HO1084.out).2.2; exact cQ q_); (case side2 => exact (Kd.R_reads' HO1084.out).2.1); (case side3 => have q_ := Aside0.mk (Kd.R_reads' HO1087.out).2.2; exact cQ q_); (case side4 => exact (Kd.R_reads' HO1087.out).2.1); (case side5 => exact TabW.below HT.out (beQ HB)); rintro e w88 ⟨v1089, rfl, ho0, hb⟩; refine ⟨_, rfl, ?_⟩; have HO1090 := Aside0.mk (Kd.R_lower (Kd.R_new' (Kd.R_new' (Kd.R_new' (Kd.R_new' (Kd.R_new' ho0 (Kd.R_lt (kdQ HO_6))) (Kd.R_lt (kdQ HO_10))) (Kd.R_lt (kdQ HO_1056001))) (Kd.R_lt (kdQ HO1084))) (Kd.R_lt (kdQ HO1087))) (below_size (beQ HB))); replace HO_6 := Aside0.mk (Kd.R_elder' (kdQ HO_6) (Kd.R_base ho0) hb); replace HO_10 := Aside0.mk (Kd.R_elder' (kdQ HO_10) (Kd.R_base ho0) hb); replace HO_1056001 := Aside0.mk (Kd.R_elder' (kdQ HO_1056001) (Kd.R_base ho0) hb); replace HO1084 := Aside0.mk (Kd.R_elder' (kdQ HO1084) (Kd.R_base ho0) hb); replace HO1087 := Aside0.mk (Kd.R_elder' (kdQ HO1087) (Kd.R_base ho0) hb); replace BK1038 := bb BK1038 hb; replace BK1055 := bb BK1055 hb; replace HB := Aside0.mk (below_step (beQ HB) hb); (try clear hb); (try clear hb2); (try clear hk); (try clear hi); (try clear ho0)))
             (try simp only [Act.put, List.setIfInBounds_toArray, List.set_cons_zero, List.set_cons_succ])
             go_cut [108] (fun v108 wc => ∃ (kq : Nat) (x108_78 : Bool), v108 = .bool x108_78 ∧ Aside0 (laws_FnExactWordOfFoata.j2 kq t1079 t1078 x108_78 = some r) ∧ Aside0 (kq ≤ kj50) ∧ Aside0 (Kd.R (Kd.int .i64) 2 wc w.heap.size (fun k_ => some k_ ≠ ((.slice Ao31 t1074.length co31) : Value).ownBlock) (.slice Ao80 t1059.length co80) t1079) ∧ Aside0 (Kd.R (Kd.int .i64) 2 wc w.heap.size (fun k_ => some k_ ≠ ((.slice Ao80 t1059.length co80) : Value).ownBlock) (.slice Ao31 t1074.length co31) t1074) ∧ Aside0 (wc.heap[gb1038]? = some (.cells #[.int .i64 a0_0, (.slice A0_1 l0_1.length c0_1)] 24 (0, 0))) ∧ Aside0 (wc.heap[gb1055]? = some (.cells #[.int .i64 t1051, (.slice Ao31 t1074.length co31)] 28 (0, 0))) ∧ Aside0 (Below w.heap.size w wc))
             case first =>
              have H := HC79.out; clear HC79; replace H := Option.bind_eq_some_iff.mp H; obtain ⟨t1092, A890, H⟩ := H
              replace H : (if t1092 = true then (laws_FnExactWordOfFoata.j2 kj50 t1079 t1078 (t1091 != t1050)) else (laws_FnExactWordOfFoata.j2 kj50 t1079 t1078 true)) = some r := H
              have A89 := Aside0.mk A890; clear A890
              by_cases c90 : t1092 = true
              ·subst c90
               have H1 : (laws_FnExactWordOfFoata.j2 kj50 t1079 t1078 (t1091 != t1050)) = some r := by rw [if_pos rfl] at H; exact H
               clear H; have H := H1; clear H1
               have H' := Aside0.mk H
               clear H; obtain ⟨Ao91, co91, eo91⟩ := Kd.R_slice HO1090.out; subst eo91; obtain ⟨Ao92, co92, eo92⟩ := Kd.R_slice HO_6.out; subst eo92
               go_wp2_with (first | ((with_reducible refine gate_callee (f := 21) rfl ?_); refine goesL_ (some 102) rfl rfl Tryd.func21 (by kernel_rfl) rfl #[.slice Ao91 t1088.length co91, .slice Ao92 t1047.length co92] rfl lz ?_; (with_reducible refine (laws_eqInt64S.calls kj50 _ _ t1088 _ _ t1047 true _ ?side1 ?side2 ?side3 ?side4 A89.out).mono ?_); (case side1 => have q_ := Aside0.mk (Kd.R_reads' HO1090.out).2.2; exact cQ q_); (case side2 => exact (Kd.R_reads' HO1090.out).2.1); (case side3 => have q_ := Aside0.mk (Kd.R_reads' HO_6.out).2.2; exact cQ q_); (case side4 => exact (Kd.R_reads' HO_6.out).2.1); rintro e w' ⟨rfl, ⟨nd, rfl⟩⟩; refine ⟨_, rfl, ?_⟩))
               go_meet
               case rel => exact ⟨_, ((t1091 != t1050)), sz, H', ⟨by have := HJ15.out; have := HJ50.out; first | omega | exact Nat.le_refl _⟩, ⟨by (try simp only [hl1056001_50]); (with_reducible repeat (first | apply Kd.R_alloc | apply Kd.R_drewN | apply Kd.R_drew)); exact Kd.R_mono HO_10.out (fun _ hk => hk.1.1.1.2)⟩, ⟨by (try simp only [hl1056001_50]); (with_reducible repeat (first | apply Kd.R_alloc | apply Kd.R_drewN | apply Kd.R_drew)); exact Kd.R_mono HO_1056001.out (fun _ hk => hk.1.1.1.2)⟩, ⟨by (try simp only [hl1056001_50]); (with_reducible repeat (first | refine blk_drewN ?_ _ | refine blk_drew ?_ | refine blk_alloc ?_ _)); exact BK1038.out⟩, ⟨by (try simp only [hl1056001_50]); (with_reducible repeat (first | refine blk_drewN ?_ _ | refine blk_drew ?_ | refine blk_alloc ?_ _)); exact BK1055.out⟩, ⟨beQ HB⟩⟩
              ·replace c90 := Bool.eq_false_iff.mpr c90
               subst c90
               have H1 : (laws_FnExactWordOfFoata.j2 kj50 t1079 t1078 true) = some r := by rw [if_neg (show ¬ (false = true) by decide)] at H; exact H
               clear H; have H := H1; clear H1
               have H' := Aside0.mk H
               clear H; obtain ⟨Ao93, co93, eo93⟩ := Kd.R_slice HO1090.out; subst eo93; obtain ⟨Ao94, co94, eo94⟩ := Kd.R_slice HO_6.out; subst eo94
               go_wp2_with (first | ((with_reducible refine gate_callee (f := 21) rfl ?_); refine goesL_ (some 102) rfl rfl Tryd.func21 (by kernel_rfl) rfl #[.slice Ao93 t1088.length co93, .slice Ao94 t1047.length co94] rfl lz ?_; (with_reducible refine (laws_eqInt64S.calls kj50 _ _ t1088 _ _ t1047 false _ ?side1 ?side2 ?side3 ?side4 A89.out).mono ?_); (case side1 => have q_ := Aside0.mk (Kd.R_reads' HO1090.out).2.2; exact cQ q_); (case side2 => exact (Kd.R_reads' HO1090.out).2.1); (case side3 => have q_ := Aside0.mk (Kd.R_reads' HO_6.out).2.2; exact cQ q_); (case side4 => exact (Kd.R_reads' HO_6.out).2.1); rintro e w' ⟨rfl, ⟨nd, rfl⟩⟩; refine ⟨_, rfl, ?_⟩))
               go_meet
               case rel => exact ⟨_, (true), sz, H', ⟨by have := HJ15.out; have := HJ50.out; first | omega | exact Nat.le_refl _⟩, ⟨by (try simp only [hl1056001_50]); (with_reducible repeat (first | apply Kd.R_alloc | apply Kd.R_drewN | apply Kd.R_drew)); exact Kd.R_mono HO_10.out (fun _ hk => hk.1.1.1.2)⟩, ⟨by (try simp only [hl1056001_50]); (with_reducible repeat (first | apply Kd.R_alloc | apply Kd.R_drewN | apply Kd.R_drew)); exact Kd.R_mono HO_1056001.out (fun _ hk => hk.1.1.1.2)⟩, ⟨by (try simp only [hl1056001_50]); (with_reducible repeat (first | refine blk_drewN ?_ _ | refine blk_drew ?_ | refine blk_alloc ?_ _)); exact BK1038.out⟩, ⟨by (try simp only [hl1056001_50]); (with_reducible repeat (first | refine blk_drewN ?_ _ | refine blk_drew ?_ | refine blk_alloc ?_ _)); exact BK1055.out⟩, ⟨beQ HB⟩⟩
             case rest =>
              clear HC79
              try clear c1
              try clear c2
              try clear p2
              try clear c3
              try clear c3b0
              try clear c3b1
              try clear c4
              try clear c5
              try clear c6
              try clear c6b0
              try clear c7
              try clear c8
              try clear c9
              try clear c13
              try clear c15
              try clear c17
              try clear c18
              try clear c20
              try clear c21
              try clear c24
              try clear c25
              try clear c26
              try clear c29
              try clear c37
              try clear c42
              try clear c45
              try clear c46
              try clear c47
              try clear c48
              try clear c58
              try clear c62
              try clear c62b0
              try clear c64
              try clear c69
              try clear c72
              try clear c72b0
              try clear c75
              try clear c75b0
              try clear c75b1
              try clear c82
              try clear c90
              try clear hcz18_0
              try clear hcz18_1
              try clear hcz20_0
              try clear hcz20_1
              try clear hcz26_0
              try clear hcz26_1
              try clear hcz30_0
              try clear hcz30_1
              try clear hcz33_0
              try clear hcz33_1
              try clear hcz59_0
              try clear hcz59_1
              try clear hcz83_0
              try clear hcz83_1
              try clear hcz8_0
              try clear hcz8_1
              try clear hfz18_0
              try clear hfz18_1
              try clear hfz20_0
              try clear hfz20_1
              try clear hfz26_0
              try clear hfz26_1
              try clear hfz30_0
              try clear hfz30_1
              try clear hfz33_0
              try clear hfz33_1
              try clear hfz59_0
              try clear hfz59_1
              try clear hfz83_0
              try clear hfz83_1
              try clear hfz8_0
              try clear hfz8_1
              try clear p2
              obtain ⟨kq, x108_78, rfl, HA, HJ78, HO_10, HO_1056001, BK1038, BK1055, HB⟩ := hcut; have hl10_78 := (Kd.R_reads' HO_10.out).1; rw [hl10_78] at HO_10
              (try simp only [hl10_78])
              (try simp only [hl10_78] at BK1038)
              (try simp only [hl10_78] at BK1055)
              (try simp only [hl10_78] at HO_1056001)
              cases kq with
              | zero => exact absurd HA.out (by simp [laws_FnExactWordOfFoata.j2])
              | succ kj78 =>
               have H := HA.out; clear HA
               simp only [laws_FnExactWordOfFoata.j2] at H
               by_cases c95 : x108_78 = true
               ·subst c95
                have H1 : (some false) = some r := by rw [if_pos rfl] at H; exact H
                clear H; have H := H1; clear H1
                obtain rfl := Option.some.inj H
                go_wp2
                go_ret
                exact ⟨rz, beQ HB⟩
               ·replace c95 := Bool.eq_false_iff.mpr c95
                subst c95
                have H1 : ((laws_heldInt64S.f kj78 t1079 1).bind fun t1093 => (if t1093 < 0 then (some false) else (if t1093 = t1078 then (some true) else (some false)))) = some r := by rw [if_neg (show ¬ (false = true) by decide)] at H; exact H
                clear H; have H := H1; clear H1; replace H := Option.bind_eq_some_iff.mp H; obtain ⟨t1093, A960, H⟩ := H
                replace H : (if t1093 < 0 then (some false) else (if t1093 = t1078 then (some true) else (some false))) = some r := H
                have A96 := Aside0.mk A960; clear A960
                by_cases c97 : t1093 < 0
                ·rw [if_pos c97] at H
                 have c97b0 : decide (t1093 < 0) = true := decide_eq_true c97
                 clear c97
                 obtain rfl := Option.some.inj H
                 go_wp2_with (first | ((with_reducible refine gate_callee (f := 26) rfl ?_); refine goesL_ (some 111) rfl rfl Tryd.func26 (by kernel_rfl) rfl #[.slice Ao80 t1079.length co80, .int .i64 1] rfl lz ?_; (with_reducible refine (laws_heldInt64S.calls kj78 _ _ t1079 1 t1093 _ ?side1 ?side2 A96.out).mono ?_); (case side1 => have q_ := Aside0.mk (Kd.R_reads' HO_10.out).2.2; exact cQ q_); (case side2 => exact (Kd.R_reads' HO_10.out).2.1); rintro e w' ⟨rfl, ⟨nd, rfl⟩⟩; refine ⟨_, rfl, ?_⟩))
                 go_ret
                 exact ⟨rz, beQ HB⟩
                ·rw [if_neg c97] at H
                 have c97b0 : decide (t1093 < 0) = false := decide_eq_false c97
                 clear c97
                 by_cases c98 : t1093 = t1078
                 ·rw [if_pos c98] at H
                  have c98b0 : (t1093 == t1078) = true := beq_iff_eq.mpr c98
                  have c98b1 : (t1093 != t1078) = false := bne_eq_false_iff_eq.mpr c98
                  clear c98
                  obtain rfl := Option.some.inj H
                  go_wp2_with (first | ((with_reducible refine gate_callee (f := 26) rfl ?_); refine goesL_ (some 111) rfl rfl Tryd.func26 (by kernel_rfl) rfl #[.slice Ao80 t1079.length co80, .int .i64 1] rfl lz ?_; (with_reducible refine (laws_heldInt64S.calls kj78 _ _ t1079 1 t1093 _ ?side1 ?side2 A96.out).mono ?_); (case side1 => have q_ := Aside0.mk (Kd.R_reads' HO_10.out).2.2; exact cQ q_); (case side2 => exact (Kd.R_reads' HO_10.out).2.1); rintro e w' ⟨rfl, ⟨nd, rfl⟩⟩; refine ⟨_, rfl, ?_⟩))
                  go_ret
                  exact ⟨rz, beQ HB⟩
                 ·rw [if_neg c98] at H
                  have c98b0 : (t1093 == t1078) = false := beq_eq_false_iff_ne.mpr c98
                  have c98b1 : (t1093 != t1078) = true := bne_iff_ne.mpr c98
                  obtain rfl := Option.some.inj H
                  go_wp2_with (first | ((with_reducible refine gate_callee (f := 26) rfl ?_); refine goesL_ (some 111) rfl rfl Tryd.func26 (by kernel_rfl) rfl #[.slice Ao80 t1079.length co80, .int .i64 1] rfl lz ?_; (with_reducible refine (laws_heldInt64S.calls kj78 _ _ t1079 1 t1093 _ ?side1 ?side2 A96.out).mono ?_); (case side1 => have q_ := Aside0.mk (Kd.R_reads' HO_10.out).2.2; exact cQ q_); (case side2 => exact (Kd.R_reads' HO_10.out).2.1); rintro e w' ⟨rfl, ⟨nd, rfl⟩⟩; refine ⟨_, rfl, ?_⟩))
                  go_ret
                  exact ⟨rz, beQ HB⟩
            ·rw [if_neg c75] at H
             have c75b0 : (t1080 == t1078) = false := beq_eq_false_iff_ne.mpr c75
             have c75b1 : (t1080 != t1078) = true := bne_iff_ne.mpr c75
             obtain rfl := Option.some.inj H
             obtain ⟨Ao99, co99, eo99⟩ := Kd.R_slice HO_10.out; subst eo99
             go_wp2_with (first | ((with_reducible refine gate_callee (f := 25) rfl ?_); refine goesL_ (some 83) rfl rfl Tryd.func25 (by kernel_rfl) rfl #[.slice Ao99 t1059.length co99, .int .i64 1] rfl lz ?_; (with_reducible refine (laws_markInt64S.calls kj50 (fun k_ => some k_ = (.slice Ao99 t1059.length co99 : Value).ownBlock) (.slice Ao99 t1059.length co99) t1059 1 t1078 t1079 w _ ?side1 ?side2 A70.out).mono ?_); (case side1 => repeat (first | (with_reducible first | exact HB.out | apply below_alloc | apply pw_below_drewN | apply below_drew1 | refine below_set ?_ GE1038.out | refine below_set ?_ GE1055.out) | exact HB.out)); (case side2 => exact Kd.R_tight rfl HO_10.out); rintro e w100 ⟨rfl, hy0, hb, hkp⟩; refine ⟨_, rfl, ?_⟩; replace HO_6 := Aside0.mk (Kd.R_mono (ok' := fun k_ => some k_ ≠ (.slice Ao99 t1059.length co99 : Value).ownBlock ∧ some k_ ≠ (.slice Ao31 t1074.length co31 : Value).ownBlock) (Kd.R_keptB (HO_6.out) hkp (fun k_ hk_ hs_ => (hk_.1) hs_)) (fun k_ hk_ => ⟨hk_.1.1, hk_.1.2⟩)); replace HO_1056001 := Aside0.mk (Kd.R_mono (ok' := fun k_ => some k_ ≠ (v1048 : Value).ownBlock ∧ some k_ ≠ (.slice Ao99 t1059.length co99 : Value).ownBlock) (Kd.R_keptB (HO_1056001.out) hkp (fun k_ hk_ hs_ => (hk_.2) hs_)) (fun k_ hk_ => ⟨hk_.1.1, hk_.1.2⟩)); replace BK1038 := Aside0.mk (blk_kept (blkQ BK1038) hkp (fun hs_ => (fun e_ => (Kd.R_ne HO_10.out BK1038.out (by decide)) e_) hs_)); replace BK1055 := Aside0.mk (blk_kept (blkQ BK1055) hkp (fun hs_ => (fun e_ => (Kd.R_ne HO_10.out BK1055.out (by decide)) e_) hs_)); replace HO_10 := Aside0.mk (Kd.R_reok rfl hy0 (fun k_ e_ => HO_10.out.1 k_ e_)); replace HB := Aside0.mk (hb); (try clear hb); (try clear hkp); (try clear hy0)) | ((with_reducible refine gate_callee (f := 26) rfl ?_); refine goesL_ (some 86) rfl rfl Tryd.func26 (by kernel_rfl) rfl #[.slice Ao99 t1079.length co99, .int .i64 1] rfl (by (try simp only [List.map_toArray, List.map_cons, List.map_nil]); first | done | (rw [show t1079.length = t1059.length from (Kd.R_reads' HO_10.out).1.symm] <;> rfl) | rfl | (simp only [List.length_drop, List.length_take]; rfl)) ?_; (with_reducible refine (laws_heldInt64S.calls kj50 _ _ t1079 1 t1080 _ ?side1 ?side2 A71.out).mono ?_); (case side1 => have q_ := Aside0.mk (Kd.R_reads' HO_10.out).2.2; exact cQ q_); (case side2 => rw [show t1079.length = t1059.length from (Kd.R_reads' HO_10.out).1.symm]; exact (Kd.R_reads' HO_10.out).2.1); rintro e w' ⟨rfl, ⟨nd, rfl⟩⟩; refine ⟨_, rfl, ?_⟩))
             go_ret
             exact ⟨rz, beQ HB⟩
       ·replace c48 := Bool.eq_false_iff.mpr c48
        subst c48
        have H1 : (some false) = some r := by rw [if_neg (show ¬ (false = true) by decide)] at H; exact H
        clear H; have H := H1; clear H1
        obtain rfl := Option.some.inj H
        try go_wp2
        replace HO_6 := Aside0.mk (Kd.R_drew HO_6.out); replace HO_9 := Aside0.mk (Kd.R_drew HO_9.out); replace HO_10 := Aside0.mk (Kd.R_drew HO_10.out); replace HO_1056001 := Aside0.mk (Kd.R_drew HO_1056001.out); replace BK1038 := Aside0.mk (blk_drew BK1038.out); replace BK1055 := Aside0.mk (blk_drew BK1055.out); replace HB := Aside0.mk (below_drew1 HB.out)
        refine start_ (n := 5) (S := fun w' => w'.cell? ⟨gb1055, 0, none⟩ = some (.int .i64 t1051) ∧ w'.cell? ⟨gb1055, 1, none⟩ = some (.slice Ao31 t1052.length co31) ∧ w'.cell? ⟨gb1038, 0, none⟩ = some (.int .i64 a0_0) ∧ w'.cell? ⟨gb1038, 1, none⟩ = some (.slice A0_1 l0_1.length c0_1)) (ds := []) #[false, false, false, false, false] (by kernel_rfl) rfl rfl ⟨bc BK1055 0, bc BK1055 1, bc BK1038 0, bc BK1038 1⟩ (fun hHeld => ?_)
        generalize wc.drew = w101 at HO_6 HO_9 HO_10 HO_1056001 BK1038 BK1055 HB hHeld ⊢
        refine take_ (i := 0) (N := some 52) (v := ?_) (a' := ?_) #[true, false, false, false, false] rfl rfl (by kernel_rfl) (fun _ _ _ h => h) (Or.inl ⟨by rfl, ?_⟩) hHeld ?_ ?_
        rotate_left
        ·rintro w' ⟨s0, s1, s2, s3⟩
         go_simp
         with_reducible rfl
        rotate_left
        ·simp only [Act.put, s1, s2, s3, i64_w, i32_w]
         rfl
        refine take_ (i := 1) (N := some 53) (v := ?_) (a' := ?_) #[true, true, false, false, false] rfl rfl (by kernel_rfl) (fun _ _ _ h => h) (Or.inl ⟨by rfl, ?_⟩) hHeld ?_ ?_
        rotate_left
        ·rintro w' ⟨s0, s1, s2, s3⟩
         go_simp
         with_reducible rfl
        rotate_left
        ·simp only [Act.put, s1, s2, s3, i64_w, i32_w]
         rfl
        refine one_ (i := 2) (N := some 54) #[true, true, true, false, false] rfl rfl (by kernel_rfl) (by decide) (fun K hK => ?_)
        refine goes_ Tryd.func17 (by kernel_rfl) rfl #[.agg #[.int .i64 a0_0, .slice A0_1 l0_1.length c0_1]] (by rfl) rfl rfl lz ?_
        with_reducible refine (laws_toAlphabet.calls kj15 a0_0 _ _ l0_1 t1064 t1065 _ ?side1 ?side2 A43.out).mono ?_
        (case side1 => have q_ := Aside0.mk (Kd.C_below HR0_1.out HB.out); exact cQ q_)
        (case side2 => exact HC0_1.out)
        rintro e w102 ⟨v1066, rfl, ho0, hb⟩
        refine ⟨_, rfl, ?_⟩
        have HO1067 := Aside0.mk (Kd.R_lower (Kd.R_new' (Kd.R_new' (Kd.R_new' (Kd.R_new' ho0 (Kd.R_lt (kdQ HO_6))) (Kd.R_lt (kdQ HO_9))) (Kd.R_lt (kdQ HO_10))) (Kd.R_lt (kdQ HO_1056001))) (below_size (beQ HB))); replace HO_6 := Aside0.mk (Kd.R_elder' (kdQ HO_6) (Kd.R_base ho0) hb); replace HO_9 := Aside0.mk (Kd.R_elder' (kdQ HO_9) (Kd.R_base ho0) hb); replace HO_10 := Aside0.mk (Kd.R_elder' (kdQ HO_10) (Kd.R_base ho0) hb); replace HO_1056001 := Aside0.mk (Kd.R_elder' (kdQ HO_1056001) (Kd.R_base ho0) hb); replace BK1038 := bb BK1038 hb; replace BK1055 := bb BK1055 hb; replace HB := Aside0.mk (below_step (beQ HB) hb)
        (try clear hb)
        (try clear hb2)
        (try clear hk)
        (try clear hi)
        (try clear ho0)
        obtain ⟨Ao103, co103, eo103⟩ := Kd.R_slice HO1067.out
        (first | subst eo103 | (injection eo103 with f1_ f2_ f3_; have f4_ := f1_.symm; have f5_ := f3_.symm; clear f1_ f2_ f3_; subst f4_; subst f5_))
        refine hK.out _ _ ⟨bc BK1055 0, bc BK1055 1, bc BK1038 0, bc BK1038 1⟩ (fun hHeld => ?_)
        clear hK K
        refine norm_ (a' := ?_) ?_ ?_
        rotate_left
        ·show Act.put _ (some 54) _ = _
         simp only [Act.put, s1, s2, s3, i64_w, i32_w]
         rfl
        refine one_ (i := 3) (N := some 55) #[true, true, true, true, false] rfl rfl (by kernel_rfl) (by decide) (fun K hK => ?_)
        refine goes_ Tryd.func20 (by kernel_rfl) rfl #[.agg #[.int .i64 t1051, .slice Ao31 t1052.length co31], .agg #[.int .i64 t1064, .slice Ao103 t1065.length co103]] (by rfl) rfl rfl lz ?_
        with_reducible refine (laws_eqAlphabet.calls kj15 t1051 _ _ t1052 t1064 _ _ t1065 true _ ?side1 ?side2 ?side3 ?side4 A44.out).mono ?_
        (case side1 => have q_ := Aside0.mk (Kd.R_reads' HO_1056001.out).2.2; exact cQ q_)
        (case side2 => exact (Kd.R_reads' HO_1056001.out).2.1)
        (case side3 => have q_ := Aside0.mk (Kd.R_reads' HO1067.out).2.2; exact cQ q_)
        (case side4 => exact (Kd.R_reads' HO1067.out).2.1)
        rintro e w104 ⟨rfl, hb⟩
        refine ⟨_, rfl, ?_⟩
        replace HO_6 := kb HO_6 hb; replace HO_9 := kb HO_9 hb; replace HO_10 := kb HO_10 hb; replace HO_1056001 := kb HO_1056001 hb; replace HO1067 := kb HO1067 hb; replace BK1038 := bb BK1038 hb; replace BK1055 := bb BK1055 hb; replace HB := Aside0.mk (below_step (beQ HB) hb)
        (try clear hb)
        (try clear hb2)
        (try clear hk)
        (try clear hi)
        refine hK.out _ _ ⟨bc BK1055 0, bc BK1055 1, bc BK1038 0, bc BK1038 1⟩ (fun hHeld => ?_)
        clear hK K
        refine norm_ (a' := ?_) ?_ ?_
        rotate_left
        ·show Act.put _ (some 55) _ = _
         simp only [Act.put, s1, s2, s3, i64_w, i32_w]
         rfl
        refine pure_ (i := 4) (N := some 56) (v := ?_) (a' := ?_) #[true, true, true, true, true] rfl rfl (by kernel_rfl) (fun _ _ _ h => h) (Or.inl ⟨by rfl, ?_⟩) ?_ ?_
        rotate_left
        ·intro w'
         go_simp
         with_reducible rfl
        rotate_left
        ·simp only [Act.put, s1, s2, s3, i64_w, i32_w]
         rfl
        refine done_ (by kernel_rfl) ?_
        try go_wp2_with (first | ((with_reducible refine gate_callee (f := 18) rfl ?_); refine goesL_ (some 59) rfl rfl Tryd.func18 (by kernel_rfl) rfl #[.slice A1 l1.length c1] rfl lz ?_; (with_reducible refine (laws_toInt64S.calls kj15 _ _ l1 t1069 _ ?side1 ?side2 A46.out).mono ?_); (case side1 => have q_ := Aside0.mk (Kd.C_below HR1.out HB.out); exact cQ q_); (case side2 => exact HC1.out); rintro e w105 ⟨v1070, rfl, ho0, hb⟩; refine ⟨_, rfl, ?_⟩; have HO1071 := Aside0.mk (Kd.R_lower (Kd.R_new' (Kd.R_new' (Kd.R_new' (Kd.R_new' (Kd.R_new' ho0 (Kd.R_lt (kdQ HO_6))) (Kd.R_lt (kdQ HO_9))) (Kd.R_lt (kdQ HO_10))) (Kd.R_lt (kdQ HO_1056001))) (Kd.R_lt (kdQ HO1067))) (below_size (beQ HB))); replace HO_6 := Aside0.mk (Kd.R_elder' (kdQ HO_6) (Kd.R_base ho0) hb); replace HO_9 := Aside0.mk (Kd.R_elder' (kdQ HO_9) (Kd.R_base ho0) hb); replace HO_10 := Aside0.mk (Kd.R_elder' (kdQ HO_10) (Kd.R_base ho0) hb); replace HO_1056001 := Aside0.mk (Kd.R_elder' (kdQ HO_1056001) (Kd.R_base ho0) hb); replace HO1067 := Aside0.mk (Kd.R_elder' (kdQ HO1067) (Kd.R_base ho0) hb); replace BK1038 := bb BK1038 hb; replace BK1055 := bb BK1055 hb; replace HB := Aside0.mk (below_step (beQ HB) hb); (try clear hb); (try clear hb2); (try clear hk); (try clear hi); (try clear ho0); obtain ⟨Ao106, co106, eo106⟩ := Kd.R_slice HO1071.out; subst eo106) | ((with_reducible refine gate_callee (f := 21) rfl ?_); refine goesL_ (some 60) rfl rfl Tryd.func21 (by kernel_rfl) rfl #[.slice Ao34 t1056.length co34, .slice Ao106 t1069.length co106] rfl lz ?_; (with_reducible refine (laws_eqInt64S.calls kj15 _ _ t1056 _ _ t1069 false _ ?side1 ?side2 ?side3 ?side4 A47.out).mono ?_); (case side1 => have q_ := Aside0.mk (Kd.R_reads' HO_9.out).2.2; exact cQ q_); (case side2 => exact (Kd.R_reads' HO_9.out).2.1); (case side3 => have q_ := Aside0.mk (Kd.R_reads' HO1071.out).2.2; exact cQ q_); (case side4 => exact (Kd.R_reads' HO1071.out).2.1); rintro e w' ⟨rfl, ⟨nd, rfl⟩⟩; refine ⟨_, rfl, ?_⟩))
        go_ret
        exact ⟨rz, beQ HB⟩
      ·replace c45 := Bool.eq_false_iff.mpr c45
       subst c45
       have H1 : (some false) = some r := by rw [if_neg (show ¬ (false = true) by decide)] at H; exact H
       clear H; have H := H1; clear H1
       obtain rfl := Option.some.inj H
       try go_wp2
       replace HO_6 := Aside0.mk (Kd.R_drew HO_6.out); replace HO_9 := Aside0.mk (Kd.R_drew HO_9.out); replace HO_10 := Aside0.mk (Kd.R_drew HO_10.out); replace HO_1056001 := Aside0.mk (Kd.R_drew HO_1056001.out); replace BK1038 := Aside0.mk (blk_drew BK1038.out); replace BK1055 := Aside0.mk (blk_drew BK1055.out); replace HB := Aside0.mk (below_drew1 HB.out)
       refine start_ (n := 5) (S := fun w' => w'.cell? ⟨gb1055, 0, none⟩ = some (.int .i64 t1051) ∧ w'.cell? ⟨gb1055, 1, none⟩ = some (.slice Ao31 t1052.length co31) ∧ w'.cell? ⟨gb1038, 0, none⟩ = some (.int .i64 a0_0) ∧ w'.cell? ⟨gb1038, 1, none⟩ = some (.slice A0_1 l0_1.length c0_1)) (ds := []) #[false, false, false, false, false] (by kernel_rfl) rfl rfl ⟨bc BK1055 0, bc BK1055 1, bc BK1038 0, bc BK1038 1⟩ (fun hHeld => ?_)
       generalize wc.drew = w107 at HO_6 HO_9 HO_10 HO_1056001 BK1038 BK1055 HB hHeld ⊢
       refine take_ (i := 0) (N := some 52) (v := ?_) (a' := ?_) #[true, false, false, false, false] rfl rfl (by kernel_rfl) (fun _ _ _ h => h) (Or.inl ⟨by rfl, ?_⟩) hHeld ?_ ?_
       rotate_left
       ·rintro w' ⟨s0, s1, s2, s3⟩
        go_simp
        with_reducible rfl
       rotate_left
       ·simp only [Act.put, s1, s2, s3, i64_w, i32_w]
        rfl
       refine take_ (i := 1) (N := some 53) (v := ?_) (a' := ?_) #[true, true, false, false, false] rfl rfl (by kernel_rfl) (fun _ _ _ h => h) (Or.inl ⟨by rfl, ?_⟩) hHeld ?_ ?_
       rotate_left
       ·rintro w' ⟨s0, s1, s2, s3⟩
        go_simp
        with_reducible rfl
       rotate_left
       ·simp only [Act.put, s1, s2, s3, i64_w, i32_w]
        rfl
       refine one_ (i := 2) (N := some 54) #[true, true, true, false, false] rfl rfl (by kernel_rfl) (by decide) (fun K hK => ?_)
       refine goes_ Tryd.func17 (by kernel_rfl) rfl #[.agg #[.int .i64 a0_0, .slice A0_1 l0_1.length c0_1]] (by rfl) rfl rfl lz ?_
       with_reducible refine (laws_toAlphabet.calls kj15 a0_0 _ _ l0_1 t1064 t1065 _ ?side1 ?side2 A43.out).mono ?_
       (case side1 => have q_ := Aside0.mk (Kd.C_below HR0_1.out HB.out); exact cQ q_)
       (case side2 => exact HC0_1.out)
       rintro e w108 ⟨v1066, rfl, ho0, hb⟩
       refine ⟨_, rfl, ?_⟩
       have HO1067 := Aside0.mk (Kd.R_lower (Kd.R_new' (Kd.R_new' (Kd.R_new' (Kd.R_new' ho0 (Kd.R_lt (kdQ HO_6))) (Kd.R_lt (kdQ HO_9))) (Kd.R_lt (kdQ HO_10))) (Kd.R_lt (kdQ HO_1056001))) (below_size (beQ HB))); replace HO_6 := Aside0.mk (Kd.R_elder' (kdQ HO_6) (Kd.R_base ho0) hb); replace HO_9 := Aside0.mk (Kd.R_elder' (kdQ HO_9) (Kd.R_base ho0) hb); replace HO_10 := Aside0.mk (Kd.R_elder' (kdQ HO_10) (Kd.R_base ho0) hb); replace HO_1056001 := Aside0.mk (Kd.R_elder' (kdQ HO_1056001) (Kd.R_base ho0) hb); replace BK1038 := bb BK1038 hb; replace BK1055 := bb BK1055 hb; replace HB := Aside0.mk (below_step (beQ HB) hb)
       (try clear hb)
       (try clear hb2)
       (try clear hk)
       (try clear hi)
       (try clear ho0)
       obtain ⟨Ao109, co109, eo109⟩ := Kd.R_slice HO1067.out
       (first | subst eo109 | (injection eo109 with f1_ f2_ f3_; have f4_ := f1_.symm; have f5_ := f3_.symm; clear f1_ f2_ f3_; subst f4_; subst f5_))
       refine hK.out _ _ ⟨bc BK1055 0, bc BK1055 1, bc BK1038 0, bc BK1038 1⟩ (fun hHeld => ?_)
       clear hK K
       refine norm_ (a' := ?_) ?_ ?_
       rotate_left
       ·show Act.put _ (some 54) _ = _
        simp only [Act.put, s1, s2, s3, i64_w, i32_w]
        rfl
       refine one_ (i := 3) (N := some 55) #[true, true, true, true, false] rfl rfl (by kernel_rfl) (by decide) (fun K hK => ?_)
       refine goes_ Tryd.func20 (by kernel_rfl) rfl #[.agg #[.int .i64 t1051, .slice Ao31 t1052.length co31], .agg #[.int .i64 t1064, .slice Ao109 t1065.length co109]] (by rfl) rfl rfl lz ?_
       with_reducible refine (laws_eqAlphabet.calls kj15 t1051 _ _ t1052 t1064 _ _ t1065 false _ ?side1 ?side2 ?side3 ?side4 A44.out).mono ?_
       (case side1 => have q_ := Aside0.mk (Kd.R_reads' HO_1056001.out).2.2; exact cQ q_)
       (case side2 => exact (Kd.R_reads' HO_1056001.out).2.1)
       (case side3 => have q_ := Aside0.mk (Kd.R_reads' HO1067.out).2.2; exact cQ q_)
       (case side4 => exact (Kd.R_reads' HO1067.out).2.1)
       rintro e w110 ⟨rfl, hb⟩
       refine ⟨_, rfl, ?_⟩
       replace HO_6 := kb HO_6 hb; replace HO_9 := kb HO_9 hb; replace HO_10 := kb HO_10 hb; replace HO_1056001 := kb HO_1056001 hb; replace HO1067 := kb HO1067 hb; replace BK1038 := bb BK1038 hb; replace BK1055 := bb BK1055 hb; replace HB := Aside0.mk (below_step (beQ HB) hb)
       (try clear hb)
       (try clear hb2)
       (try clear hk)
       (try clear hi)
       refine hK.out _ _ ⟨bc BK1055 0, bc BK1055 1, bc BK1038 0, bc BK1038 1⟩ (fun hHeld => ?_)
       clear hK K
       refine norm_ (a' := ?_) ?_ ?_
       rotate_left
       ·show Act.put _ (some 55) _ = _
        simp only [Act.put, s1, s2, s3, i64_w, i32_w]
        rfl
       refine pure_ (i := 4) (N := some 56) (v := ?_) (a' := ?_) #[true, true, true, true, true] rfl rfl (by kernel_rfl) (fun _ _ _ h => h) (Or.inl ⟨by rfl, ?_⟩) ?_ ?_
       rotate_left
       ·intro w'
        go_simp
        with_reducible rfl
       rotate_left
       ·simp only [Act.put, s1, s2, s3, i64_w, i32_w]
        rfl
       refine done_ (by kernel_rfl) ?_
       try go_wp2
       go_ret
       exact ⟨rz, beQ HB⟩

end Go.Proofs.YtlpodkpnoopnnaaDoor.G
