/- How the program's functions compute, function by function: each is told by a plain Lean function of the same answers, under the condition that this one answers. Written by a program of this project over the seat's translation; Lean checks it. -/
import Derived.Test.YtlpodkpnoopnnaaDoorG0
import Derived.Test.YtlpodkpnoopnnaaDoorGQ00
import Derived.Test.YtlpodkpnoopnnaaDoorGQ08
import Derived.Test.YtlpodkpnoopnnaaDoorGQ29
namespace Go.Proofs.YtlpodkpnoopnnaaDoor.G
open Go.RowKit Go.Proofs.YtlpodkpnoopnnaaDoorW.PrintWords Go.Proofs.YtlpodkpnoopnnaaDoorW.PrintLast Go.Proofs.YtlpodkpnoopnnaaDoorW.PrintMore
attribute [local go_sem] max2_int min2_int max_two min_two max_three min_three max_four min_four   -- for this text's walks alone
set_option linter.unusedVariables false
set_option linter.unusedSimpArgs false

/-! ### laws_FnExactProjectionOf: function 11 -/
mutual
def laws_FnExactProjectionOf.j0 : Nat → List Int → Int → List Int → Int → List Int → List Int → Int → Bool → Int → List Int → Int → List Int → Option (Bool)
 | 0, _, _, _, _, _, _, _, _, _, _, _, _ => none
 | k + 1, x1, x2, x8, x9, x11, x12, x13, x55, x936000, x936001, x953000, x953001 => if x55 = true then (some false) else ((laws_toAlphabet.f k x936000 x936001).bind fun bt961 => ((laws_eqAlphabet.f k x953000 x953001 bt961.1 bt961.2).bind fun t965 => (if t965 = true then ((laws_toInt64S.f k x1).bind fun t966 => ((laws_eqInt64S.f k x11 t966).bind fun t969 => (if t969 = true then ((laws_markAlphabet.f k x953000 x953001 1).bind fun bt970 => ((laws_markInt64S.f k x11 bt970.1).bind fun bt972 => (if bt972.1 < 0 then (laws_FnExactProjectionOf.j1 k x1 x2 x8 x9 x12 true x936000 x936001) else ((laws_eqInt64S.f k x12 x8).bind fun t974 => (if t974 = true then (laws_FnExactProjectionOf.j1 k x1 x2 x8 x9 x12 (x13 != x9) x936000 x936001) else (laws_FnExactProjectionOf.j1 k x1 x2 x8 x9 x12 true x936000 x936001)))))) else (some false)))) else (some false))))
def laws_FnExactProjectionOf.j1 : Nat → List Int → Int → List Int → Int → List Int → Bool → Int → List Int → Option (Bool)
 | 0, _, _, _, _, _, _, _, _ => none
 | k + 1, x1, x2, x8, x9, x12, x84, x936000, x936001 => if x84 = true then (some false) else ((laws_markInt64S.f k x12 1).bind fun bt975 => ((laws_heldInt64S.f k bt975.2 1).bind fun t977 => (if t977 < 0 then (some false) else (if t977 = bt975.1 then ((laws_toAlphabet.f k x936000 x936001).bind fun bt978 => ((laws_toInt64S.f k x1).bind fun t982 => ((impl_ProjectionOf.f k bt978.1 bt978.2 t982 x2).bind fun bt985 => ((laws_eqInt64S.f k bt985.1 x8).bind fun t989 => (if t989 = true then (laws_FnExactProjectionOf.j2 k bt975.2 bt975.1 (bt985.2 != x9)) else (laws_FnExactProjectionOf.j2 k bt975.2 bt975.1 true)))))) else (some false)))))
def laws_FnExactProjectionOf.j2 : Nat → List Int → Int → Bool → Option (Bool)
 | 0, _, _, _ => none
 | k + 1, x12, x15, x113 => if x113 = true then (some false) else ((laws_heldInt64S.f k x12 1).bind fun t990 => (if t990 < 0 then (some false) else (if t990 = x15 then (some true) else (some false))))
end
def laws_FnExactProjectionOf.f (k : Nat) (a0_0 : Int) (l0_1 : List Int) (l1 : List Int) (a2 : Int) : Option (Bool) := if (l1.length : Int) > 1048576 then (some true) else ((laws_szAlphabet.f a0_0 l0_1 1048576).bind fun t936 => (if t936 < 0 then (some true) else ((laws_toAlphabet.f k a0_0 l0_1).bind fun bt937 => ((laws_toInt64S.f k l1).bind fun t941 => ((spec_ProjectionOf.f k bt937.1 bt937.2 t941 a2).bind fun bt944 => ((laws_toAlphabet.f k a0_0 l0_1).bind fun bt948 => ((laws_toInt64S.f k l1).bind fun t953 => ((impl_ProjectionOf.f k bt948.1 bt948.2 t953 a2).bind fun bt956 => ((laws_eqInt64S.f k bt956.1 bt944.1).bind fun t960 => (if t960 = true then (laws_FnExactProjectionOf.j0 k l1 a2 bt944.1 bt944.2 t953 bt956.1 bt956.2 (bt956.2 != bt944.2) a0_0 l0_1 bt948.1 bt948.2) else (laws_FnExactProjectionOf.j0 k l1 a2 bt944.1 bt944.2 t953 bt956.1 bt956.2 true a0_0 l0_1 bt948.1 bt948.2)))))))))))
theorem laws_FnExactProjectionOf.mono_l : ∀ k, (∀ y0 y1 y2 y3 y4 y5 y6 y7 y8 y9 y10 y11, LeO (laws_FnExactProjectionOf.j0 k y0 y1 y2 y3 y4 y5 y6 y7 y8 y9 y10 y11) (laws_FnExactProjectionOf.j0 (k + 1) y0 y1 y2 y3 y4 y5 y6 y7 y8 y9 y10 y11)) ∧ (∀ y0 y1 y2 y3 y4 y5 y6 y7, LeO (laws_FnExactProjectionOf.j1 k y0 y1 y2 y3 y4 y5 y6 y7) (laws_FnExactProjectionOf.j1 (k + 1) y0 y1 y2 y3 y4 y5 y6 y7)) ∧ (∀ y0 y1 y2, LeO (laws_FnExactProjectionOf.j2 k y0 y1 y2) (laws_FnExactProjectionOf.j2 (k + 1) y0 y1 y2))
 | 0 => ⟨fun _ _ _ _ _ _ _ _ _ _ _ _ r h => by simp [laws_FnExactProjectionOf.j0] at h, fun _ _ _ _ _ _ _ _ r h => by simp [laws_FnExactProjectionOf.j1] at h, fun _ _ _ r h => by simp [laws_FnExactProjectionOf.j2] at h⟩
 | k + 1 => by
  obtain ⟨ih0, ih1, ih2⟩ := laws_FnExactProjectionOf.mono_l k
  refine ⟨?_, ?_, ?_⟩
  ·intro y0 y1 y2 y3 y4 y5 y6 y7 y8 y9 y10 y11
   unfold laws_FnExactProjectionOf.j0
   repeat' first
   | (with_reducible exact ih0 _ _ _ _ _ _ _ _ _ _ _ _)
   | (with_reducible exact ih1 _ _ _ _ _ _ _ _)
   | (with_reducible exact ih2 _ _ _)
   | (with_reducible exact impl_ProjectionOf.mono _ _ _ _ _)
   | (with_reducible exact laws_eqAlphabet.mono _ _ _ _ _)
   | (with_reducible exact laws_eqInt64S.mono _ _ _)
   | (with_reducible exact laws_heldInt64S.mono _ _ _)
   | (with_reducible exact laws_markAlphabet.mono _ _ _ _)
   | (with_reducible exact laws_markInt64S.mono _ _ _)
   | (with_reducible exact laws_toAlphabet.mono _ _ _)
   | (with_reducible exact laws_toInt64S.mono _ _)
   | (with_reducible exact spec_ProjectionOf.mono _ _ _ _ _)
   | (with_reducible exact LeO.refl _)
   | (with_reducible exact LeO.none _)
   | (with_reducible refine LeO.ite ?_ ?_)
   | (with_reducible refine LeO.bind ?_ (fun _ => ?_))
   | exact ih0 _ _ _ _ _ _ _ _ _ _ _ _
   | exact ih1 _ _ _ _ _ _ _ _
   | exact ih2 _ _ _
   | exact impl_ProjectionOf.mono _ _ _ _ _
   | exact laws_eqAlphabet.mono _ _ _ _ _
   | exact laws_eqInt64S.mono _ _ _
   | exact laws_heldInt64S.mono _ _ _
   | exact laws_markAlphabet.mono _ _ _ _
   | exact laws_markInt64S.mono _ _ _
   | exact laws_toAlphabet.mono _ _ _
   | exact laws_toInt64S.mono _ _
   | exact spec_ProjectionOf.mono _ _ _ _ _
   | exact LeO.none _
   | refine LeO.ite ?_ ?_
   | refine LeO.bind ?_ (fun _ => ?_)
  ·intro y0 y1 y2 y3 y4 y5 y6 y7
   unfold laws_FnExactProjectionOf.j1
   repeat' first
   | (with_reducible exact ih0 _ _ _ _ _ _ _ _ _ _ _ _)
   | (with_reducible exact ih1 _ _ _ _ _ _ _ _)
   | (with_reducible exact ih2 _ _ _)
   | (with_reducible exact impl_ProjectionOf.mono _ _ _ _ _)
   | (with_reducible exact laws_eqAlphabet.mono _ _ _ _ _)
   | (with_reducible exact laws_eqInt64S.mono _ _ _)
   | (with_reducible exact laws_heldInt64S.mono _ _ _)
   | (with_reducible exact laws_markAlphabet.mono _ _ _ _)
   | (with_reducible exact laws_markInt64S.mono _ _ _)
   | (with_reducible exact laws_toAlphabet.mono _ _ _)
   | (with_reducible exact laws_toInt64S.mono _ _)
   | (with_reducible exact spec_ProjectionOf.mono _ _ _ _ _)
   | (with_reducible exact LeO.refl _)
   | (with_reducible exact LeO.none _)
   | (with_reducible refine LeO.ite ?_ ?_)
   | (with_reducible refine LeO.bind ?_ (fun _ => ?_))
   | exact ih0 _ _ _ _ _ _ _ _ _ _ _ _
   | exact ih1 _ _ _ _ _ _ _ _
   | exact ih2 _ _ _
   | exact impl_ProjectionOf.mono _ _ _ _ _
   | exact laws_eqAlphabet.mono _ _ _ _ _
   | exact laws_eqInt64S.mono _ _ _
   | exact laws_heldInt64S.mono _ _ _
   | exact laws_markAlphabet.mono _ _ _ _
   | exact laws_markInt64S.mono _ _ _
   | exact laws_toAlphabet.mono _ _ _
   | exact laws_toInt64S.mono _ _
   | exact spec_ProjectionOf.mono _ _ _ _ _
   | exact LeO.none _
   | refine LeO.ite ?_ ?_
   | refine LeO.bind ?_ (fun _ => ?_)
  ·intro y0 y1 y2
   unfold laws_FnExactProjectionOf.j2
   repeat' first
   | (with_reducible exact ih0 _ _ _ _ _ _ _ _ _ _ _ _)
   | (with_reducible exact ih1 _ _ _ _ _ _ _ _)
   | (with_reducible exact ih2 _ _ _)
   | (with_reducible exact impl_ProjectionOf.mono _ _ _ _ _)
   | (with_reducible exact laws_eqAlphabet.mono _ _ _ _ _)
   | (with_reducible exact laws_eqInt64S.mono _ _ _)
   | (with_reducible exact laws_heldInt64S.mono _ _ _)
   | (with_reducible exact laws_markAlphabet.mono _ _ _ _)
   | (with_reducible exact laws_markInt64S.mono _ _ _)
   | (with_reducible exact laws_toAlphabet.mono _ _ _)
   | (with_reducible exact laws_toInt64S.mono _ _)
   | (with_reducible exact spec_ProjectionOf.mono _ _ _ _ _)
   | (with_reducible exact LeO.refl _)
   | (with_reducible exact LeO.none _)
   | (with_reducible refine LeO.ite ?_ ?_)
   | (with_reducible refine LeO.bind ?_ (fun _ => ?_))
   | exact ih0 _ _ _ _ _ _ _ _ _ _ _ _
   | exact ih1 _ _ _ _ _ _ _ _
   | exact ih2 _ _ _
   | exact impl_ProjectionOf.mono _ _ _ _ _
   | exact laws_eqAlphabet.mono _ _ _ _ _
   | exact laws_eqInt64S.mono _ _ _
   | exact laws_heldInt64S.mono _ _ _
   | exact laws_markAlphabet.mono _ _ _ _
   | exact laws_markInt64S.mono _ _ _
   | exact laws_toAlphabet.mono _ _ _
   | exact laws_toInt64S.mono _ _
   | exact spec_ProjectionOf.mono _ _ _ _ _
   | exact LeO.none _
   | refine LeO.ite ?_ ?_
   | refine LeO.bind ?_ (fun _ => ?_)
theorem laws_FnExactProjectionOf.mono : ∀ a0 a1 a2 a3 k, LeO (laws_FnExactProjectionOf.f k a0 a1 a2 a3) (laws_FnExactProjectionOf.f (k + 1) a0 a1 a2 a3) := by
 intro a0 a1 a2 a3 k
 obtain ⟨ih0, ih1, ih2⟩ := laws_FnExactProjectionOf.mono_l k
 unfold laws_FnExactProjectionOf.f
 repeat' first
   | (with_reducible exact ih0 _ _ _ _ _ _ _ _ _ _ _ _)
   | (with_reducible exact ih1 _ _ _ _ _ _ _ _)
   | (with_reducible exact ih2 _ _ _)
   | (with_reducible exact impl_ProjectionOf.mono _ _ _ _ _)
   | (with_reducible exact laws_eqAlphabet.mono _ _ _ _ _)
   | (with_reducible exact laws_eqInt64S.mono _ _ _)
   | (with_reducible exact laws_heldInt64S.mono _ _ _)
   | (with_reducible exact laws_markAlphabet.mono _ _ _ _)
   | (with_reducible exact laws_markInt64S.mono _ _ _)
   | (with_reducible exact laws_toAlphabet.mono _ _ _)
   | (with_reducible exact laws_toInt64S.mono _ _)
   | (with_reducible exact spec_ProjectionOf.mono _ _ _ _ _)
   | (with_reducible exact LeO.refl _)
   | (with_reducible exact LeO.none _)
   | (with_reducible refine LeO.ite ?_ ?_)
   | (with_reducible refine LeO.bind ?_ (fun _ => ?_))
   | exact ih0 _ _ _ _ _ _ _ _ _ _ _ _
   | exact ih1 _ _ _ _ _ _ _ _
   | exact ih2 _ _ _
   | exact impl_ProjectionOf.mono _ _ _ _ _
   | exact laws_eqAlphabet.mono _ _ _ _ _
   | exact laws_eqInt64S.mono _ _ _
   | exact laws_heldInt64S.mono _ _ _
   | exact laws_markAlphabet.mono _ _ _ _
   | exact laws_markInt64S.mono _ _ _
   | exact laws_toAlphabet.mono _ _ _
   | exact laws_toInt64S.mono _ _
   | exact spec_ProjectionOf.mono _ _ _ _ _
   | exact LeO.none _
   | refine LeO.ite ?_ ?_
   | refine LeO.bind ?_ (fun _ => ?_)
set_option maxHeartbeats 8000000 in
set_option maxRecDepth 100000 in
theorem laws_FnExactProjectionOf.calls (k : Nat) (a0_0 : Int) (A0_1 : Option Addr) (c0_1 : Nat) (l0_1 : List Int) (A1 : Option Addr) (c1 : Nat) (l1 : List Int) (a2 : Int) (r : Bool) (w : World) (hr0_1 : Kd.C (Kd.int .i64) w A0_1 l0_1.length l0_1) (hc0_1 : l0_1.length ≤ c0_1) (hr1 : Kd.C (Kd.int .i64) w A1 l1.length l1) (hc1 : l1.length ≤ c1) (hT : TabW w) (h : laws_FnExactProjectionOf.f k a0_0 l0_1 l1 a2 = some r) :
  Calls Tryd.prog 11 #[.agg #[.int .i64 a0_0, .slice A0_1 l0_1.length c0_1], .slice A1 l1.length c1, .int .i64 a2] w fun e w' => e = .returned (.bool r) ∧ Below w.heap.size w w' := by
 have hu24 := Tryd.underlying24; have hu28 := Tryd.underlying28; have HT := Aside0.mk hT; clear hT; have HR0_1 := Aside0.mk hr0_1; have HC0_1 := Aside0.mk hc0_1; clear hr0_1 hc0_1; have HR1 := Aside0.mk hr1; have HC1 := Aside0.mk hc1; clear hr1 hc1; have HB := Aside0.mk (Below.refl w.heap.size w)
 have H : (if (l1.length : Int) > 1048576 then (some true) else ((laws_szAlphabet.f a0_0 l0_1 1048576).bind fun t936 => (if t936 < 0 then (some true) else ((laws_toAlphabet.f k a0_0 l0_1).bind fun bt937 => ((laws_toInt64S.f k l1).bind fun t941 => ((spec_ProjectionOf.f k bt937.1 bt937.2 t941 a2).bind fun bt944 => ((laws_toAlphabet.f k a0_0 l0_1).bind fun bt948 => ((laws_toInt64S.f k l1).bind fun t953 => ((impl_ProjectionOf.f k bt948.1 bt948.2 t953 a2).bind fun bt956 => ((laws_eqInt64S.f k bt956.1 bt944.1).bind fun t960 => (if t960 = true then (laws_FnExactProjectionOf.j0 k l1 a2 bt944.1 bt944.2 t953 bt956.1 bt956.2 (bt956.2 != bt944.2) a0_0 l0_1 bt948.1 bt948.2) else (laws_FnExactProjectionOf.j0 k l1 a2 bt944.1 bt944.2 t953 bt956.1 bt956.2 true a0_0 l0_1 bt948.1 bt948.2)))))))))))) = some r := h
 clear h
 by_cases c4 : (l1.length : Int) > 1048576
 ·rw [if_pos c4] at H
  have c4b0 : decide (1048576 < (l1.length : Int)) = true := decide_eq_true c4
  have c4b1 : decide (1048576 < l1.length) = true := decide_eq_true (by omega)
  clear c4
  obtain rfl := Option.some.inj H
  go_enter Tryd.func11, Tryd.ntmps11
  go_wp2_with (first | ((with_reducible refine gate_dst (N := 3) rfl ?_); refine box_event ?hg (N := 3) ?hd (cs := #[.int .i64 a0_0, .slice A0_1 l0_1.length c0_1]) (t := 24) ?hr ?_; (case hd => rfl); (case hg => rfl); (case hr => first | (go_simp; done) | (go_simp; rfl)); intro gb935 hg w5 hbox hb; have BK935 := Aside0.mk (hbox); have GW935 := Aside0.mk ((by rw [hg]; exact (below_size (beQ HB)) : w.heap.size ≤ gb935)); have GE935 := Aside0.mk ((by rw [hg]; exact (below_size (beQ HB)) : w.heap.size ≤ gb935)); replace HB := Aside0.mk (below_step (beQ HB) hb); clear hb hbox hg))
  go_ret
  exact ⟨rz, beQ HB⟩
 ·rw [if_neg c4] at H
  have c4b0 : decide (1048576 < (l1.length : Int)) = false := decide_eq_false c4
  have c4b1 : decide (1048576 < l1.length) = false := decide_eq_false (by omega)
  clear c4; replace H := Option.bind_eq_some_iff.mp H; obtain ⟨t936, A60, H⟩ := H
  replace H : (if t936 < 0 then (some true) else ((laws_toAlphabet.f k a0_0 l0_1).bind fun bt937 => ((laws_toInt64S.f k l1).bind fun t941 => ((spec_ProjectionOf.f k bt937.1 bt937.2 t941 a2).bind fun bt944 => ((laws_toAlphabet.f k a0_0 l0_1).bind fun bt948 => ((laws_toInt64S.f k l1).bind fun t953 => ((impl_ProjectionOf.f k bt948.1 bt948.2 t953 a2).bind fun bt956 => ((laws_eqInt64S.f k bt956.1 bt944.1).bind fun t960 => (if t960 = true then (laws_FnExactProjectionOf.j0 k l1 a2 bt944.1 bt944.2 t953 bt956.1 bt956.2 (bt956.2 != bt944.2) a0_0 l0_1 bt948.1 bt948.2) else (laws_FnExactProjectionOf.j0 k l1 a2 bt944.1 bt944.2 t953 bt956.1 bt956.2 true a0_0 l0_1 bt948.1 bt948.2)))))))))) = some r := H
  have A6 := Aside0.mk A60; clear A60
  by_cases c7 : t936 < 0
  ·rw [if_pos c7] at H
   have c7b0 : decide (t936 < 0) = true := decide_eq_true c7
   clear c7
   obtain rfl := Option.some.inj H
   go_enter Tryd.func11, Tryd.ntmps11
   go_wp2_with (first | ((with_reducible refine gate_dst (N := 3) rfl ?_); refine box_event ?hg (N := 3) ?hd (cs := #[.int .i64 a0_0, .slice A0_1 l0_1.length c0_1]) (t := 24) ?hr ?_; (case hd => rfl); (case hg => rfl); (case hr => first | (go_simp; done) | (go_simp; rfl)); intro gb935 hg w8 hbox hb; have BK935 := Aside0.mk (hbox); have GW935 := Aside0.mk ((by rw [hg]; exact (below_size (beQ HB)) : w.heap.size ≤ gb935)); have GE935 := Aside0.mk ((by rw [hg]; exact (below_size (beQ HB)) : w.heap.size ≤ gb935)); replace HB := Aside0.mk (below_step (beQ HB) hb); clear hb hbox hg; have hcz9_0 : w8.cell? ⟨gb935, 0, none⟩ = some (.int .i64 a0_0) := bc BK935 0; have hcz9_1 : w8.cell? ⟨gb935, 1, none⟩ = some (.slice A0_1 l0_1.length c0_1) := bc BK935 1; have hfz9_0 := blk_frozen BK935.out 0; have hfz9_1 := blk_frozen BK935.out 1) | ((with_reducible refine gate_callee (f := 15) rfl ?_); refine goesL_ (some 24) rfl rfl Tryd.func15 (by kernel_rfl) rfl #[.agg #[.int .i64 a0_0, .slice A0_1 l0_1.length c0_1], .int .i64 1048576] rfl lz ?_; (with_reducible refine (laws_szAlphabet.calls a0_0 _ _ l0_1 1048576 t936 _ ?side1 ?side2 A6.out).mono ?_); (case side1 => have q_ := Aside0.mk (Kd.C_below HR0_1.out HB.out); exact cQ q_); (case side2 => exact HC0_1.out); rintro e w10 ⟨rfl, hb⟩; refine ⟨_, rfl, ?_⟩; replace BK935 := bb BK935 hb; replace HB := Aside0.mk (below_step (beQ HB) hb); (try clear hb); (try clear hb2); (try clear hk); (try clear hi)))
   go_ret
   exact ⟨rz, beQ HB⟩
  ·rw [if_neg c7] at H
   have c7b0 : decide (t936 < 0) = false := decide_eq_false c7
   clear c7; replace H := Option.bind_eq_some_iff.mp H
   obtain ⟨⟨t937, t938⟩, A110, H⟩ := H
   replace H : ((laws_toInt64S.f k l1).bind fun t941 => ((spec_ProjectionOf.f k t937 t938 t941 a2).bind fun bt944 => ((laws_toAlphabet.f k a0_0 l0_1).bind fun bt948 => ((laws_toInt64S.f k l1).bind fun t953 => ((impl_ProjectionOf.f k bt948.1 bt948.2 t953 a2).bind fun bt956 => ((laws_eqInt64S.f k bt956.1 bt944.1).bind fun t960 => (if t960 = true then (laws_FnExactProjectionOf.j0 k l1 a2 bt944.1 bt944.2 t953 bt956.1 bt956.2 (bt956.2 != bt944.2) a0_0 l0_1 bt948.1 bt948.2) else (laws_FnExactProjectionOf.j0 k l1 a2 bt944.1 bt944.2 t953 bt956.1 bt956.2 true a0_0 l0_1 bt948.1 bt948.2)))))))) = some r := H
   have A11 := Aside0.mk A110; clear A110; replace H := Option.bind_eq_some_iff.mp H; obtain ⟨t941, A120, H⟩ := H
   replace H : ((spec_ProjectionOf.f k t937 t938 t941 a2).bind fun bt944 => ((laws_toAlphabet.f k a0_0 l0_1).bind fun bt948 => ((laws_toInt64S.f k l1).bind fun t953 => ((impl_ProjectionOf.f k bt948.1 bt948.2 t953 a2).bind fun bt956 => ((laws_eqInt64S.f k bt956.1 bt944.1).bind fun t960 => (if t960 = true then (laws_FnExactProjectionOf.j0 k l1 a2 bt944.1 bt944.2 t953 bt956.1 bt956.2 (bt956.2 != bt944.2) a0_0 l0_1 bt948.1 bt948.2) else (laws_FnExactProjectionOf.j0 k l1 a2 bt944.1 bt944.2 t953 bt956.1 bt956.2 true a0_0 l0_1 bt948.1 bt948.2))))))) = some r := H
   have A12 := Aside0.mk A120; clear A120; replace H := Option.bind_eq_some_iff.mp H
   obtain ⟨⟨t944, t947⟩, A130, H⟩ := H
   replace H : ((laws_toAlphabet.f k a0_0 l0_1).bind fun bt948 => ((laws_toInt64S.f k l1).bind fun t953 => ((impl_ProjectionOf.f k bt948.1 bt948.2 t953 a2).bind fun bt956 => ((laws_eqInt64S.f k bt956.1 t944).bind fun t960 => (if t960 = true then (laws_FnExactProjectionOf.j0 k l1 a2 t944 t947 t953 bt956.1 bt956.2 (bt956.2 != t947) a0_0 l0_1 bt948.1 bt948.2) else (laws_FnExactProjectionOf.j0 k l1 a2 t944 t947 t953 bt956.1 bt956.2 true a0_0 l0_1 bt948.1 bt948.2)))))) = some r := H
   have A13 := Aside0.mk A130; clear A130; replace H := Option.bind_eq_some_iff.mp H
   obtain ⟨⟨t948, t949⟩, A140, H⟩ := H
   replace H : ((laws_toInt64S.f k l1).bind fun t953 => ((impl_ProjectionOf.f k t948 t949 t953 a2).bind fun bt956 => ((laws_eqInt64S.f k bt956.1 t944).bind fun t960 => (if t960 = true then (laws_FnExactProjectionOf.j0 k l1 a2 t944 t947 t953 bt956.1 bt956.2 (bt956.2 != t947) a0_0 l0_1 t948 t949) else (laws_FnExactProjectionOf.j0 k l1 a2 t944 t947 t953 bt956.1 bt956.2 true a0_0 l0_1 t948 t949))))) = some r := H
   have A14 := Aside0.mk A140; clear A140; replace H := Option.bind_eq_some_iff.mp H; obtain ⟨t953, A150, H⟩ := H
   replace H : ((impl_ProjectionOf.f k t948 t949 t953 a2).bind fun bt956 => ((laws_eqInt64S.f k bt956.1 t944).bind fun t960 => (if t960 = true then (laws_FnExactProjectionOf.j0 k l1 a2 t944 t947 t953 bt956.1 bt956.2 (bt956.2 != t947) a0_0 l0_1 t948 t949) else (laws_FnExactProjectionOf.j0 k l1 a2 t944 t947 t953 bt956.1 bt956.2 true a0_0 l0_1 t948 t949)))) = some r := H
   have A15 := Aside0.mk A150; clear A150; replace H := Option.bind_eq_some_iff.mp H
   obtain ⟨⟨t956, t959⟩, A160, H⟩ := H
   replace H : ((laws_eqInt64S.f k t956 t944).bind fun t960 => (if t960 = true then (laws_FnExactProjectionOf.j0 k l1 a2 t944 t947 t953 t956 t959 (t959 != t947) a0_0 l0_1 t948 t949) else (laws_FnExactProjectionOf.j0 k l1 a2 t944 t947 t953 t956 t959 true a0_0 l0_1 t948 t949))) = some r := H
   have A16 := Aside0.mk A160; clear A160; have HC17 := Aside0.mk H; clear H
   go_enter Tryd.func11, Tryd.ntmps11
   go_upto_region 11 with (first | ((with_reducible refine gate_dst (N := 3) rfl ?_); refine box_event ?hg (N := 3) ?hd (cs := #[.int .i64 a0_0, .slice A0_1 l0_1.length c0_1]) (t := 24) ?hr ?_; (case hd => rfl); (case hg => rfl); (case hr => first | (go_simp; done) | (go_simp; rfl)); intro gb935 hg w18 hbox hb; have BK935 := Aside0.mk (hbox); have GW935 := Aside0.mk ((by rw [hg]; exact (below_size (beQ HB)) : w.heap.size ≤ gb935)); have GE935 := Aside0.mk ((by rw [hg]; exact (below_size (beQ HB)) : w.heap.size ≤ gb935)); replace HB := Aside0.mk (below_step (beQ HB) hb); clear hb hbox hg; have hcz19_0 : w18.cell? ⟨gb935, 0, none⟩ = some (.int .i64 a0_0) := bc BK935 0; have hcz19_1 : w18.cell? ⟨gb935, 1, none⟩ = some (.slice A0_1 l0_1.length c0_1) := bc BK935 1; have hfz19_0 := blk_frozen BK935.out 0; have hfz19_1 := blk_frozen BK935.out 1) | ((with_reducible refine gate_callee (f := 15) rfl ?_); refine goesL_ (some 24) rfl rfl Tryd.func15 (by kernel_rfl) rfl #[.agg #[.int .i64 a0_0, .slice A0_1 l0_1.length c0_1], .int .i64 1048576] rfl lz ?_; (with_reducible refine (laws_szAlphabet.calls a0_0 _ _ l0_1 1048576 t936 _ ?side1 ?side2 A6.out).mono ?_); (case side1 => have q_ := Aside0.mk (Kd.C_below HR0_1.out HB.out); exact cQ q_); (case side2 => exact HC0_1.out); rintro e w20 ⟨rfl, hb⟩; refine ⟨_, rfl, ?_⟩; replace BK935 := bb BK935 hb; replace HB := Aside0.mk (below_step (beQ HB) hb); (try clear hb); (try clear hb2); (try clear hk); (try clear hi); have hcz21_0 : w20.cell? ⟨gb935, 0, none⟩ = some (.int .i64 a0_0) := bc BK935 0; have hcz21_1 : w20.cell? ⟨gb935, 1, none⟩ = some (.slice A0_1 l0_1.length c0_1) := bc BK935 1; have hfz21_0 := blk_frozen BK935.out 0; have hfz21_1 := blk_frozen BK935.out 1) | ((with_reducible refine gate_callee (f := 17) rfl ?_); refine goesL_ (some 29) rfl rfl Tryd.func17 (by kernel_rfl) rfl #[.agg #[.int .i64 a0_0, .slice A0_1 l0_1.length c0_1]] rfl lz ?_; (with_reducible refine (laws_toAlphabet.calls k a0_0 _ _ l0_1 t937 t938 _ ?side1 ?side2 A11.out).mono ?_); (case side1 => have q_ := Aside0.mk (Kd.C_below HR0_1.out HB.out); exact cQ q_); (case side2 => exact HC0_1.out); rintro e w22 ⟨v939, rfl, ho0, hb⟩; refine ⟨_, rfl, ?_⟩; have HO940 := Aside0.mk (Kd.R_lower ho0 (below_size (beQ HB))); replace BK935 := bb BK935 hb; replace HB := Aside0.mk (below_step (beQ HB) hb); (try clear hb); (try clear hb2); (try clear hk); (try clear hi); (try clear ho0)) | ((with_reducible refine gate_callee (f := 18) rfl ?_); refine goesL_ (some 31) rfl rfl Tryd.func18 (by kernel_rfl) rfl #[.slice A1 l1.length c1] rfl lz ?_; (with_reducible refine (laws_toInt64S.calls k _ _ l1 t941 _ ?side1 ?side2 A12.out).mono ?_); (case side1 => have q_ := Aside0.mk (Kd.C_below HR1.out HB.out); exact cQ q_); (case side2 => exact HC1.out); rintro e w23 ⟨v942, rfl, ho0, hb⟩; refine ⟨_, rfl, ?_⟩; have HO943 := Aside0.mk (Kd.R_lower (Kd.R_new' ho0 (Kd.R_lt (kdQ HO940))) (below_size (beQ HB))); replace HO940 := Aside0.mk (Kd.R_elder' (kdQ HO940) (Kd.R_base ho0) hb); replace BK935 := bb BK935 hb; replace HB := Aside0.mk (below_step (beQ HB) hb); (try clear hb); (try clear hb2); (try clear hk); (try clear hi); (try clear ho0); obtain ⟨Ao24, co24, eo24⟩ := Kd.R_slice HO940.out; subst eo24; obtain ⟨Ao25, co25, eo25⟩ := Kd.R_slice HO943.out; subst eo25) | ((with_reducible refine gate_callee (f := 42) rfl ?_); refine goesL_ (some 33) rfl rfl Tryd.func42 (by kernel_rfl) rfl #[.agg #[.int .i64 t937, .slice Ao24 t938.length co24], .slice Ao25 t941.length co25, .int .i64 a2] rfl lz ?_; (with_reducible refine (spec_ProjectionOf.calls k t937 _ _ t938 _ _ t941 a2 t944 t947 _ ?side1 ?side2 ?side3 ?side4 A13.out).mono ?_); (case side1 => have q_ := Aside0.mk (Kd.R_reads' HO940.out).2.2; exact cQ q_); (case side2 => exact (Kd.R_reads' HO940.out).2.1); (case side3 => have q_ := Aside0.mk (Kd.R_reads' HO943.out).2.2; exact cQ q_); (case side4 => exact (Kd.R_reads' HO943.out).2.1); rintro e w26 ⟨v945, rfl, ho0, hb⟩; refine ⟨_, rfl, ?_⟩; have HO946 := Aside0.mk (Kd.R_lower (Kd.R_new' (Kd.R_new' ho0 (Kd.R_lt (kdQ HO940))) (Kd.R_lt (kdQ HO943))) (below_size (beQ HB))); replace HO940 := Aside0.mk (Kd.R_elder' (kdQ HO940) (Kd.R_base ho0) hb); replace HO943 := Aside0.mk (Kd.R_elder' (kdQ HO943) (Kd.R_base ho0) hb); replace BK935 := bb BK935 hb; replace HB := Aside0.mk (below_step (beQ HB) hb); (try clear hb); (try clear hb2); (try clear hk); (try clear hi); (try clear ho0); have hcz27_0 : w26.cell? ⟨gb935, 0, none⟩ = some (.int .i64 a0_0) := bc BK935 0; have hcz27_1 : w26.cell? ⟨gb935, 1, none⟩ = some (.slice A0_1 l0_1.length c0_1) := bc BK935 1; have hfz27_0 := blk_frozen BK935.out 0; have hfz27_1 := blk_frozen BK935.out 1) | ((with_reducible refine gate_callee (f := 17) rfl ?_); refine goesL_ (some 37) rfl rfl Tryd.func17 (by kernel_rfl) rfl #[.agg #[.int .i64 a0_0, .slice A0_1 l0_1.length c0_1]] rfl lz ?_; (with_reducible refine (laws_toAlphabet.calls k a0_0 _ _ l0_1 t948 t949 _ ?side1 ?side2 A14.out).mono ?_); (case side1 => have q_ := Aside0.mk (Kd.C_below HR0_1.out HB.out); exact cQ q_); (case side2 => exact HC0_1.out); rintro e w28 ⟨v950, rfl, ho0, hb⟩; refine ⟨_, rfl, ?_⟩; have HO951 := Aside0.mk (Kd.R_lower (Kd.R_new' (Kd.R_new' (Kd.R_new' ho0 (Kd.R_lt (kdQ HO940))) (Kd.R_lt (kdQ HO943))) (Kd.R_lt (kdQ HO946))) (below_size (beQ HB))); replace HO940 := Aside0.mk (Kd.R_elder' (kdQ HO940) (Kd.R_base ho0) hb); replace HO943 := Aside0.mk (Kd.R_elder' (kdQ HO943) (Kd.R_base ho0) hb); replace HO946 := Aside0.mk (Kd.R_elder' (kdQ HO946) (Kd.R_base ho0) hb); replace BK935 := bb BK935 hb; replace HB := Aside0.mk (below_step (beQ HB) hb); (try clear hb); (try clear hb2); (try clear hk); (try clear hi); (try clear ho0)) | ((with_reducible refine gate_dst (N := 10) rfl ?_); refine box_event ?hg (N := 10) ?hd (cs := #[.int .i64 0, .slice none 0 0]) (t := 28) ?hr ?_; (case hd => rfl); (case hg => rfl); (case hr => first | (go_simp; done) | (go_simp; rfl)); intro gb952 hg w29 hbox hb; replace HO940 := kb HO940 hb; replace HO943 := kb HO943 hb; replace HO946 := kb HO946 hb; replace HO951 := kb HO951 hb; have BK952 := Aside0.mk (hbox); have GW952 := Aside0.mk ((by rw [hg]; exact (below_size (beQ HB)) : w.heap.size ≤ gb952)); have GE952 := Aside0.mk ((by rw [hg]; exact (below_size (beQ HB)) : w.heap.size ≤ gb952)); replace HB := Aside0.mk (below_step (beQ HB) hb); have NB935_952 := Aside0.mk ((by rw [hg]; exact Nat.ne_of_lt (blk_lt (blkQ BK935)) : gb935 ≠ gb952)); have NB952_935 := Aside0.mk ((by rw [hg]; exact Nat.ne_of_gt (blk_lt (blkQ BK935)) : gb952 ≠ gb935)); replace BK935 := bb BK935 hb; clear hb hbox hg; have hnb30 := NB952_935.out; have hnc30 := NB935_952.out; have hcz31_0 : w29.cell? ⟨gb952, 0, none⟩ = some (.int .i64 0) := bc BK952 0; have hcz31_1 : w29.cell? ⟨gb952, 1, none⟩ = some (.slice none 0 0) := bc BK952 1; have hfz31_0 := blk_frozen BK952.out 0; have hfz31_1 := blk_frozen BK952.out 1; obtain ⟨Ao32, co32, eo32⟩ := Kd.R_slice HO951.out; subst eo32) | ((with_reducible refine gate_callee (f := 18) rfl ?_); refine goesL_ (some 39) rfl rfl Tryd.func18 (by kernel_rfl) rfl #[.slice A1 l1.length c1] rfl lz ?_; (with_reducible refine (laws_toInt64S.calls k _ _ l1 t953 _ ?side1 ?side2 A15.out).mono ?_); (case side1 => exact Kd.C_below HR1.out (beQ HB)); (case side2 => exact HC1.out); rintro e w33 ⟨v954, rfl, ho0, hb⟩; refine ⟨_, rfl, ?_⟩; have HO955 := Aside0.mk (Kd.R_lower (Kd.R_new' (Kd.R_new' (Kd.R_new' (Kd.R_new' ho0 (Kd.R_lt (by (with_reducible repeat (first | apply Kd.R_alloc | apply Kd.R_drewN | apply Kd.R_drew)); exact (Kd.R_mono (Kd.R_far (p := ⟨gb952, 1, none⟩) (Kd.R_far (p := ⟨gb952, 0, none⟩) (Kd.R_types HO940.out BK952.out (by decide)) (fun _ hk => hk.2) (.int .i64 t948)) (fun _ hk => hk.2) (.slice Ao32 t949.length co32)) (fun _ h_ => h_.1))))) (Kd.R_lt (by (with_reducible repeat (first | apply Kd.R_alloc | apply Kd.R_drewN | apply Kd.R_drew)); exact (Kd.R_mono (Kd.R_far (p := ⟨gb952, 1, none⟩) (Kd.R_far (p := ⟨gb952, 0, none⟩) (Kd.R_types HO943.out BK952.out (by decide)) (fun _ hk => hk.2) (.int .i64 t948)) (fun _ hk => hk.2) (.slice Ao32 t949.length co32)) (fun _ h_ => h_.1))))) (Kd.R_lt (by (with_reducible repeat (first | apply Kd.R_alloc | apply Kd.R_drewN | apply Kd.R_drew)); exact (Kd.R_mono (Kd.R_far (p := ⟨gb952, 1, none⟩) (Kd.R_far (p := ⟨gb952, 0, none⟩) (Kd.R_types HO946.out BK952.out (by decide)) (fun _ hk => hk.2) (.int .i64 t948)) (fun _ hk => hk.2) (.slice Ao32 t949.length co32)) (fun _ h_ => h_.1))))) (Kd.R_lt (by (with_reducible repeat (first | apply Kd.R_alloc | apply Kd.R_drewN | apply Kd.R_drew)); exact (Kd.R_mono (Kd.R_far (p := ⟨gb952, 1, none⟩) (Kd.R_far (p := ⟨gb952, 0, none⟩) (Kd.R_types HO951.out BK952.out (by decide)) (fun _ hk => hk.2) (.int .i64 t948)) (fun _ hk => hk.2) (.slice Ao32 t949.length co32)) (fun _ h_ => h_.1))))) (below_size (beQ HB))); replace HO940 := Aside0.mk (Kd.R_elder' (by (with_reducible repeat (first | apply Kd.R_alloc | apply Kd.R_drewN | apply Kd.R_drew)); exact (Kd.R_mono (Kd.R_far (p := ⟨gb952, 1, none⟩) (Kd.R_far (p := ⟨gb952, 0, none⟩) (Kd.R_types HO940.out BK952.out (by decide)) (fun _ hk => hk.2) (.int .i64 t948)) (fun _ hk => hk.2) (.slice Ao32 t949.length co32)) (fun _ h_ => h_.1))) (Kd.R_base ho0) hb); replace HO943 := Aside0.mk (Kd.R_elder' (by (with_reducible repeat (first | apply Kd.R_alloc | apply Kd.R_drewN | apply Kd.R_drew)); exact (Kd.R_mono (Kd.R_far (p := ⟨gb952, 1, none⟩) (Kd.R_far (p := ⟨gb952, 0, none⟩) (Kd.R_types HO943.out BK952.out (by decide)) (fun _ hk => hk.2) (.int .i64 t948)) (fun _ hk => hk.2) (.slice Ao32 t949.length co32)) (fun _ h_ => h_.1))) (Kd.R_base ho0) hb); replace HO946 := Aside0.mk (Kd.R_elder' (by (with_reducible repeat (first | apply Kd.R_alloc | apply Kd.R_drewN | apply Kd.R_drew)); exact (Kd.R_mono (Kd.R_far (p := ⟨gb952, 1, none⟩) (Kd.R_far (p := ⟨gb952, 0, none⟩) (Kd.R_types HO946.out BK952.out (by decide)) (fun _ hk => hk.2) (.int .i64 t948)) (fun _ hk => hk.2) (.slice Ao32 t949.length co32)) (fun _ h_ => h_.1))) (Kd.R_base ho0) hb); replace HO951 := Aside0.mk (Kd.R_elder' (by (with_reducible repeat (first | apply Kd.R_alloc | apply Kd.R_drewN | apply Kd.R_drew)); exact (Kd.R_mono (Kd.R_far (p := ⟨gb952, 1, none⟩) (Kd.R_far (p := ⟨gb952, 0, none⟩) (Kd.R_types HO951.out BK952.out (by decide)) (fun _ hk => hk.2) (.int .i64 t948)) (fun _ hk => hk.2) (.slice Ao32 t949.length co32)) (fun _ h_ => h_.1))) (Kd.R_base ho0) hb); replace BK935 := Aside0.mk (blk_below (blkF BK935) hb); replace BK952 := Aside0.mk (blk_below (g := gb952) (o := .cells #[.int .i64 t948, .slice Ao32 t949.length co32] 28 (0, 0)) (by (with_reducible repeat (first | refine blk_drewN ?_ _ | refine blk_drew ?_ | refine blk_alloc ?_ _)); refine blk_put (cs := #[.int .i64 t948, .slice none 0 0]) ?_ 1 _ rfl; (with_reducible repeat (first | refine blk_drewN ?_ _ | refine blk_drew ?_ | refine blk_alloc ?_ _)); refine blk_put (cs := #[.int .i64 0, .slice none 0 0]) ?_ 0 _ rfl; (with_reducible repeat (first | refine blk_drewN ?_ _ | refine blk_drew ?_ | refine blk_alloc ?_ _)); exact BK952.out) hb); replace HB := Aside0.mk (below_step (beQ HB) hb); (try clear hb); (try clear hb2); (try clear hk); (try clear hi); (try clear ho0); have hcz34_0 : w33.cell? ⟨gb952, 0, none⟩ = some (.int .i64 t948) := bc BK952 0; have hcz34_1 : w33.cell? ⟨gb952, 1, none⟩ = some (.slice Ao32 t949.length co32) := bc BK952 1; have hfz34_0 := blk_frozen BK952.out 0; have hfz34_1 := blk_frozen BK952.out 1; obtain ⟨Ao35, co35, eo35⟩ := Kd.R_slice HO955.out; subst eo35) | ((with_reducible refine gate_callee (f := 43) rfl ?_); refine goesL_ (some 44) rfl rfl Tryd.func43 (by kernel_rfl) rfl #[.agg #[.int .i64 t948, .slice Ao32 t949.length co32], .slice Ao35 t953.length co35, .int .i64 a2] rfl lz ?_; (with_reducible refine (impl_ProjectionOf.calls k t948 _ _ t949 (fun k_ => some k_ = (.slice Ao35 t953.length co35 : Value).ownBlock) _ _ t953 a2 t956 t959 _ ?side1 ?side2 ?side3 ?side4 A16.out).mono ?_); (case side1 => have q_ := Aside0.mk (Kd.R_reads' HO951.out).2.2; exact cQ q_); (case side2 => exact (Kd.R_reads' HO951.out).2.1); (case side3 => exact Kd.R_V (Kd.R_tight rfl (Kd.R_types (Kd.R_types (HO955.out) BK935.out (by decide)) BK952.out (by decide)))); (case side4 => exact TabW.below HT.out (beQ HB)); rintro e w36 ⟨v957, rfl, ho0, hb⟩; refine ⟨_, rfl, ?_⟩; have HO958 := Aside0.mk (Kd.R_lower (Kd.R_new' (Kd.R_new' (Kd.R_new' (Kd.R_new' (Kd.R_new' (Kd.R_mono (ok' := fun k_ => True) ho0 (fun _ hk_ => trivial)) (Kd.R_lt (kdQ HO940))) (Kd.R_lt (kdQ HO943))) (Kd.R_lt (kdQ HO946))) (Kd.R_lt (kdQ HO951))) (Kd.R_lt (kdQ HO955))) (below_size (beQ HB))); replace HO940 := Aside0.mk (Kd.R_elder' (kdQ HO940) (Kd.R_base ho0) hb); replace HO943 := Aside0.mk (Kd.R_elder' (kdQ HO943) (Kd.R_base ho0) hb); replace HO946 := Aside0.mk (Kd.R_elder' (kdQ HO946) (Kd.R_base ho0) hb); replace HO951 := Aside0.mk (Kd.R_elder' (kdQ HO951) (Kd.R_base ho0) hb); replace HO955 := Aside0.mk (Kd.R_elder' (kdQ HO955) (Kd.R_base ho0) hb); replace BK935 := bb BK935 hb; replace BK952 := bb BK952 hb; replace HB := Aside0.mk (below_step (beQ HB) hb); (try clear hb); (try clear hb2); (try clear hk); (try clear hi); (try clear ho0)))
   (try simp only [Act.put, List.setIfInBounds_toArray, List.set_cons_zero, List.set_cons_succ])
   go_cut [55] (fun v55 wc => ∃ (kq : Nat) (x55_16 : Bool), v55 = .bool x55_16 ∧ Aside0 (laws_FnExactProjectionOf.j0 kq l1 a2 t944 t947 t953 t956 t959 x55_16 a0_0 l0_1 t948 t949 = some r) ∧ Aside0 (kq ≤ k) ∧ Aside0 (Kd.R (Kd.int .i64) 2 wc w.heap.size (fun k_ => some k_ ≠ ((.slice Ao35 t953.length co35) : Value).ownBlock ∧ some k_ ≠ (v957 : Value).ownBlock ∧ some k_ ≠ ((.slice Ao32 t949.length co32) : Value).ownBlock) v945 t944) ∧ Aside0 (Kd.R (Kd.int .i64) 2 wc w.heap.size (fun k_ => some k_ ≠ (v945 : Value).ownBlock ∧ some k_ ≠ (v957 : Value).ownBlock ∧ some k_ ≠ ((.slice Ao32 t949.length co32) : Value).ownBlock) (.slice Ao35 t953.length co35) t953) ∧ Aside0 (Kd.R (Kd.int .i64) 2 wc w.heap.size (fun k_ => some k_ ≠ (v945 : Value).ownBlock ∧ some k_ ≠ ((.slice Ao35 t953.length co35) : Value).ownBlock ∧ some k_ ≠ ((.slice Ao32 t949.length co32) : Value).ownBlock) v957 t956) ∧ Aside0 (Kd.R (Kd.int .i64) 2 wc w.heap.size (fun k_ => some k_ ≠ (v945 : Value).ownBlock ∧ some k_ ≠ ((.slice Ao35 t953.length co35) : Value).ownBlock ∧ some k_ ≠ (v957 : Value).ownBlock) (.slice Ao32 t949.length co32) t949) ∧ Aside0 (wc.heap[gb935]? = some (.cells #[.int .i64 a0_0, (.slice A0_1 l0_1.length c0_1)] 24 (0, 0))) ∧ Aside0 (wc.heap[gb952]? = some (.cells #[.int .i64 t948, (.slice Ao32 t949.length co32)] 28 (0, 0))) ∧ Aside0 (Below w.heap.size w wc))
   case first =>
    have H := HC17.out; clear HC17; replace H := Option.bind_eq_some_iff.mp H; obtain ⟨t960, A370, H⟩ := H
    replace H : (if t960 = true then (laws_FnExactProjectionOf.j0 k l1 a2 t944 t947 t953 t956 t959 (t959 != t947) a0_0 l0_1 t948 t949) else (laws_FnExactProjectionOf.j0 k l1 a2 t944 t947 t953 t956 t959 true a0_0 l0_1 t948 t949)) = some r := H
    have A37 := Aside0.mk A370; clear A370
    by_cases c38 : t960 = true
    ·subst c38
     have H1 : (laws_FnExactProjectionOf.j0 k l1 a2 t944 t947 t953 t956 t959 (t959 != t947) a0_0 l0_1 t948 t949) = some r := by rw [if_pos rfl] at H; exact H
     clear H; have H := H1; clear H1
     have H' := Aside0.mk H
     clear H; obtain ⟨Ao39, co39, eo39⟩ := Kd.R_slice HO958.out; subst eo39; obtain ⟨Ao40, co40, eo40⟩ := Kd.R_slice HO946.out; subst eo40
     go_wp2_with (first | ((with_reducible refine gate_callee (f := 21) rfl ?_); refine goesL_ (some 49) rfl rfl Tryd.func21 (by kernel_rfl) rfl #[.slice Ao39 t956.length co39, .slice Ao40 t944.length co40] rfl lz ?_; (with_reducible refine (laws_eqInt64S.calls k _ _ t956 _ _ t944 true _ ?side1 ?side2 ?side3 ?side4 A37.out).mono ?_); (case side1 => have q_ := Aside0.mk (Kd.R_reads' HO958.out).2.2; exact cQ q_); (case side2 => exact (Kd.R_reads' HO958.out).2.1); (case side3 => have q_ := Aside0.mk (Kd.R_reads' HO946.out).2.2; exact cQ q_); (case side4 => exact (Kd.R_reads' HO946.out).2.1); rintro e w' ⟨rfl, ⟨nd, rfl⟩⟩; refine ⟨_, rfl, ?_⟩))
     go_meet
     case rel => exact ⟨_, ((t959 != t947)), sz, H', ⟨by first | omega | exact Nat.le_refl _⟩, ⟨by (with_reducible repeat (first | apply Kd.R_alloc | apply Kd.R_drewN | apply Kd.R_drew)); exact Kd.R_mono HO946.out (fun _ hk => ⟨hk.1.2, ⟨hk.2, hk.1.1.2⟩⟩)⟩, ⟨by (with_reducible repeat (first | apply Kd.R_alloc | apply Kd.R_drewN | apply Kd.R_drew)); exact Kd.R_mono HO955.out (fun _ hk => ⟨hk.1.1.2, ⟨hk.2, hk.1.2⟩⟩)⟩, ⟨by (with_reducible repeat (first | apply Kd.R_alloc | apply Kd.R_drewN | apply Kd.R_drew)); exact Kd.R_mono HO958.out (fun _ hk => ⟨hk.1.1.2, ⟨hk.2, hk.1.2⟩⟩)⟩, ⟨by (with_reducible repeat (first | apply Kd.R_alloc | apply Kd.R_drewN | apply Kd.R_drew)); exact Kd.R_mono HO951.out (fun _ hk => ⟨hk.1.1.2, ⟨hk.1.2, hk.2⟩⟩)⟩, ⟨blkQ BK935⟩, ⟨blkQ BK952⟩, ⟨beQ HB⟩⟩
    ·replace c38 := Bool.eq_false_iff.mpr c38
     subst c38
     have H1 : (laws_FnExactProjectionOf.j0 k l1 a2 t944 t947 t953 t956 t959 true a0_0 l0_1 t948 t949) = some r := by rw [if_neg (show ¬ (false = true) by decide)] at H; exact H
     clear H; have H := H1; clear H1
     have H' := Aside0.mk H
     clear H; obtain ⟨Ao41, co41, eo41⟩ := Kd.R_slice HO958.out; subst eo41; obtain ⟨Ao42, co42, eo42⟩ := Kd.R_slice HO946.out; subst eo42
     go_wp2_with (first | ((with_reducible refine gate_callee (f := 21) rfl ?_); refine goesL_ (some 49) rfl rfl Tryd.func21 (by kernel_rfl) rfl #[.slice Ao41 t956.length co41, .slice Ao42 t944.length co42] rfl lz ?_; (with_reducible refine (laws_eqInt64S.calls k _ _ t956 _ _ t944 false _ ?side1 ?side2 ?side3 ?side4 A37.out).mono ?_); (case side1 => have q_ := Aside0.mk (Kd.R_reads' HO958.out).2.2; exact cQ q_); (case side2 => exact (Kd.R_reads' HO958.out).2.1); (case side3 => have q_ := Aside0.mk (Kd.R_reads' HO946.out).2.2; exact cQ q_); (case side4 => exact (Kd.R_reads' HO946.out).2.1); rintro e w' ⟨rfl, ⟨nd, rfl⟩⟩; refine ⟨_, rfl, ?_⟩))
     go_meet
     case rel => exact ⟨_, (true), sz, H', ⟨by first | omega | exact Nat.le_refl _⟩, ⟨by (with_reducible repeat (first | apply Kd.R_alloc | apply Kd.R_drewN | apply Kd.R_drew)); exact Kd.R_mono HO946.out (fun _ hk => ⟨hk.1.2, ⟨hk.2, hk.1.1.2⟩⟩)⟩, ⟨by (with_reducible repeat (first | apply Kd.R_alloc | apply Kd.R_drewN | apply Kd.R_drew)); exact Kd.R_mono HO955.out (fun _ hk => ⟨hk.1.1.2, ⟨hk.2, hk.1.2⟩⟩)⟩, ⟨by (with_reducible repeat (first | apply Kd.R_alloc | apply Kd.R_drewN | apply Kd.R_drew)); exact Kd.R_mono HO958.out (fun _ hk => ⟨hk.1.1.2, ⟨hk.2, hk.1.2⟩⟩)⟩, ⟨by (with_reducible repeat (first | apply Kd.R_alloc | apply Kd.R_drewN | apply Kd.R_drew)); exact Kd.R_mono HO951.out (fun _ hk => ⟨hk.1.1.2, ⟨hk.1.2, hk.2⟩⟩)⟩, ⟨blkQ BK935⟩, ⟨blkQ BK952⟩, ⟨beQ HB⟩⟩
   case rest =>
    clear HC17
    try clear c1
    try clear c2
    try clear p2
    try clear c3
    try clear c4
    try clear c4b0
    try clear c4b1
    try clear c7
    try clear c7b0
    try clear c11
    try clear c15
    try clear c17
    try clear c18
    try clear c21
    try clear c30
    try clear c38
    try clear c42
    try clear hcz19_0
    try clear hcz19_1
    try clear hcz21_0
    try clear hcz21_1
    try clear hcz27_0
    try clear hcz27_1
    try clear hcz31_0
    try clear hcz31_1
    try clear hcz34_0
    try clear hcz34_1
    try clear hcz9_0
    try clear hcz9_1
    try clear hfz19_0
    try clear hfz19_1
    try clear hfz21_0
    try clear hfz21_1
    try clear hfz27_0
    try clear hfz27_1
    try clear hfz31_0
    try clear hfz31_1
    try clear hfz34_0
    try clear hfz34_1
    try clear hfz9_0
    try clear hfz9_1
    obtain ⟨kq, x55_16, rfl, HA, HJ16, HO_8, HO_11, HO_12, HO_953001, BK935, BK952, HB⟩ := hcut
    cases kq with
    | zero => exact absurd HA.out (by simp [laws_FnExactProjectionOf.j0])
    | succ kj16 =>
     have H := HA.out; clear HA
     simp only [laws_FnExactProjectionOf.j0] at H
     by_cases c43 : x55_16 = true
     ·subst c43
      have H1 : (some false) = some r := by rw [if_pos rfl] at H; exact H
      clear H; have H := H1; clear H1
      obtain rfl := Option.some.inj H
      go_wp2
      go_ret
      exact ⟨rz, beQ HB⟩
     ·replace c43 := Bool.eq_false_iff.mpr c43
      subst c43
      have H1 : ((laws_toAlphabet.f kj16 a0_0 l0_1).bind fun bt961 => ((laws_eqAlphabet.f kj16 t948 t949 bt961.1 bt961.2).bind fun t965 => (if t965 = true then ((laws_toInt64S.f kj16 l1).bind fun t966 => ((laws_eqInt64S.f kj16 t953 t966).bind fun t969 => (if t969 = true then ((laws_markAlphabet.f kj16 t948 t949 1).bind fun bt970 => ((laws_markInt64S.f kj16 t953 bt970.1).bind fun bt972 => (if bt972.1 < 0 then (laws_FnExactProjectionOf.j1 kj16 l1 a2 t944 t947 t956 true a0_0 l0_1) else ((laws_eqInt64S.f kj16 t956 t944).bind fun t974 => (if t974 = true then (laws_FnExactProjectionOf.j1 kj16 l1 a2 t944 t947 t956 (t959 != t947) a0_0 l0_1) else (laws_FnExactProjectionOf.j1 kj16 l1 a2 t944 t947 t956 true a0_0 l0_1)))))) else (some false)))) else (some false)))) = some r := by rw [if_neg (show ¬ (false = true) by decide)] at H; exact H
      clear H; have H := H1; clear H1; replace H := Option.bind_eq_some_iff.mp H
      obtain ⟨⟨t961, t962⟩, A440, H⟩ := H
      replace H : ((laws_eqAlphabet.f kj16 t948 t949 t961 t962).bind fun t965 => (if t965 = true then ((laws_toInt64S.f kj16 l1).bind fun t966 => ((laws_eqInt64S.f kj16 t953 t966).bind fun t969 => (if t969 = true then ((laws_markAlphabet.f kj16 t948 t949 1).bind fun bt970 => ((laws_markInt64S.f kj16 t953 bt970.1).bind fun bt972 => (if bt972.1 < 0 then (laws_FnExactProjectionOf.j1 kj16 l1 a2 t944 t947 t956 true a0_0 l0_1) else ((laws_eqInt64S.f kj16 t956 t944).bind fun t974 => (if t974 = true then (laws_FnExactProjectionOf.j1 kj16 l1 a2 t944 t947 t956 (t959 != t947) a0_0 l0_1) else (laws_FnExactProjectionOf.j1 kj16 l1 a2 t944 t947 t956 true a0_0 l0_1)))))) else (some false)))) else (some false))) = some r := H
      have A44 := Aside0.mk A440; clear A440; replace H := Option.bind_eq_some_iff.mp H; obtain ⟨t965, A450, H⟩ := H
      replace H : (if t965 = true then ((laws_toInt64S.f kj16 l1).bind fun t966 => ((laws_eqInt64S.f kj16 t953 t966).bind fun t969 => (if t969 = true then ((laws_markAlphabet.f kj16 t948 t949 1).bind fun bt970 => ((laws_markInt64S.f kj16 t953 bt970.1).bind fun bt972 => (if bt972.1 < 0 then (laws_FnExactProjectionOf.j1 kj16 l1 a2 t944 t947 t956 true a0_0 l0_1) else ((laws_eqInt64S.f kj16 t956 t944).bind fun t974 => (if t974 = true then (laws_FnExactProjectionOf.j1 kj16 l1 a2 t944 t947 t956 (t959 != t947) a0_0 l0_1) else (laws_FnExactProjectionOf.j1 kj16 l1 a2 t944 t947 t956 true a0_0 l0_1)))))) else (some false)))) else (some false)) = some r := H
      have A45 := Aside0.mk A450; clear A450
      by_cases c46 : t965 = true
      ·subst c46
       have H1 : ((laws_toInt64S.f kj16 l1).bind fun t966 => ((laws_eqInt64S.f kj16 t953 t966).bind fun t969 => (if t969 = true then ((laws_markAlphabet.f kj16 t948 t949 1).bind fun bt970 => ((laws_markInt64S.f kj16 t953 bt970.1).bind fun bt972 => (if bt972.1 < 0 then (laws_FnExactProjectionOf.j1 kj16 l1 a2 t944 t947 t956 true a0_0 l0_1) else ((laws_eqInt64S.f kj16 t956 t944).bind fun t974 => (if t974 = true then (laws_FnExactProjectionOf.j1 kj16 l1 a2 t944 t947 t956 (t959 != t947) a0_0 l0_1) else (laws_FnExactProjectionOf.j1 kj16 l1 a2 t944 t947 t956 true a0_0 l0_1)))))) else (some false)))) = some r := by rw [if_pos rfl] at H; exact H
       clear H; have H := H1; clear H1; replace H := Option.bind_eq_some_iff.mp H; obtain ⟨t966, A470, H⟩ := H
       replace H : ((laws_eqInt64S.f kj16 t953 t966).bind fun t969 => (if t969 = true then ((laws_markAlphabet.f kj16 t948 t949 1).bind fun bt970 => ((laws_markInt64S.f kj16 t953 bt970.1).bind fun bt972 => (if bt972.1 < 0 then (laws_FnExactProjectionOf.j1 kj16 l1 a2 t944 t947 t956 true a0_0 l0_1) else ((laws_eqInt64S.f kj16 t956 t944).bind fun t974 => (if t974 = true then (laws_FnExactProjectionOf.j1 kj16 l1 a2 t944 t947 t956 (t959 != t947) a0_0 l0_1) else (laws_FnExactProjectionOf.j1 kj16 l1 a2 t944 t947 t956 true a0_0 l0_1)))))) else (some false))) = some r := H
       have A47 := Aside0.mk A470; clear A470; replace H := Option.bind_eq_some_iff.mp H; obtain ⟨t969, A480, H⟩ := H
       replace H : (if t969 = true then ((laws_markAlphabet.f kj16 t948 t949 1).bind fun bt970 => ((laws_markInt64S.f kj16 t953 bt970.1).bind fun bt972 => (if bt972.1 < 0 then (laws_FnExactProjectionOf.j1 kj16 l1 a2 t944 t947 t956 true a0_0 l0_1) else ((laws_eqInt64S.f kj16 t956 t944).bind fun t974 => (if t974 = true then (laws_FnExactProjectionOf.j1 kj16 l1 a2 t944 t947 t956 (t959 != t947) a0_0 l0_1) else (laws_FnExactProjectionOf.j1 kj16 l1 a2 t944 t947 t956 true a0_0 l0_1)))))) else (some false)) = some r := H
       have A48 := Aside0.mk A480; clear A480
       by_cases c49 : t969 = true
       ·subst c49
        have H1 : ((laws_markAlphabet.f kj16 t948 t949 1).bind fun bt970 => ((laws_markInt64S.f kj16 t953 bt970.1).bind fun bt972 => (if bt972.1 < 0 then (laws_FnExactProjectionOf.j1 kj16 l1 a2 t944 t947 t956 true a0_0 l0_1) else ((laws_eqInt64S.f kj16 t956 t944).bind fun t974 => (if t974 = true then (laws_FnExactProjectionOf.j1 kj16 l1 a2 t944 t947 t956 (t959 != t947) a0_0 l0_1) else (laws_FnExactProjectionOf.j1 kj16 l1 a2 t944 t947 t956 true a0_0 l0_1)))))) = some r := by rw [if_pos rfl] at H; exact H
        clear H; have H := H1; clear H1; replace H := Option.bind_eq_some_iff.mp H
        obtain ⟨⟨t970, t971⟩, A500, H⟩ := H
        replace H : ((laws_markInt64S.f kj16 t953 t970).bind fun bt972 => (if bt972.1 < 0 then (laws_FnExactProjectionOf.j1 kj16 l1 a2 t944 t947 t956 true a0_0 l0_1) else ((laws_eqInt64S.f kj16 t956 t944).bind fun t974 => (if t974 = true then (laws_FnExactProjectionOf.j1 kj16 l1 a2 t944 t947 t956 (t959 != t947) a0_0 l0_1) else (laws_FnExactProjectionOf.j1 kj16 l1 a2 t944 t947 t956 true a0_0 l0_1))))) = some r := H
        have A50 := Aside0.mk A500; clear A500; replace H := Option.bind_eq_some_iff.mp H
        obtain ⟨⟨t972, t973⟩, A510, H⟩ := H
        replace H : (if t972 < 0 then (laws_FnExactProjectionOf.j1 kj16 l1 a2 t944 t947 t956 true a0_0 l0_1) else ((laws_eqInt64S.f kj16 t956 t944).bind fun t974 => (if t974 = true then (laws_FnExactProjectionOf.j1 kj16 l1 a2 t944 t947 t956 (t959 != t947) a0_0 l0_1) else (laws_FnExactProjectionOf.j1 kj16 l1 a2 t944 t947 t956 true a0_0 l0_1)))) = some r := H
        have A51 := Aside0.mk A510; clear A510; have HC52 := Aside0.mk H; clear H
        try go_wp2
        replace HO_8 := Aside0.mk (Kd.R_drew HO_8.out); replace HO_11 := Aside0.mk (Kd.R_drew HO_11.out); replace HO_12 := Aside0.mk (Kd.R_drew HO_12.out); replace HO_953001 := Aside0.mk (Kd.R_drew HO_953001.out); replace BK935 := Aside0.mk (blk_drew BK935.out); replace BK952 := Aside0.mk (blk_drew BK952.out); replace HB := Aside0.mk (below_drew1 HB.out)
        refine start_ (n := 5) (S := fun w' => w'.cell? ⟨gb952, 0, none⟩ = some (.int .i64 t948) ∧ w'.cell? ⟨gb952, 1, none⟩ = some (.slice Ao32 t949.length co32) ∧ w'.cell? ⟨gb935, 0, none⟩ = some (.int .i64 a0_0) ∧ w'.cell? ⟨gb935, 1, none⟩ = some (.slice A0_1 l0_1.length c0_1)) (ds := []) #[false, false, false, false, false] (by kernel_rfl) rfl rfl ⟨bc BK952 0, bc BK952 1, bc BK935 0, bc BK935 1⟩ (fun hHeld => ?_)
        generalize wc.drew = w53 at HO_8 HO_11 HO_12 HO_953001 BK935 BK952 HB hHeld ⊢
        refine take_ (i := 0) (N := some 56) (v := ?_) (a' := ?_) #[true, false, false, false, false] rfl rfl (by kernel_rfl) (fun _ _ _ h => h) (Or.inl ⟨by rfl, ?_⟩) hHeld ?_ ?_
        rotate_left
        ·rintro w' ⟨s0, s1, s2, s3⟩
         go_simp
         with_reducible rfl
        rotate_left
        ·simp only [Act.put, s1, s2, s3, i64_w, i32_w]
         rfl
        refine take_ (i := 1) (N := some 57) (v := ?_) (a' := ?_) #[true, true, false, false, false] rfl rfl (by kernel_rfl) (fun _ _ _ h => h) (Or.inl ⟨by rfl, ?_⟩) hHeld ?_ ?_
        rotate_left
        ·rintro w' ⟨s0, s1, s2, s3⟩
         go_simp
         with_reducible rfl
        rotate_left
        ·simp only [Act.put, s1, s2, s3, i64_w, i32_w]
         rfl
        refine one_ (i := 2) (N := some 58) #[true, true, true, false, false] rfl rfl (by kernel_rfl) (by decide) (fun K hK => ?_)
        refine goes_ Tryd.func17 (by kernel_rfl) rfl #[.agg #[.int .i64 a0_0, .slice A0_1 l0_1.length c0_1]] (by rfl) rfl rfl lz ?_
        with_reducible refine (laws_toAlphabet.calls kj16 a0_0 _ _ l0_1 t961 t962 _ ?side1 ?side2 A44.out).mono ?_
        (case side1 => have q_ := Aside0.mk (Kd.C_below HR0_1.out HB.out); exact cQ q_)
        (case side2 => exact HC0_1.out)
        rintro e w54 ⟨v963, rfl, ho0, hb⟩
        refine ⟨_, rfl, ?_⟩
        have HO964 := Aside0.mk (Kd.R_lower (Kd.R_new' (Kd.R_new' (Kd.R_new' (Kd.R_new' ho0 (Kd.R_lt (kdQ HO_8))) (Kd.R_lt (kdQ HO_11))) (Kd.R_lt (kdQ HO_12))) (Kd.R_lt (kdQ HO_953001))) (below_size (beQ HB))); replace HO_8 := Aside0.mk (Kd.R_elder' (kdQ HO_8) (Kd.R_base ho0) hb); replace HO_11 := Aside0.mk (Kd.R_elder' (kdQ HO_11) (Kd.R_base ho0) hb); replace HO_12 := Aside0.mk (Kd.R_elder' (kdQ HO_12) (Kd.R_base ho0) hb); replace HO_953001 := Aside0.mk (Kd.R_elder' (kdQ HO_953001) (Kd.R_base ho0) hb); replace BK935 := bb BK935 hb; replace BK952 := bb BK952 hb; replace HB := Aside0.mk (below_step (beQ HB) hb)
        (try clear hb)
        (try clear hb2)
        (try clear hk)
        (try clear hi)
        (try clear ho0)
        obtain ⟨Ao55, co55, eo55⟩ := Kd.R_slice HO964.out
        (first | subst eo55 | (injection eo55 with f1_ f2_ f3_; have f4_ := f1_.symm; have f5_ := f3_.symm; clear f1_ f2_ f3_; subst f4_; subst f5_))
        refine hK.out _ _ ⟨bc BK952 0, bc BK952 1, bc BK935 0, bc BK935 1⟩ (fun hHeld => ?_)
        clear hK K
        refine norm_ (a' := ?_) ?_ ?_
        rotate_left
        ·show Act.put _ (some 58) _ = _
         simp only [Act.put, s1, s2, s3, i64_w, i32_w]
         rfl
        refine one_ (i := 3) (N := some 59) #[true, true, true, true, false] rfl rfl (by kernel_rfl) (by decide) (fun K hK => ?_)
        refine goes_ Tryd.func20 (by kernel_rfl) rfl #[.agg #[.int .i64 t948, .slice Ao32 t949.length co32], .agg #[.int .i64 t961, .slice Ao55 t962.length co55]] (by rfl) rfl rfl lz ?_
        with_reducible refine (laws_eqAlphabet.calls kj16 t948 _ _ t949 t961 _ _ t962 true _ ?side1 ?side2 ?side3 ?side4 A45.out).mono ?_
        (case side1 => have q_ := Aside0.mk (Kd.R_reads' HO_953001.out).2.2; exact cQ q_)
        (case side2 => exact (Kd.R_reads' HO_953001.out).2.1)
        (case side3 => have q_ := Aside0.mk (Kd.R_reads' HO964.out).2.2; exact cQ q_)
        (case side4 => exact (Kd.R_reads' HO964.out).2.1)
        rintro e w56 ⟨rfl, hb⟩
        refine ⟨_, rfl, ?_⟩
        replace HO_8 := kb HO_8 hb; replace HO_11 := kb HO_11 hb; replace HO_12 := kb HO_12 hb; replace HO_953001 := kb HO_953001 hb; replace HO964 := kb HO964 hb; replace BK935 := bb BK935 hb; replace BK952 := bb BK952 hb; replace HB := Aside0.mk (below_step (beQ HB) hb)
        (try clear hb)
        (try clear hb2)
        (try clear hk)
        (try clear hi)
        refine hK.out _ _ ⟨bc BK952 0, bc BK952 1, bc BK935 0, bc BK935 1⟩ (fun hHeld => ?_)
        clear hK K
        refine norm_ (a' := ?_) ?_ ?_
        rotate_left
        ·show Act.put _ (some 59) _ = _
         simp only [Act.put, s1, s2, s3, i64_w, i32_w]
         rfl
        refine pure_ (i := 4) (N := some 60) (v := ?_) (a' := ?_) #[true, true, true, true, true] rfl rfl (by kernel_rfl) (fun _ _ _ h => h) (Or.inl ⟨by rfl, ?_⟩) ?_ ?_
        rotate_left
        ·intro w'
         go_simp
         with_reducible rfl
        rotate_left
        ·simp only [Act.put, s1, s2, s3, i64_w, i32_w]
         rfl
        refine done_ (by kernel_rfl) ?_
        go_upto_region 20 with (first | ((with_reducible refine gate_callee (f := 18) rfl ?_); refine goesL_ (some 63) rfl rfl Tryd.func18 (by kernel_rfl) rfl #[.slice A1 l1.length c1] rfl lz ?_; (with_reducible refine (laws_toInt64S.calls kj16 _ _ l1 t966 _ ?side1 ?side2 A47.out).mono ?_); (case side1 => have q_ := Aside0.mk (Kd.C_below HR1.out HB.out); exact cQ q_); (case side2 => exact HC1.out); rintro e w57 ⟨v967, rfl, ho0, hb⟩; refine ⟨_, rfl, ?_⟩; have HO968 := Aside0.mk (Kd.R_lower (Kd.R_new' (Kd.R_new' (Kd.R_new' (Kd.R_new' (Kd.R_new' ho0 (Kd.R_lt (kdQ HO_8))) (Kd.R_lt (kdQ HO_11))) (Kd.R_lt (kdQ HO_12))) (Kd.R_lt (kdQ HO_953001))) (Kd.R_lt (kdQ HO964))) (below_size (beQ HB))); replace HO_8 := Aside0.mk (Kd.R_elder' (kdQ HO_8) (Kd.R_base ho0) hb); replace HO_11 := Aside0.mk (Kd.R_elder' (kdQ HO_11) (Kd.R_base ho0) hb); replace HO_12 := Aside0.mk (Kd.R_elder' (kdQ HO_12) (Kd.R_base ho0) hb); replace HO_953001 := Aside0.mk (Kd.R_elder' (kdQ HO_953001) (Kd.R_base ho0) hb); replace HO964 := Aside0.mk (Kd.R_elder' (kdQ HO964) (Kd.R_base ho0) hb); replace BK935 := bb BK935 hb; replace BK952 := bb BK952 hb; replace HB := Aside0.mk (below_step (beQ HB) hb); (try clear hb); (try clear hb2); (try clear hk); (try clear hi); (try clear ho0); obtain ⟨Ao58, co58, eo58⟩ := Kd.R_slice HO968.out; subst eo58) | ((with_reducible refine gate_callee (f := 21) rfl ?_); refine goesL_ (some 64) rfl rfl Tryd.func21 (by kernel_rfl) rfl #[.slice Ao35 t953.length co35, .slice Ao58 t966.length co58] rfl lz ?_; (with_reducible refine (laws_eqInt64S.calls kj16 _ _ t953 _ _ t966 true _ ?side1 ?side2 ?side3 ?side4 A48.out).mono ?_); (case side1 => have q_ := Aside0.mk (Kd.R_reads' HO_11.out).2.2; exact cQ q_); (case side2 => exact (Kd.R_reads' HO_11.out).2.1); (case side3 => have q_ := Aside0.mk (Kd.R_reads' HO968.out).2.2; exact cQ q_); (case side4 => exact (Kd.R_reads' HO968.out).2.1); rintro e w' ⟨rfl, ⟨nd, rfl⟩⟩; refine ⟨_, rfl, ?_⟩; have hnb59 := NB952_935.out; have hnc59 := NB935_952.out; have hcz60_0 : w57.cell? ⟨gb952, 0, none⟩ = some (.int .i64 t948) := bc BK952 0; have hcz60_1 : w57.cell? ⟨gb952, 1, none⟩ = some (.slice Ao32 t949.length co32) := bc BK952 1; have hfz60_0 := blk_frozen BK952.out 0; have hfz60_1 := blk_frozen BK952.out 1) | ((with_reducible refine gate_callee (f := 24) rfl ?_); refine goesL_ (some 68) rfl rfl Tryd.func24 (by kernel_rfl) rfl #[.agg #[.int .i64 t948, .slice Ao32 t949.length co32], .int .i64 1] rfl lz ?_; (with_reducible refine (laws_markAlphabet.calls kj16 t948 (fun k_ => some k_ = (.slice Ao32 t949.length co32 : Value).ownBlock) (.slice Ao32 t949.length co32) t949 1 t970 t971 w _ ?side1 ?side2 A50.out).mono ?_); (case side1 => repeat (first | (with_reducible first | exact HB.out | apply below_alloc | apply pw_below_drewN | apply below_drew1 | refine below_set ?_ GE935.out | refine below_set ?_ GE952.out) | exact HB.out)); (case side2 => exact Kd.R_tight rfl HO_953001.out); rintro e w61 ⟨rfl, hy0, hb, hkp⟩; refine ⟨_, rfl, ?_⟩; replace HO_8 := Aside0.mk (Kd.R_mono (ok' := fun k_ => some k_ ≠ (.slice Ao35 t953.length co35 : Value).ownBlock ∧ some k_ ≠ (v957 : Value).ownBlock ∧ some k_ ≠ (.slice Ao32 t949.length co32 : Value).ownBlock ∧ some k_ ≠ (.slice Ao55 t962.length co55 : Value).ownBlock ∧ some k_ ≠ (.slice Ao58 t966.length co58 : Value).ownBlock) (Kd.R_keptB (HO_8.out) hkp (fun k_ hk_ hs_ => (hk_.1.1.2.2) hs_)) (fun k_ hk_ => ⟨hk_.1.1.1.1, hk_.1.1.1.2.1, hk_.1.1.1.2.2, hk_.1.1.2, hk_.1.2⟩)); replace HO_11 := Aside0.mk (Kd.R_mono (ok' := fun k_ => some k_ ≠ (v945 : Value).ownBlock ∧ some k_ ≠ (v957 : Value).ownBlock ∧ some k_ ≠ (.slice Ao32 t949.length co32 : Value).ownBlock ∧ some k_ ≠ (.slice Ao55 t962.length co55 : Value).ownBlock ∧ some k_ ≠ (.slice Ao58 t966.length co58 : Value).ownBlock) (Kd.R_keptB (HO_11.out) hkp (fun k_ hk_ hs_ => (hk_.1.1.2.2) hs_)) (fun k_ hk_ => ⟨hk_.1.1.1.1, hk_.1.1.1.2.1, hk_.1.1.1.2.2, hk_.1.1.2, hk_.1.2⟩)); replace HO_12 := Aside0.mk (Kd.R_mono (ok' := fun k_ => some k_ ≠ (v945 : Value).ownBlock ∧ some k_ ≠ (.slice Ao35 t953.length co35 : Value).ownBlock ∧ some k_ ≠ (.slice Ao32 t949.length co32 : Value).ownBlock ∧ some k_ ≠ (.slice Ao55 t962.length co55 : Value).ownBlock ∧ some k_ ≠ (.slice Ao58 t966.length co58 : Value).ownBlock) (Kd.R_keptB (HO_12.out) hkp (fun k_ hk_ hs_ => (hk_.1.1.2.2) hs_)) (fun k_ hk_ => ⟨hk_.1.1.1.1, hk_.1.1.1.2.1, hk_.1.1.1.2.2, hk_.1.1.2, hk_.1.2⟩)); replace BK935 := Aside0.mk (blk_kept (blkQ BK935) hkp (fun hs_ => (fun e_ => (Kd.R_ne HO_953001.out BK935.out (by decide)) e_) hs_)); replace BK952 := Aside0.mk (blk_kept (blkQ BK952) hkp (fun hs_ => (fun e_ => (Kd.R_ne HO_953001.out BK952.out (by decide)) e_) hs_)); replace HO_953001 := Aside0.mk (Kd.R_reok rfl hy0 (fun k_ e_ => HO_953001.out.1 k_ e_)); replace HO964 := Aside0.mk (Kd.R_mono (ok' := fun k_ => some k_ ≠ (v945 : Value).ownBlock ∧ some k_ ≠ (.slice Ao35 t953.length co35 : Value).ownBlock ∧ some k_ ≠ (v957 : Value).ownBlock ∧ some k_ ≠ (.slice Ao32 t949.length co32 : Value).ownBlock ∧ some k_ ≠ (.slice Ao58 t966.length co58 : Value).ownBlock) (Kd.R_keptB (HO964.out) hkp (fun k_ hk_ hs_ => (hk_.1.2) hs_)) (fun k_ hk_ => ⟨hk_.1.1.1.1.1.2, hk_.1.1.1.1.2, hk_.1.1.1.2, hk_.1.1.2, hk_.1.2⟩)); replace HO968 := Aside0.mk (Kd.R_mono (ok' := fun k_ => some k_ ≠ (v945 : Value).ownBlock ∧ some k_ ≠ (.slice Ao35 t953.length co35 : Value).ownBlock ∧ some k_ ≠ (v957 : Value).ownBlock ∧ some k_ ≠ (.slice Ao32 t949.length co32 : Value).ownBlock ∧ some k_ ≠ (.slice Ao55 t962.length co55 : Value).ownBlock) (Kd.R_keptB (HO968.out) hkp (fun k_ hk_ hs_ => (hk_.1.2) hs_)) (fun k_ hk_ => ⟨hk_.1.1.1.1.1.2, hk_.1.1.1.1.2, hk_.1.1.1.2, hk_.1.1.2, hk_.1.2⟩)); replace HB := Aside0.mk (hb); (try clear hb); (try clear hkp); (try clear hy0)) | ((with_reducible refine gate_callee (f := 25) rfl ?_); refine goesL_ (some 71) rfl rfl Tryd.func25 (by kernel_rfl) rfl #[.slice Ao35 t953.length co35, .int .i64 t970] rfl lz ?_; (with_reducible refine (laws_markInt64S.calls kj16 (fun k_ => some k_ = (.slice Ao35 t953.length co35 : Value).ownBlock) (.slice Ao35 t953.length co35) t953 t970 t972 t973 w _ ?side1 ?side2 A51.out).mono ?_); (case side1 => repeat (first | (with_reducible first | exact HB.out | apply below_alloc | apply pw_below_drewN | apply below_drew1 | refine below_set ?_ GE935.out | refine below_set ?_ GE952.out) | exact HB.out)); (case side2 => exact Kd.R_tight rfl HO_11.out); rintro e w62 ⟨rfl, hy0, hb, hkp⟩; refine ⟨_, rfl, ?_⟩; replace HO_8 := Aside0.mk (Kd.R_mono (ok' := fun k_ => some k_ ≠ (.slice Ao35 t953.length co35 : Value).ownBlock ∧ some k_ ≠ (v957 : Value).ownBlock ∧ some k_ ≠ (.slice Ao32 t949.length co32 : Value).ownBlock ∧ some k_ ≠ (.slice Ao55 t962.length co55 : Value).ownBlock ∧ some k_ ≠ (.slice Ao58 t966.length co58 : Value).ownBlock) (Kd.R_keptB (HO_8.out) hkp (fun k_ hk_ hs_ => (hk_.1) hs_)) (fun k_ hk_ => ⟨hk_.1.1, hk_.1.2.1, hk_.1.2.2.1, hk_.1.2.2.2.1, hk_.1.2.2.2.2⟩)); replace HO_12 := Aside0.mk (Kd.R_mono (ok' := fun k_ => some k_ ≠ (v945 : Value).ownBlock ∧ some k_ ≠ (.slice Ao35 t953.length co35 : Value).ownBlock ∧ some k_ ≠ (.slice Ao32 t949.length co32 : Value).ownBlock ∧ some k_ ≠ (.slice Ao55 t962.length co55 : Value).ownBlock ∧ some k_ ≠ (.slice Ao58 t966.length co58 : Value).ownBlock) (Kd.R_keptB (HO_12.out) hkp (fun k_ hk_ hs_ => (hk_.2.1) hs_)) (fun k_ hk_ => ⟨hk_.1.1, hk_.1.2.1, hk_.1.2.2.1, hk_.1.2.2.2.1, hk_.1.2.2.2.2⟩)); replace HO_953001 := Aside0.mk (Kd.R_mono (ok' := fun k_ => some k_ ≠ (v945 : Value).ownBlock ∧ some k_ ≠ (.slice Ao35 t953.length co35 : Value).ownBlock ∧ some k_ ≠ (v957 : Value).ownBlock ∧ some k_ ≠ (.slice Ao55 t962.length co55 : Value).ownBlock ∧ some k_ ≠ (.slice Ao58 t966.length co58 : Value).ownBlock) (Kd.R_keptB (HO_953001.out) hkp (fun k_ hk_ hs_ => (hk_.1.1.2.1) hs_)) (fun k_ hk_ => ⟨hk_.1.1.1.1, hk_.1.1.1.2.1, hk_.1.1.1.2.2, hk_.1.1.2, hk_.1.2⟩)); replace BK935 := Aside0.mk (blk_kept (blkQ BK935) hkp (fun hs_ => (fun e_ => (Kd.R_ne HO_11.out BK935.out (by decide)) e_) hs_)); replace BK952 := Aside0.mk (blk_kept (blkQ BK952) hkp (fun hs_ => (fun e_ => (Kd.R_ne HO_11.out BK952.out (by decide)) e_) hs_)); replace HO_11 := Aside0.mk (Kd.R_reok rfl hy0 (fun k_ e_ => HO_11.out.1 k_ e_)); replace HO964 := Aside0.mk (Kd.R_mono (ok' := fun k_ => some k_ ≠ (v945 : Value).ownBlock ∧ some k_ ≠ (.slice Ao35 t953.length co35 : Value).ownBlock ∧ some k_ ≠ (v957 : Value).ownBlock ∧ some k_ ≠ (.slice Ao32 t949.length co32 : Value).ownBlock ∧ some k_ ≠ (.slice Ao58 t966.length co58 : Value).ownBlock) (Kd.R_keptB (HO964.out) hkp (fun k_ hk_ hs_ => (hk_.2.1) hs_)) (fun k_ hk_ => ⟨hk_.1.1, hk_.1.2.1, hk_.1.2.2.1, hk_.1.2.2.2.1, hk_.1.2.2.2.2⟩)); replace HO968 := Aside0.mk (Kd.R_mono (ok' := fun k_ => some k_ ≠ (v945 : Value).ownBlock ∧ some k_ ≠ (.slice Ao35 t953.length co35 : Value).ownBlock ∧ some k_ ≠ (v957 : Value).ownBlock ∧ some k_ ≠ (.slice Ao32 t949.length co32 : Value).ownBlock ∧ some k_ ≠ (.slice Ao55 t962.length co55 : Value).ownBlock) (Kd.R_keptB (HO968.out) hkp (fun k_ hk_ hs_ => (hk_.2.1) hs_)) (fun k_ hk_ => ⟨hk_.1.1, hk_.1.2.1, hk_.1.2.2.1, hk_.1.2.2.2.1, hk_.1.2.2.2.2⟩)); replace HB := Aside0.mk (hb); (try clear hb); (try clear hkp); (try clear hy0)))
        (try simp only [Act.put, List.setIfInBounds_toArray, List.set_cons_zero, List.set_cons_succ])
        go_cut [84] (fun v84 wc => ∃ (kq : Nat) (x84_51 : Bool), v84 = .bool x84_51 ∧ Aside0 (laws_FnExactProjectionOf.j1 kq l1 a2 t944 t947 t956 x84_51 a0_0 l0_1 = some r) ∧ Aside0 (kq ≤ kj16) ∧ Aside0 (Kd.R (Kd.int .i64) 2 wc w.heap.size (fun k_ => some k_ ≠ (v957 : Value).ownBlock ∧ some k_ ≠ ((.slice Ao32 t949.length co32) : Value).ownBlock) v945 t944) ∧ Aside0 (Kd.R (Kd.int .i64) 2 wc w.heap.size (fun k_ => some k_ ≠ (v945 : Value).ownBlock ∧ some k_ ≠ ((.slice Ao32 t949.length co32) : Value).ownBlock) v957 t956) ∧ Aside0 (Kd.R (Kd.int .i64) 2 wc w.heap.size (fun k_ => some k_ ≠ (v945 : Value).ownBlock ∧ some k_ ≠ (v957 : Value).ownBlock) (.slice Ao32 t949.length co32) t971) ∧ Aside0 (wc.heap[gb935]? = some (.cells #[.int .i64 a0_0, (.slice A0_1 l0_1.length c0_1)] 24 (0, 0))) ∧ Aside0 (wc.heap[gb952]? = some (.cells #[.int .i64 t948, (.slice Ao32 t949.length co32)] 28 (0, 0))) ∧ Aside0 (Below w.heap.size w wc))
        case first =>
         have H := HC52.out; clear HC52
         by_cases c63 : t972 < 0
         ·rw [if_pos c63] at H
          have c63b0 : decide (t972 < 0) = true := decide_eq_true c63
          clear c63
          (first | rw [c63b0] | (simp only [i64_w, i32_w]; rw [c63b0]) | skip)
          have H' := Aside0.mk H
          clear H
          go_wp2
          go_meet
          case rel => exact ⟨_, (true), sz, H', ⟨by have := HJ16.out; first | omega | exact Nat.le_refl _⟩, ⟨by (with_reducible repeat (first | apply Kd.R_alloc | apply Kd.R_drewN | apply Kd.R_drew)); exact Kd.R_mono HO_8.out (fun _ hk => ⟨hk.2.1, hk.2.2.1⟩)⟩, ⟨by (with_reducible repeat (first | apply Kd.R_alloc | apply Kd.R_drewN | apply Kd.R_drew)); exact Kd.R_mono HO_12.out (fun _ hk => ⟨hk.1, hk.2.2.1⟩)⟩, ⟨by (with_reducible repeat (first | apply Kd.R_alloc | apply Kd.R_drewN | apply Kd.R_drew)); exact Kd.R_mono HO_953001.out (fun _ hk => ⟨hk.1, hk.2.2.1⟩)⟩, ⟨blkQ BK935⟩, ⟨blkQ BK952⟩, ⟨beQ HB⟩⟩
         ·rw [if_neg c63] at H
          have c63b0 : decide (t972 < 0) = false := decide_eq_false c63
          clear c63
          (first | rw [c63b0] | (simp only [i64_w, i32_w]; rw [c63b0]) | skip)
          replace H := Option.bind_eq_some_iff.mp H; obtain ⟨t974, A640, H⟩ := H
          replace H : (if t974 = true then (laws_FnExactProjectionOf.j1 kj16 l1 a2 t944 t947 t956 (t959 != t947) a0_0 l0_1) else (laws_FnExactProjectionOf.j1 kj16 l1 a2 t944 t947 t956 true a0_0 l0_1)) = some r := H
          have A64 := Aside0.mk A640; clear A640
          by_cases c65 : t974 = true
          ·subst c65
           have H1 : (laws_FnExactProjectionOf.j1 kj16 l1 a2 t944 t947 t956 (t959 != t947) a0_0 l0_1) = some r := by rw [if_pos rfl] at H; exact H
           clear H; have H := H1; clear H1
           have H' := Aside0.mk H
           clear H; obtain ⟨Ao66, co66, eo66⟩ := Kd.R_slice HO_12.out; subst eo66; obtain ⟨Ao67, co67, eo67⟩ := Kd.R_slice HO_8.out; subst eo67
           go_wp2_with (first | (go_at_call 21; (with_reducible refine (laws_eqInt64S.calls kj16 _ _ t956 _ _ t944 true _ ?side1 ?side2 ?side3 ?side4 A64.out).mono ?_); (case side1 => have q_ := Aside0.mk (Kd.R_reads' HO_12.out).2.2; exact cQ q_); (case side2 => exact (Kd.R_reads' HO_12.out).2.1); (case side3 => have q_ := Aside0.mk (Kd.R_reads' HO_8.out).2.2; exact cQ q_); (case side4 => exact (Kd.R_reads' HO_8.out).2.1); rintro e w' ⟨rfl, ⟨nd, rfl⟩⟩))
           go_meet
           case rel => exact ⟨_, ((t959 != t947)), sz, H', ⟨by have := HJ16.out; first | omega | exact Nat.le_refl _⟩, ⟨by (with_reducible repeat (first | apply Kd.R_alloc | apply Kd.R_drewN | apply Kd.R_drew)); exact Kd.R_mono HO_8.out (fun _ hk => ⟨hk.2.1, hk.2.2.1⟩)⟩, ⟨by (with_reducible repeat (first | apply Kd.R_alloc | apply Kd.R_drewN | apply Kd.R_drew)); exact Kd.R_mono HO_12.out (fun _ hk => ⟨hk.1, hk.2.2.1⟩)⟩, ⟨by (with_reducible repeat (first | apply Kd.R_alloc | apply Kd.R_drewN | apply Kd.R_drew)); exact Kd.R_mono HO_953001.out (fun _ hk => ⟨hk.1, hk.2.2.1⟩)⟩, ⟨blkQ BK935⟩, ⟨blkQ BK952⟩, ⟨beQ HB⟩⟩
          ·replace c65 := Bool.eq_false_iff.mpr c65
           subst c65
           have H1 : (laws_FnExactProjectionOf.j1 kj16 l1 a2 t944 t947 t956 true a0_0 l0_1) = some r := by rw [if_neg (show ¬ (false = true) by decide)] at H; exact H
           clear H; have H := H1; clear H1
           have H' := Aside0.mk H
           clear H; obtain ⟨Ao68, co68, eo68⟩ := Kd.R_slice HO_12.out; subst eo68; obtain ⟨Ao69, co69, eo69⟩ := Kd.R_slice HO_8.out; subst eo69
           go_wp2_with (first | (go_at_call 21; (with_reducible refine (laws_eqInt64S.calls kj16 _ _ t956 _ _ t944 false _ ?side1 ?side2 ?side3 ?side4 A64.out).mono ?_); (case side1 => have q_ := Aside0.mk (Kd.R_reads' HO_12.out).2.2; exact cQ q_); (case side2 => exact (Kd.R_reads' HO_12.out).2.1); (case side3 => have q_ := Aside0.mk (Kd.R_reads' HO_8.out).2.2; exact cQ q_); (case side4 => exact (Kd.R_reads' HO_8.out).2.1); rintro e w' ⟨rfl, ⟨nd, rfl⟩⟩))
           go_meet
           case rel => exact ⟨_, (true), sz, H', ⟨by have := HJ16.out; first | omega | exact Nat.le_refl _⟩, ⟨by (with_reducible repeat (first | apply Kd.R_alloc | apply Kd.R_drewN | apply Kd.R_drew)); exact Kd.R_mono HO_8.out (fun _ hk => ⟨hk.2.1, hk.2.2.1⟩)⟩, ⟨by (with_reducible repeat (first | apply Kd.R_alloc | apply Kd.R_drewN | apply Kd.R_drew)); exact Kd.R_mono HO_12.out (fun _ hk => ⟨hk.1, hk.2.2.1⟩)⟩, ⟨by (with_reducible repeat (first | apply Kd.R_alloc | apply Kd.R_drewN | apply Kd.R_drew)); exact Kd.R_mono HO_953001.out (fun _ hk => ⟨hk.1, hk.2.2.1⟩)⟩, ⟨blkQ BK935⟩, ⟨blkQ BK952⟩, ⟨beQ HB⟩⟩
        case rest =>
         clear HC52
         try clear c1
         try clear c2
         try clear p2
         try clear c3
         try clear c4
         try clear c4b0
         try clear c4b1
         try clear c5
         try clear c6
         try clear c7
         try clear c7b0
         try clear c11
         try clear c15
         try clear c17
         try clear c18
         try clear c20
         try clear c21
         try clear c24
         try clear c25
         try clear c30
         try clear c38
         try clear c42
         try clear c43
         try clear c46
         try clear c49
         try clear c59
         try clear c63
         try clear c63b0
         try clear c65
         try clear hcz19_0
         try clear hcz19_1
         try clear hcz21_0
         try clear hcz21_1
         try clear hcz27_0
         try clear hcz27_1
         try clear hcz31_0
         try clear hcz31_1
         try clear hcz34_0
         try clear hcz34_1
         try clear hcz60_0
         try clear hcz60_1
         try clear hcz9_0
         try clear hcz9_1
         try clear hfz19_0
         try clear hfz19_1
         try clear hfz21_0
         try clear hfz21_1
         try clear hfz27_0
         try clear hfz27_1
         try clear hfz31_0
         try clear hfz31_1
         try clear hfz34_0
         try clear hfz34_1
         try clear hfz60_0
         try clear hfz60_1
         try clear hfz9_0
         try clear hfz9_1
         try clear p2
         obtain ⟨kq, x84_51, rfl, HA, HJ51, HO_8, HO_12, HO_953001, BK935, BK952, HB⟩ := hcut; have hl953001_51 := (Kd.R_reads' HO_953001.out).1; rw [hl953001_51] at HO_953001
         (try simp only [hl953001_51])
         (try simp only [hl953001_51] at BK935)
         (try simp only [hl953001_51] at BK952)
         (try simp only [hl953001_51] at HO_8)
         (try simp only [hl953001_51] at HO_12)
         cases kq with
         | zero => exact absurd HA.out (by simp [laws_FnExactProjectionOf.j1])
         | succ kj51 =>
          have H := HA.out; clear HA
          simp only [laws_FnExactProjectionOf.j1] at H
          by_cases c70 : x84_51 = true
          ·subst c70
           have H1 : (some false) = some r := by rw [if_pos rfl] at H; exact H
           clear H; have H := H1; clear H1
           obtain rfl := Option.some.inj H
           go_wp2
           go_ret
           exact ⟨rz, beQ HB⟩
          ·replace c70 := Bool.eq_false_iff.mpr c70
           subst c70
           have H1 : ((laws_markInt64S.f kj51 t956 1).bind fun bt975 => ((laws_heldInt64S.f kj51 bt975.2 1).bind fun t977 => (if t977 < 0 then (some false) else (if t977 = bt975.1 then ((laws_toAlphabet.f kj51 a0_0 l0_1).bind fun bt978 => ((laws_toInt64S.f kj51 l1).bind fun t982 => ((impl_ProjectionOf.f kj51 bt978.1 bt978.2 t982 a2).bind fun bt985 => ((laws_eqInt64S.f kj51 bt985.1 t944).bind fun t989 => (if t989 = true then (laws_FnExactProjectionOf.j2 kj51 bt975.2 bt975.1 (bt985.2 != t947)) else (laws_FnExactProjectionOf.j2 kj51 bt975.2 bt975.1 true)))))) else (some false))))) = some r := by rw [if_neg (show ¬ (false = true) by decide)] at H; exact H
           clear H; have H := H1; clear H1; replace H := Option.bind_eq_some_iff.mp H
           obtain ⟨⟨t975, t976⟩, A710, H⟩ := H
           replace H : ((laws_heldInt64S.f kj51 t976 1).bind fun t977 => (if t977 < 0 then (some false) else (if t977 = t975 then ((laws_toAlphabet.f kj51 a0_0 l0_1).bind fun bt978 => ((laws_toInt64S.f kj51 l1).bind fun t982 => ((impl_ProjectionOf.f kj51 bt978.1 bt978.2 t982 a2).bind fun bt985 => ((laws_eqInt64S.f kj51 bt985.1 t944).bind fun t989 => (if t989 = true then (laws_FnExactProjectionOf.j2 kj51 t976 t975 (bt985.2 != t947)) else (laws_FnExactProjectionOf.j2 kj51 t976 t975 true)))))) else (some false)))) = some r := H
           have A71 := Aside0.mk A710; clear A710; replace H := Option.bind_eq_some_iff.mp H; obtain ⟨t977, A720, H⟩ := H
           replace H : (if t977 < 0 then (some false) else (if t977 = t975 then ((laws_toAlphabet.f kj51 a0_0 l0_1).bind fun bt978 => ((laws_toInt64S.f kj51 l1).bind fun t982 => ((impl_ProjectionOf.f kj51 bt978.1 bt978.2 t982 a2).bind fun bt985 => ((laws_eqInt64S.f kj51 bt985.1 t944).bind fun t989 => (if t989 = true then (laws_FnExactProjectionOf.j2 kj51 t976 t975 (bt985.2 != t947)) else (laws_FnExactProjectionOf.j2 kj51 t976 t975 true)))))) else (some false))) = some r := H
           have A72 := Aside0.mk A720; clear A720
           by_cases c73 : t977 < 0
           ·rw [if_pos c73] at H
            have c73b0 : decide (t977 < 0) = true := decide_eq_true c73
            clear c73
            obtain rfl := Option.some.inj H
            obtain ⟨Ao74, co74, eo74⟩ := Kd.R_slice HO_12.out; subst eo74
            go_wp2_with (first | ((with_reducible refine gate_callee (f := 25) rfl ?_); refine goesL_ (some 87) rfl rfl Tryd.func25 (by kernel_rfl) rfl #[.slice Ao74 t956.length co74, .int .i64 1] rfl lz ?_; (with_reducible refine (laws_markInt64S.calls kj51 (fun k_ => some k_ = (.slice Ao74 t956.length co74 : Value).ownBlock) (.slice Ao74 t956.length co74) t956 1 t975 t976 w _ ?side1 ?side2 A71.out).mono ?_); (case side1 => repeat (first | (with_reducible first | exact HB.out | apply below_alloc | apply pw_below_drewN | apply below_drew1 | refine below_set ?_ GE935.out | refine below_set ?_ GE952.out) | exact HB.out)); (case side2 => exact Kd.R_tight rfl HO_12.out); rintro e w75 ⟨rfl, hy0, hb, hkp⟩; refine ⟨_, rfl, ?_⟩; replace HO_8 := Aside0.mk (Kd.R_mono (ok' := fun k_ => some k_ ≠ (.slice Ao74 t956.length co74 : Value).ownBlock ∧ some k_ ≠ (.slice Ao32 t971.length co32 : Value).ownBlock) (Kd.R_keptB (HO_8.out) hkp (fun k_ hk_ hs_ => (hk_.1) hs_)) (fun k_ hk_ => ⟨hk_.1.1, hk_.1.2⟩)); replace HO_953001 := Aside0.mk (Kd.R_mono (ok' := fun k_ => some k_ ≠ (v945 : Value).ownBlock ∧ some k_ ≠ (.slice Ao74 t956.length co74 : Value).ownBlock) (Kd.R_keptB (HO_953001.out) hkp (fun k_ hk_ hs_ => (hk_.2) hs_)) (fun k_ hk_ => ⟨hk_.1.1, hk_.1.2⟩)); replace BK935 := Aside0.mk (blk_kept (blkQ BK935) hkp (fun hs_ => (fun e_ => (Kd.R_ne HO_12.out BK935.out (by decide)) e_) hs_)); replace BK952 := Aside0.mk (blk_kept (blkQ BK952) hkp (fun hs_ => (fun e_ => (Kd.R_ne HO_12.out BK952.out (by decide)) e_) hs_)); replace HO_12 := Aside0.mk (Kd.R_reok rfl hy0 (fun k_ e_ => HO_12.out.1 k_ e_)); replace HB := Aside0.mk (hb); (try clear hb); (try clear hkp); (try clear hy0)) | ((with_reducible refine gate_callee (f := 26) rfl ?_); refine goesL_ (some 90) rfl rfl Tryd.func26 (by kernel_rfl) rfl #[.slice Ao74 t976.length co74, .int .i64 1] rfl (by (try simp only [List.map_toArray, List.map_cons, List.map_nil]); first | done | (rw [show t976.length = t956.length from (Kd.R_reads' HO_12.out).1.symm] <;> rfl) | rfl | (simp only [List.length_drop, List.length_take]; rfl)) ?_; (with_reducible refine (laws_heldInt64S.calls kj51 _ _ t976 1 t977 _ ?side1 ?side2 A72.out).mono ?_); (case side1 => have q_ := Aside0.mk (Kd.R_reads' HO_12.out).2.2; exact cQ q_); (case side2 => rw [show t976.length = t956.length from (Kd.R_reads' HO_12.out).1.symm]; exact (Kd.R_reads' HO_12.out).2.1); rintro e w' ⟨rfl, ⟨nd, rfl⟩⟩; refine ⟨_, rfl, ?_⟩))
            go_ret
            exact ⟨rz, beQ HB⟩
           ·rw [if_neg c73] at H
            have c73b0 : decide (t977 < 0) = false := decide_eq_false c73
            clear c73
            by_cases c76 : t977 = t975
            ·rw [if_pos c76] at H
             have c76b0 : (t977 == t975) = true := beq_iff_eq.mpr c76
             have c76b1 : (t977 != t975) = false := bne_eq_false_iff_eq.mpr c76
             clear c76; replace H := Option.bind_eq_some_iff.mp H
             obtain ⟨⟨t978, t979⟩, A770, H⟩ := H
             replace H : ((laws_toInt64S.f kj51 l1).bind fun t982 => ((impl_ProjectionOf.f kj51 t978 t979 t982 a2).bind fun bt985 => ((laws_eqInt64S.f kj51 bt985.1 t944).bind fun t989 => (if t989 = true then (laws_FnExactProjectionOf.j2 kj51 t976 t975 (bt985.2 != t947)) else (laws_FnExactProjectionOf.j2 kj51 t976 t975 true))))) = some r := H
             have A77 := Aside0.mk A770; clear A770; replace H := Option.bind_eq_some_iff.mp H; obtain ⟨t982, A780, H⟩ := H
             replace H : ((impl_ProjectionOf.f kj51 t978 t979 t982 a2).bind fun bt985 => ((laws_eqInt64S.f kj51 bt985.1 t944).bind fun t989 => (if t989 = true then (laws_FnExactProjectionOf.j2 kj51 t976 t975 (bt985.2 != t947)) else (laws_FnExactProjectionOf.j2 kj51 t976 t975 true)))) = some r := H
             have A78 := Aside0.mk A780; clear A780; replace H := Option.bind_eq_some_iff.mp H
             obtain ⟨⟨t985, t988⟩, A790, H⟩ := H
             replace H : ((laws_eqInt64S.f kj51 t985 t944).bind fun t989 => (if t989 = true then (laws_FnExactProjectionOf.j2 kj51 t976 t975 (t988 != t947)) else (laws_FnExactProjectionOf.j2 kj51 t976 t975 true))) = some r := H
             have A79 := Aside0.mk A790; clear A790; have HC80 := Aside0.mk H; clear H; obtain ⟨Ao81, co81, eo81⟩ := Kd.R_slice HO_12.out; subst eo81
             go_upto_region 31 with (first | ((with_reducible refine gate_callee (f := 25) rfl ?_); refine goesL_ (some 87) rfl rfl Tryd.func25 (by kernel_rfl) rfl #[.slice Ao81 t956.length co81, .int .i64 1] rfl lz ?_; (with_reducible refine (laws_markInt64S.calls kj51 (fun k_ => some k_ = (.slice Ao81 t956.length co81 : Value).ownBlock) (.slice Ao81 t956.length co81) t956 1 t975 t976 w _ ?side1 ?side2 A71.out).mono ?_); (case side1 => repeat (first | (with_reducible first | exact HB.out | apply below_alloc | apply pw_below_drewN | apply below_drew1 | refine below_set ?_ GE935.out | refine below_set ?_ GE952.out) | exact HB.out)); (case side2 => exact Kd.R_tight rfl HO_12.out); rintro e w82 ⟨rfl, hy0, hb, hkp⟩; refine ⟨_, rfl, ?_⟩; replace HO_8 := Aside0.mk (Kd.R_mono (ok' := fun k_ => some k_ ≠ (.slice Ao81 t956.length co81 : Value).ownBlock ∧ some k_ ≠ (.slice Ao32 t971.length co32 : Value).ownBlock) (Kd.R_keptB (HO_8.out) hkp (fun k_ hk_ hs_ => (hk_.1) hs_)) (fun k_ hk_ => ⟨hk_.1.1, hk_.1.2⟩)); replace HO_953001 := Aside0.mk (Kd.R_mono (ok' := fun k_ => some k_ ≠ (v945 : Value).ownBlock ∧ some k_ ≠ (.slice Ao81 t956.length co81 : Value).ownBlock) (Kd.R_keptB (HO_953001.out) hkp (fun k_ hk_ hs_ => (hk_.2) hs_)) (fun k_ hk_ => ⟨hk_.1.1, hk_.1.2⟩)); replace BK935 := Aside0.mk (blk_kept (blkQ BK935) hkp (fun hs_ => (fun e_ => (Kd.R_ne HO_12.out BK935.out (by decide)) e_) hs_)); replace BK952 := Aside0.mk (blk_kept (blkQ BK952) hkp (fun hs_ => (fun e_ => (Kd.R_ne HO_12.out BK952.out (by decide)) e_) hs_)); replace HO_12 := Aside0.mk (Kd.R_reok rfl hy0 (fun k_ e_ => HO_12.out.1 k_ e_)); replace HB := Aside0.mk (hb); (try clear hb); (try clear hkp); (try clear hy0)) | ((with_reducible refine gate_callee (f := 26) rfl ?_); refine goesL_ (some 90) rfl rfl Tryd.func26 (by kernel_rfl) rfl #[.slice Ao81 t976.length co81, .int .i64 1] rfl (by (try simp only [List.map_toArray, List.map_cons, List.map_nil]); first | done | (rw [show t976.length = t956.length from (Kd.R_reads' HO_12.out).1.symm] <;> rfl) | rfl | (simp only [List.length_drop, List.length_take]; rfl)) ?_; (with_reducible refine (laws_heldInt64S.calls kj51 _ _ t976 1 t977 _ ?side1 ?side2 A72.out).mono ?_); (case side1 => have q_ := Aside0.mk (Kd.R_reads' HO_12.out).2.2; exact cQ q_); (case side2 => rw [show t976.length = t956.length from (Kd.R_reads' HO_12.out).1.symm]; exact (Kd.R_reads' HO_12.out).2.1); rintro e w' ⟨rfl, ⟨nd, rfl⟩⟩; refine ⟨_, rfl, ?_⟩; have hnb83 := NB935_952.out; have hnc83 := NB952_935.out; have hcz84_0 : w82.cell? ⟨gb935, 0, none⟩ = some (.int .i64 a0_0) := bc BK935 0; have hcz84_1 : w82.cell? ⟨gb935, 1, none⟩ = some (.slice A0_1 l0_1.length c0_1) := bc BK935 1; have hfz84_0 := blk_frozen BK935.out 0; have hfz84_1 := blk_frozen BK935.out 1) | ((with_reducible refine gate_callee (f := 17) rfl ?_); refine goesL_ (some 98) rfl rfl Tryd.func17 (by kernel_rfl) rfl #[.agg #[.int .i64 a0_0, .slice A0_1 l0_1.length c0_1]] rfl lz ?_; (with_reducible refine (laws_toAlphabet.calls kj51 a0_0 _ _ l0_1 t978 t979 _ ?side1 ?side2 A77.out).mono ?_); (case side1 => have q_ := Aside0.mk (Kd.C_below HR0_1.out (beQ HB)); exact cQ q_); (case side2 => exact HC0_1.out); rintro e w85 ⟨v980, rfl, ho0, hb⟩; refine ⟨_, rfl, ?_⟩; have HO981 := Aside0.mk (Kd.R_lower (Kd.R_new' (Kd.R_new' (Kd.R_new' ho0 (Kd.R_lt (kdQ HO_8))) (Kd.R_lt (kdQ HO_12))) (Kd.R_lt (kdQ HO_953001))) (below_size (beQ HB))); replace HO_8 := Aside0.mk (Kd.R_elder' (kdQ HO_8) (Kd.R_base ho0) hb); replace HO_12 := Aside0.mk (Kd.R_elder' (kdQ HO_12) (Kd.R_base ho0) hb); replace HO_953001 := Aside0.mk (Kd.R_elder' (kdQ HO_953001) (Kd.R_base ho0) hb); replace BK935 := bb BK935 hb; replace BK952 := bb BK952 hb; replace HB := Aside0.mk (below_step (beQ HB) hb); (try clear hb); (try clear hb2); (try clear hk); (try clear hi); (try clear ho0)) | ((with_reducible refine gate_callee (f := 18) rfl ?_); refine goesL_ (some 100) rfl rfl Tryd.func18 (by kernel_rfl) rfl #[.slice A1 l1.length c1] rfl lz ?_; (with_reducible refine (laws_toInt64S.calls kj51 _ _ l1 t982 _ ?side1 ?side2 A78.out).mono ?_); (case side1 => have q_ := Aside0.mk (Kd.C_below HR1.out HB.out); exact cQ q_); (case side2 => exact HC1.out); rintro e w86 ⟨v983, rfl, ho0, hb⟩; refine ⟨_, rfl, ?_⟩; have HO984 := Aside0.mk (Kd.R_lower (Kd.R_new' (Kd.R_new' (Kd.R_new' (Kd.R_new' ho0 (Kd.R_lt (kdQ HO_8))) (Kd.R_lt (kdQ HO_12))) (Kd.R_lt (kdQ HO_953001))) (Kd.R_lt (kdQ HO981))) (below_size (beQ HB))); replace HO_8 := Aside0.mk (Kd.R_elder' (kdQ HO_8) (Kd.R_base ho0) hb); replace HO_12 := Aside0.mk (Kd.R_elder' (kdQ HO_12) (Kd.R_base ho0) hb); replace HO_953001 := Aside0.mk (Kd.R_elder' (kdQ HO_953001) (Kd.R_base ho0) hb); replace HO981 := Aside0.mk (Kd.R_elder' (kdQ HO981) (Kd.R_base ho0) hb); replace BK935 := bb BK935 hb; replace BK952 := bb BK952 hb; replace HB := Aside0.mk (below_step (beQ HB) hb); (try clear hb); (try clear hb2); (try clear hk); (try clear hi); (try clear ho0); obtain ⟨Ao87, co87, eo87⟩ := Kd.R_slice HO981.out; subst eo87; obtain ⟨Ao88, co88, eo88⟩ := Kd.R_slice HO984.out; subst eo88) | ((with_reducible refine gate_callee (f := 43) rfl ?_); refine goesL_ (some 102) rfl rfl Tryd.func43 (by kernel_rfl) rfl #[.agg #[.int .i64 t978, .slice Ao87 t979.length co87], .slice Ao88 t982.length co88, .int .i64 a2] rfl lz ?_; (with_reducible refine (impl_ProjectionOf.calls kj51 t978 _ _ t979 (fun k_ => some k_ = (.slice Ao88 t982.length co88 : Value).ownBlock) _ _ t982 a2 t985 t988 _ ?side1 ?side2 ?side3 ?side4 A79.out).mono ?_); (case side1 => have q_ := Aside0.mk (Kd.R_reads' HO981.out).2.2; exact cQ q_); (case side2 => exact (Kd.R_reads' HO981.out).2.1); (case side3 => exact Kd.R_V (Kd.R_tight rfl (Kd.R_types (Kd.R_types (HO984.out) BK935.out (by decide)) BK952.out (by decide)))); (case side4 => exact TabW.below HT.out (beQ HB)); rintro e w89 ⟨v986, rfl, ho0, hb⟩; refine ⟨_, rfl, ?_⟩; have HO987 := Aside0.mk (Kd.R_lower (Kd.R_new' (Kd.R_new' (Kd.R_new' (Kd.R_new' (Kd.R_new' (Kd.R_mono (ok' := fun k_ => True) ho0 (fun _ hk_ => trivial)) (Kd.R_lt (kdQ HO_8))) (Kd.R_lt (kdQ HO_12))) (Kd.R_lt (kdQ HO_953001))) (Kd.R_lt (kdQ HO981))) (Kd.R_lt (kdQ HO984))) (below_size (beQ HB))); replace HO_8 := Aside0.mk (Kd.R_elder' (kdQ HO_8) (Kd.R_base ho0) hb); replace HO_12 := Aside0.mk (Kd.R_elder' (kdQ HO_12) (Kd.R_base ho0) hb); replace HO_953001 := Aside0.mk (Kd.R_elder' (kdQ HO_953001) (Kd.R_base ho0) hb); replace HO981 := Aside0.mk (Kd.R_elder' (kdQ HO981) (Kd.R_base ho0) hb); replace HO984 := Aside0.mk (Kd.R_elder' (kdQ HO984) (Kd.R_base ho0) hb); replace BK935 := bb BK935 hb; replace BK952 := bb BK952 hb; replace HB := Aside0.mk (below_step (beQ HB) hb); (try clear hb); (try clear hb2); (try clear hk); (try clear hi); (try clear ho0)))
             (try simp only [Act.put, List.setIfInBounds_toArray, List.set_cons_zero, List.set_cons_succ])
             go_cut [113] (fun v113 wc => ∃ (kq : Nat) (x113_79 : Bool), v113 = .bool x113_79 ∧ Aside0 (laws_FnExactProjectionOf.j2 kq t976 t975 x113_79 = some r) ∧ Aside0 (kq ≤ kj51) ∧ Aside0 (Kd.R (Kd.int .i64) 2 wc w.heap.size (fun k_ => some k_ ≠ ((.slice Ao32 t971.length co32) : Value).ownBlock) (.slice Ao81 t956.length co81) t976) ∧ Aside0 (Kd.R (Kd.int .i64) 2 wc w.heap.size (fun k_ => some k_ ≠ ((.slice Ao81 t956.length co81) : Value).ownBlock) (.slice Ao32 t971.length co32) t971) ∧ Aside0 (wc.heap[gb935]? = some (.cells #[.int .i64 a0_0, (.slice A0_1 l0_1.length c0_1)] 24 (0, 0))) ∧ Aside0 (wc.heap[gb952]? = some (.cells #[.int .i64 t948, (.slice Ao32 t971.length co32)] 28 (0, 0))) ∧ Aside0 (Below w.heap.size w wc))
             case first =>
              have H := HC80.out; clear HC80; replace H := Option.bind_eq_some_iff.mp H; obtain ⟨t989, A900, H⟩ := H
              replace H : (if t989 = true then (laws_FnExactProjectionOf.j2 kj51 t976 t975 (t988 != t947)) else (laws_FnExactProjectionOf.j2 kj51 t976 t975 true)) = some r := H
              have A90 := Aside0.mk A900; clear A900
              by_cases c91 : t989 = true
              ·subst c91
               have H1 : (laws_FnExactProjectionOf.j2 kj51 t976 t975 (t988 != t947)) = some r := by rw [if_pos rfl] at H; exact H
               clear H; have H := H1; clear H1
               have H' := Aside0.mk H
               clear H; obtain ⟨Ao92, co92, eo92⟩ := Kd.R_slice HO987.out; subst eo92; obtain ⟨Ao93, co93, eo93⟩ := Kd.R_slice HO_8.out; subst eo93
               go_wp2_with (first | ((with_reducible refine gate_callee (f := 21) rfl ?_); refine goesL_ (some 107) rfl rfl Tryd.func21 (by kernel_rfl) rfl #[.slice Ao92 t985.length co92, .slice Ao93 t944.length co93] rfl lz ?_; (with_reducible refine (laws_eqInt64S.calls kj51 _ _ t985 _ _ t944 true _ ?side1 ?side2 ?side3 ?side4 A90.out).mono ?_); (case side1 => have q_ := Aside0.mk (Kd.R_reads' HO987.out).2.2; exact cQ q_); (case side2 => exact (Kd.R_reads' HO987.out).2.1); (case side3 => have q_ := Aside0.mk (Kd.R_reads' HO_8.out).2.2; exact cQ q_); (case side4 => exact (Kd.R_reads' HO_8.out).2.1); rintro e w' ⟨rfl, ⟨nd, rfl⟩⟩; refine ⟨_, rfl, ?_⟩))
               go_meet
               case rel => exact ⟨_, ((t988 != t947)), sz, H', ⟨by have := HJ16.out; have := HJ51.out; first | omega | exact Nat.le_refl _⟩, ⟨by (try simp only [hl953001_51]); (with_reducible repeat (first | apply Kd.R_alloc | apply Kd.R_drewN | apply Kd.R_drew)); exact Kd.R_mono HO_12.out (fun _ hk => hk.1.1.1.2)⟩, ⟨by (try simp only [hl953001_51]); (with_reducible repeat (first | apply Kd.R_alloc | apply Kd.R_drewN | apply Kd.R_drew)); exact Kd.R_mono HO_953001.out (fun _ hk => hk.1.1.1.2)⟩, ⟨by (try simp only [hl953001_51]); (with_reducible repeat (first | refine blk_drewN ?_ _ | refine blk_drew ?_ | refine blk_alloc ?_ _)); exact BK935.out⟩, ⟨by (try simp only [hl953001_51]); (with_reducible repeat (first | refine blk_drewN ?_ _ | refine blk_drew ?_ | refine blk_alloc ?_ _)); exact BK952.out⟩, ⟨beQ HB⟩⟩
              ·replace c91 := Bool.eq_false_iff.mpr c91
               subst c91
               have H1 : (laws_FnExactProjectionOf.j2 kj51 t976 t975 true) = some r := by rw [if_neg (show ¬ (false = true) by decide)] at H; exact H
               clear H; have H := H1; clear H1
               have H' := Aside0.mk H
               clear H; obtain ⟨Ao94, co94, eo94⟩ := Kd.R_slice HO987.out; subst eo94; obtain ⟨Ao95, co95, eo95⟩ := Kd.R_slice HO_8.out; subst eo95
               go_wp2_with (first | ((with_reducible refine gate_callee (f := 21) rfl ?_); refine goesL_ (some 107) rfl rfl Tryd.func21 (by kernel_rfl) rfl #[.slice Ao94 t985.length co94, .slice Ao95 t944.length co95] rfl lz ?_; (with_reducible refine (laws_eqInt64S.calls kj51 _ _ t985 _ _ t944 false _ ?side1 ?side2 ?side3 ?side4 A90.out).mono ?_); (case side1 => have q_ := Aside0.mk (Kd.R_reads' HO987.out).2.2; exact cQ q_); (case side2 => exact (Kd.R_reads' HO987.out).2.1); (case side3 => have q_ := Aside0.mk (Kd.R_reads' HO_8.out).2.2; exact cQ q_); (case side4 => exact (Kd.R_reads' HO_8.out).2.1); rintro e w' ⟨rfl, ⟨nd, rfl⟩⟩; refine ⟨_, rfl, ?_⟩))
               go_meet
               case rel => exact ⟨_, (true), sz, H', ⟨by have := HJ16.out; have := HJ51.out; first | omega | exact Nat.le_refl _⟩, ⟨by (try simp only [hl953001_51]); (with_reducible repeat (first | apply Kd.R_alloc | apply Kd.R_drewN | apply Kd.R_drew)); exact Kd.R_mono HO_12.out (fun _ hk => hk.1.1.1.2)⟩, ⟨by (try simp only [hl953001_51]); (with_reducible repeat (first | apply Kd.R_alloc | apply Kd.R_drewN | apply Kd.R_drew)); exact Kd.R_mono HO_953001.out (fun _ hk => hk.1.1.1.2)⟩, ⟨by (try simp only [hl953001_51]); (with_reducible repeat (first | refine blk_drewN ?_ _ | refine blk_drew ?_ | refine blk_alloc ?_ _)); exact BK935.out⟩, ⟨by (try simp only [hl953001_51]); (with_reducible repeat (first | refine blk_drewN ?_ _ | refine blk_drew ?_ | refine blk_alloc ?_ _)); exact BK952.out⟩, ⟨beQ HB⟩⟩
             case rest =>
              clear HC80
              try clear c1
              try clear c2
              try clear p2
              try clear c3
              try clear c4
              try clear c4b0
              try clear c4b1
              try clear c5
              try clear c6
              try clear c7
              try clear c7b0
              try clear c8
              try clear c9
              try clear c11
              try clear c15
              try clear c17
              try clear c18
              try clear c20
              try clear c21
              try clear c24
              try clear c25
              try clear c26
              try clear c30
              try clear c38
              try clear c42
              try clear c43
              try clear c46
              try clear c49
              try clear c59
              try clear c63
              try clear c63b0
              try clear c65
              try clear c70
              try clear c73
              try clear c73b0
              try clear c76
              try clear c76b0
              try clear c76b1
              try clear c83
              try clear c91
              try clear hcz19_0
              try clear hcz19_1
              try clear hcz21_0
              try clear hcz21_1
              try clear hcz27_0
              try clear hcz27_1
              try clear hcz31_0
              try clear hcz31_1
              try clear hcz34_0
              try clear hcz34_1
              try clear hcz60_0
              try clear hcz60_1
              try clear hcz84_0
              try clear hcz84_1
              try clear hcz9_0
              try clear hcz9_1
              try clear hfz19_0
              try clear hfz19_1
              try clear hfz21_0
              try clear hfz21_1
              try clear hfz27_0
              try clear hfz27_1
              try clear hfz31_0
              try clear hfz31_1
              try clear hfz34_0
              try clear hfz34_1
              try clear hfz60_0
              try clear hfz60_1
              try clear hfz84_0
              try clear hfz84_1
              try clear hfz9_0
              try clear hfz9_1
              try clear p2
              obtain ⟨kq, x113_79, rfl, HA, HJ79, HO_12, HO_953001, BK935, BK952, HB⟩ := hcut; have hl12_79 := (Kd.R_reads' HO_12.out).1; rw [hl12_79] at HO_12
              (try simp only [hl12_79])
              (try simp only [hl12_79] at BK935)
              (try simp only [hl12_79] at BK952)
              (try simp only [hl12_79] at HO_953001)
              cases kq with
              | zero => exact absurd HA.out (by simp [laws_FnExactProjectionOf.j2])
              | succ kj79 =>
               have H := HA.out; clear HA
               simp only [laws_FnExactProjectionOf.j2] at H
               by_cases c96 : x113_79 = true
               ·subst c96
                have H1 : (some false) = some r := by rw [if_pos rfl] at H; exact H
                clear H; have H := H1; clear H1
                obtain rfl := Option.some.inj H
                go_wp2
                go_ret
                exact ⟨rz, beQ HB⟩
               ·replace c96 := Bool.eq_false_iff.mpr c96
                subst c96
                have H1 : ((laws_heldInt64S.f kj79 t976 1).bind fun t990 => (if t990 < 0 then (some false) else (if t990 = t975 then (some true) else (some false)))) = some r := by rw [if_neg (show ¬ (false = true) by decide)] at H; exact H
                clear H; have H := H1; clear H1; replace H := Option.bind_eq_some_iff.mp H; obtain ⟨t990, A970, H⟩ := H
                replace H : (if t990 < 0 then (some false) else (if t990 = t975 then (some true) else (some false))) = some r := H
                have A97 := Aside0.mk A970; clear A970
                by_cases c98 : t990 < 0
                ·rw [if_pos c98] at H
                 have c98b0 : decide (t990 < 0) = true := decide_eq_true c98
                 clear c98
                 obtain rfl := Option.some.inj H
                 go_wp2_with (first | ((with_reducible refine gate_callee (f := 26) rfl ?_); refine goesL_ (some 116) rfl rfl Tryd.func26 (by kernel_rfl) rfl #[.slice Ao81 t976.length co81, .int .i64 1] rfl lz ?_; (with_reducible refine (laws_heldInt64S.calls kj79 _ _ t976 1 t990 _ ?side1 ?side2 A97.out).mono ?_); (case side1 => have q_ := Aside0.mk (Kd.R_reads' HO_12.out).2.2; exact cQ q_); (case side2 => exact (Kd.R_reads' HO_12.out).2.1); rintro e w' ⟨rfl, ⟨nd, rfl⟩⟩; refine ⟨_, rfl, ?_⟩))
                 go_ret
                 exact ⟨rz, beQ HB⟩
                ·rw [if_neg c98] at H
                 have c98b0 : decide (t990 < 0) = false := decide_eq_false c98
                 clear c98
                 by_cases c99 : t990 = t975
                 ·rw [if_pos c99] at H
                  have c99b0 : (t990 == t975) = true := beq_iff_eq.mpr c99
                  have c99b1 : (t990 != t975) = false := bne_eq_false_iff_eq.mpr c99
                  clear c99
                  obtain rfl := Option.some.inj H
                  go_wp2_with (first | ((with_reducible refine gate_callee (f := 26) rfl ?_); refine goesL_ (some 116) rfl rfl Tryd.func26 (by kernel_rfl) rfl #[.slice Ao81 t976.length co81, .int .i64 1] rfl lz ?_; (with_reducible refine (laws_heldInt64S.calls kj79 _ _ t976 1 t990 _ ?side1 ?side2 A97.out).mono ?_); (case side1 => have q_ := Aside0.mk (Kd.R_reads' HO_12.out).2.2; exact cQ q_); (case side2 => exact (Kd.R_reads' HO_12.out).2.1); rintro e w' ⟨rfl, ⟨nd, rfl⟩⟩; refine ⟨_, rfl, ?_⟩))
                  go_ret
                  exact ⟨rz, beQ HB⟩
                 ·rw [if_neg c99] at H
                  have c99b0 : (t990 == t975) = false := beq_eq_false_iff_ne.mpr c99
                  have c99b1 : (t990 != t975) = true := bne_iff_ne.mpr c99
                  obtain rfl := Option.some.inj H
                  go_wp2_with (first | ((with_reducible refine gate_callee (f := 26) rfl ?_); refine goesL_ (some 116) rfl rfl Tryd.func26 (by kernel_rfl) rfl #[.slice Ao81 t976.length co81, .int .i64 1] rfl lz ?_; (with_reducible refine (laws_heldInt64S.calls kj79 _ _ t976 1 t990 _ ?side1 ?side2 A97.out).mono ?_); (case side1 => have q_ := Aside0.mk (Kd.R_reads' HO_12.out).2.2; exact cQ q_); (case side2 => exact (Kd.R_reads' HO_12.out).2.1); rintro e w' ⟨rfl, ⟨nd, rfl⟩⟩; refine ⟨_, rfl, ?_⟩))
                  go_ret
                  exact ⟨rz, beQ HB⟩
            ·rw [if_neg c76] at H
             have c76b0 : (t977 == t975) = false := beq_eq_false_iff_ne.mpr c76
             have c76b1 : (t977 != t975) = true := bne_iff_ne.mpr c76
             obtain rfl := Option.some.inj H
             obtain ⟨Ao100, co100, eo100⟩ := Kd.R_slice HO_12.out; subst eo100
             go_wp2_with (first | ((with_reducible refine gate_callee (f := 25) rfl ?_); refine goesL_ (some 87) rfl rfl Tryd.func25 (by kernel_rfl) rfl #[.slice Ao100 t956.length co100, .int .i64 1] rfl lz ?_; (with_reducible refine (laws_markInt64S.calls kj51 (fun k_ => some k_ = (.slice Ao100 t956.length co100 : Value).ownBlock) (.slice Ao100 t956.length co100) t956 1 t975 t976 w _ ?side1 ?side2 A71.out).mono ?_); (case side1 => repeat (first | (with_reducible first | exact HB.out | apply below_alloc | apply pw_below_drewN | apply below_drew1 | refine below_set ?_ GE935.out | refine below_set ?_ GE952.out) | exact HB.out)); (case side2 => exact Kd.R_tight rfl HO_12.out); rintro e w101 ⟨rfl, hy0, hb, hkp⟩; refine ⟨_, rfl, ?_⟩; replace HO_8 := Aside0.mk (Kd.R_mono (ok' := fun k_ => some k_ ≠ (.slice Ao100 t956.length co100 : Value).ownBlock ∧ some k_ ≠ (.slice Ao32 t971.length co32 : Value).ownBlock) (Kd.R_keptB (HO_8.out) hkp (fun k_ hk_ hs_ => (hk_.1) hs_)) (fun k_ hk_ => ⟨hk_.1.1, hk_.1.2⟩)); replace HO_953001 := Aside0.mk (Kd.R_mono (ok' := fun k_ => some k_ ≠ (v945 : Value).ownBlock ∧ some k_ ≠ (.slice Ao100 t956.length co100 : Value).ownBlock) (Kd.R_keptB (HO_953001.out) hkp (fun k_ hk_ hs_ => (hk_.2) hs_)) (fun k_ hk_ => ⟨hk_.1.1, hk_.1.2⟩)); replace BK935 := Aside0.mk (blk_kept (blkQ BK935) hkp (fun hs_ => (fun e_ => (Kd.R_ne HO_12.out BK935.out (by decide)) e_) hs_)); replace BK952 := Aside0.mk (blk_kept (blkQ BK952) hkp (fun hs_ => (fun e_ => (Kd.R_ne HO_12.out BK952.out (by decide)) e_) hs_)); replace HO_12 := Aside0.mk (Kd.R_reok rfl hy0 (fun k_ e_ => HO_12.out.1 k_ e_)); replace HB := Aside0.mk (hb); (try clear hb); (try clear hkp); (try clear hy0)) | ((with_reducible refine gate_callee (f := 26) rfl ?_); refine goesL_ (some 90) rfl rfl Tryd.func26 (by kernel_rfl) rfl #[.slice Ao100 t976.length co100, .int .i64 1] rfl (by (try simp only [List.map_toArray, List.map_cons, List.map_nil]); first | done | (rw [show t976.length = t956.length from (Kd.R_reads' HO_12.out).1.symm] <;> rfl) | rfl | (simp only [List.length_drop, List.length_take]; rfl)) ?_; (with_reducible refine (laws_heldInt64S.calls kj51 _ _ t976 1 t977 _ ?side1 ?side2 A72.out).mono ?_); (case side1 => have q_ := Aside0.mk (Kd.R_reads' HO_12.out).2.2; exact cQ q_); (case side2 => rw [show t976.length = t956.length from (Kd.R_reads' HO_12.out).1.symm]; exact (Kd.R_reads' HO_12.out).2.1); rintro e w' ⟨rfl, ⟨nd, rfl⟩⟩; refine ⟨_, rfl, ?_⟩))
             go_ret
             exact ⟨rz, beQ HB⟩
       ·replace c49 := Bool.eq_false_iff.mpr c49
        subst c49
        have H1 : (some false) = some r := by rw [if_neg (show ¬ (false = true) by decide)] at H; exact H
        clear H; have H := H1; clear H1
        obtain rfl := Option.some.inj H
        try go_wp2
        replace HO_8 := Aside0.mk (Kd.R_drew HO_8.out); replace HO_11 := Aside0.mk (Kd.R_drew HO_11.out); replace HO_12 := Aside0.mk (Kd.R_drew HO_12.out); replace HO_953001 := Aside0.mk (Kd.R_drew HO_953001.out); replace BK935 := Aside0.mk (blk_drew BK935.out); replace BK952 := Aside0.mk (blk_drew BK952.out); replace HB := Aside0.mk (below_drew1 HB.out)
        refine start_ (n := 5) (S := fun w' => w'.cell? ⟨gb952, 0, none⟩ = some (.int .i64 t948) ∧ w'.cell? ⟨gb952, 1, none⟩ = some (.slice Ao32 t949.length co32) ∧ w'.cell? ⟨gb935, 0, none⟩ = some (.int .i64 a0_0) ∧ w'.cell? ⟨gb935, 1, none⟩ = some (.slice A0_1 l0_1.length c0_1)) (ds := []) #[false, false, false, false, false] (by kernel_rfl) rfl rfl ⟨bc BK952 0, bc BK952 1, bc BK935 0, bc BK935 1⟩ (fun hHeld => ?_)
        generalize wc.drew = w102 at HO_8 HO_11 HO_12 HO_953001 BK935 BK952 HB hHeld ⊢
        refine take_ (i := 0) (N := some 56) (v := ?_) (a' := ?_) #[true, false, false, false, false] rfl rfl (by kernel_rfl) (fun _ _ _ h => h) (Or.inl ⟨by rfl, ?_⟩) hHeld ?_ ?_
        rotate_left
        ·rintro w' ⟨s0, s1, s2, s3⟩
         go_simp
         with_reducible rfl
        rotate_left
        ·simp only [Act.put, s1, s2, s3, i64_w, i32_w]
         rfl
        refine take_ (i := 1) (N := some 57) (v := ?_) (a' := ?_) #[true, true, false, false, false] rfl rfl (by kernel_rfl) (fun _ _ _ h => h) (Or.inl ⟨by rfl, ?_⟩) hHeld ?_ ?_
        rotate_left
        ·rintro w' ⟨s0, s1, s2, s3⟩
         go_simp
         with_reducible rfl
        rotate_left
        ·simp only [Act.put, s1, s2, s3, i64_w, i32_w]
         rfl
        refine one_ (i := 2) (N := some 58) #[true, true, true, false, false] rfl rfl (by kernel_rfl) (by decide) (fun K hK => ?_)
        refine goes_ Tryd.func17 (by kernel_rfl) rfl #[.agg #[.int .i64 a0_0, .slice A0_1 l0_1.length c0_1]] (by rfl) rfl rfl lz ?_
        with_reducible refine (laws_toAlphabet.calls kj16 a0_0 _ _ l0_1 t961 t962 _ ?side1 ?side2 A44.out).mono ?_
        (case side1 => have q_ := Aside0.mk (Kd.C_below HR0_1.out HB.out); exact cQ q_)
        (case side2 => exact HC0_1.out)
        rintro e w103 ⟨v963, rfl, ho0, hb⟩
        refine ⟨_, rfl, ?_⟩
        have HO964 := Aside0.mk (Kd.R_lower (Kd.R_new' (Kd.R_new' (Kd.R_new' (Kd.R_new' ho0 (Kd.R_lt (kdQ HO_8))) (Kd.R_lt (kdQ HO_11))) (Kd.R_lt (kdQ HO_12))) (Kd.R_lt (kdQ HO_953001))) (below_size (beQ HB))); replace HO_8 := Aside0.mk (Kd.R_elder' (kdQ HO_8) (Kd.R_base ho0) hb); replace HO_11 := Aside0.mk (Kd.R_elder' (kdQ HO_11) (Kd.R_base ho0) hb); replace HO_12 := Aside0.mk (Kd.R_elder' (kdQ HO_12) (Kd.R_base ho0) hb); replace HO_953001 := Aside0.mk (Kd.R_elder' (kdQ HO_953001) (Kd.R_base ho0) hb); replace BK935 := bb BK935 hb; replace BK952 := bb BK952 hb; replace HB := Aside0.mk (below_step (beQ HB) hb)
        (try clear hb)
        (try clear hb2)
        (try clear hk)
        (try clear hi)
        (try clear ho0)
        obtain ⟨Ao104, co104, eo104⟩ := Kd.R_slice HO964.out
        (first | subst eo104 | (injection eo104 with f1_ f2_ f3_; have f4_ := f1_.symm; have f5_ := f3_.symm; clear f1_ f2_ f3_; subst f4_; subst f5_))
        refine hK.out _ _ ⟨bc BK952 0, bc BK952 1, bc BK935 0, bc BK935 1⟩ (fun hHeld => ?_)
        clear hK K
        refine norm_ (a' := ?_) ?_ ?_
        rotate_left
        ·show Act.put _ (some 58) _ = _
         simp only [Act.put, s1, s2, s3, i64_w, i32_w]
         rfl
        refine one_ (i := 3) (N := some 59) #[true, true, true, true, false] rfl rfl (by kernel_rfl) (by decide) (fun K hK => ?_)
        refine goes_ Tryd.func20 (by kernel_rfl) rfl #[.agg #[.int .i64 t948, .slice Ao32 t949.length co32], .agg #[.int .i64 t961, .slice Ao104 t962.length co104]] (by rfl) rfl rfl lz ?_
        with_reducible refine (laws_eqAlphabet.calls kj16 t948 _ _ t949 t961 _ _ t962 true _ ?side1 ?side2 ?side3 ?side4 A45.out).mono ?_
        (case side1 => have q_ := Aside0.mk (Kd.R_reads' HO_953001.out).2.2; exact cQ q_)
        (case side2 => exact (Kd.R_reads' HO_953001.out).2.1)
        (case side3 => have q_ := Aside0.mk (Kd.R_reads' HO964.out).2.2; exact cQ q_)
        (case side4 => exact (Kd.R_reads' HO964.out).2.1)
        rintro e w105 ⟨rfl, hb⟩
        refine ⟨_, rfl, ?_⟩
        replace HO_8 := kb HO_8 hb; replace HO_11 := kb HO_11 hb; replace HO_12 := kb HO_12 hb; replace HO_953001 := kb HO_953001 hb; replace HO964 := kb HO964 hb; replace BK935 := bb BK935 hb; replace BK952 := bb BK952 hb; replace HB := Aside0.mk (below_step (beQ HB) hb)
        (try clear hb)
        (try clear hb2)
        (try clear hk)
        (try clear hi)
        refine hK.out _ _ ⟨bc BK952 0, bc BK952 1, bc BK935 0, bc BK935 1⟩ (fun hHeld => ?_)
        clear hK K
        refine norm_ (a' := ?_) ?_ ?_
        rotate_left
        ·show Act.put _ (some 59) _ = _
         simp only [Act.put, s1, s2, s3, i64_w, i32_w]
         rfl
        refine pure_ (i := 4) (N := some 60) (v := ?_) (a' := ?_) #[true, true, true, true, true] rfl rfl (by kernel_rfl) (fun _ _ _ h => h) (Or.inl ⟨by rfl, ?_⟩) ?_ ?_
        rotate_left
        ·intro w'
         go_simp
         with_reducible rfl
        rotate_left
        ·simp only [Act.put, s1, s2, s3, i64_w, i32_w]
         rfl
        refine done_ (by kernel_rfl) ?_
        try go_wp2_with (first | ((with_reducible refine gate_callee (f := 18) rfl ?_); refine goesL_ (some 63) rfl rfl Tryd.func18 (by kernel_rfl) rfl #[.slice A1 l1.length c1] rfl lz ?_; (with_reducible refine (laws_toInt64S.calls kj16 _ _ l1 t966 _ ?side1 ?side2 A47.out).mono ?_); (case side1 => have q_ := Aside0.mk (Kd.C_below HR1.out HB.out); exact cQ q_); (case side2 => exact HC1.out); rintro e w106 ⟨v967, rfl, ho0, hb⟩; refine ⟨_, rfl, ?_⟩; have HO968 := Aside0.mk (Kd.R_lower (Kd.R_new' (Kd.R_new' (Kd.R_new' (Kd.R_new' (Kd.R_new' ho0 (Kd.R_lt (kdQ HO_8))) (Kd.R_lt (kdQ HO_11))) (Kd.R_lt (kdQ HO_12))) (Kd.R_lt (kdQ HO_953001))) (Kd.R_lt (kdQ HO964))) (below_size (beQ HB))); replace HO_8 := Aside0.mk (Kd.R_elder' (kdQ HO_8) (Kd.R_base ho0) hb); replace HO_11 := Aside0.mk (Kd.R_elder' (kdQ HO_11) (Kd.R_base ho0) hb); replace HO_12 := Aside0.mk (Kd.R_elder' (kdQ HO_12) (Kd.R_base ho0) hb); replace HO_953001 := Aside0.mk (Kd.R_elder' (kdQ HO_953001) (Kd.R_base ho0) hb); replace HO964 := Aside0.mk (Kd.R_elder' (kdQ HO964) (Kd.R_base ho0) hb); replace BK935 := bb BK935 hb; replace BK952 := bb BK952 hb; replace HB := Aside0.mk (below_step (beQ HB) hb); (try clear hb); (try clear hb2); (try clear hk); (try clear hi); (try clear ho0); obtain ⟨Ao107, co107, eo107⟩ := Kd.R_slice HO968.out; subst eo107) | ((with_reducible refine gate_callee (f := 21) rfl ?_); refine goesL_ (some 64) rfl rfl Tryd.func21 (by kernel_rfl) rfl #[.slice Ao35 t953.length co35, .slice Ao107 t966.length co107] rfl lz ?_; (with_reducible refine (laws_eqInt64S.calls kj16 _ _ t953 _ _ t966 false _ ?side1 ?side2 ?side3 ?side4 A48.out).mono ?_); (case side1 => have q_ := Aside0.mk (Kd.R_reads' HO_11.out).2.2; exact cQ q_); (case side2 => exact (Kd.R_reads' HO_11.out).2.1); (case side3 => have q_ := Aside0.mk (Kd.R_reads' HO968.out).2.2; exact cQ q_); (case side4 => exact (Kd.R_reads' HO968.out).2.1); rintro e w' ⟨rfl, ⟨nd, rfl⟩⟩; refine ⟨_, rfl, ?_⟩))
        go_ret
        exact ⟨rz, beQ HB⟩
      ·replace c46 := Bool.eq_false_iff.mpr c46
       subst c46
       have H1 : (some false) = some r := by rw [if_neg (show ¬ (false = true) by decide)] at H; exact H
       clear H; have H := H1; clear H1
       obtain rfl := Option.some.inj H
       try go_wp2
       replace HO_8 := Aside0.mk (Kd.R_drew HO_8.out); replace HO_11 := Aside0.mk (Kd.R_drew HO_11.out); replace HO_12 := Aside0.mk (Kd.R_drew HO_12.out); replace HO_953001 := Aside0.mk (Kd.R_drew HO_953001.out); replace BK935 := Aside0.mk (blk_drew BK935.out); replace BK952 := Aside0.mk (blk_drew BK952.out); replace HB := Aside0.mk (below_drew1 HB.out)
       refine start_ (n := 5) (S := fun w' => w'.cell? ⟨gb952, 0, none⟩ = some (.int .i64 t948) ∧ w'.cell? ⟨gb952, 1, none⟩ = some (.slice Ao32 t949.length co32) ∧ w'.cell? ⟨gb935, 0, none⟩ = some (.int .i64 a0_0) ∧ w'.cell? ⟨gb935, 1, none⟩ = some (.slice A0_1 l0_1.length c0_1)) (ds := []) #[false, false, false, false, false] (by kernel_rfl) rfl rfl ⟨bc BK952 0, bc BK952 1, bc BK935 0, bc BK935 1⟩ (fun hHeld => ?_)
       generalize wc.drew = w108 at HO_8 HO_11 HO_12 HO_953001 BK935 BK952 HB hHeld ⊢
       refine take_ (i := 0) (N := some 56) (v := ?_) (a' := ?_) #[true, false, false, false, false] rfl rfl (by kernel_rfl) (fun _ _ _ h => h) (Or.inl ⟨by rfl, ?_⟩) hHeld ?_ ?_
       rotate_left
       ·rintro w' ⟨s0, s1, s2, s3⟩
        go_simp
        with_reducible rfl
       rotate_left
       ·simp only [Act.put, s1, s2, s3, i64_w, i32_w]
        rfl
       refine take_ (i := 1) (N := some 57) (v := ?_) (a' := ?_) #[true, true, false, false, false] rfl rfl (by kernel_rfl) (fun _ _ _ h => h) (Or.inl ⟨by rfl, ?_⟩) hHeld ?_ ?_
       rotate_left
       ·rintro w' ⟨s0, s1, s2, s3⟩
        go_simp
        with_reducible rfl
       rotate_left
       ·simp only [Act.put, s1, s2, s3, i64_w, i32_w]
        rfl
       refine one_ (i := 2) (N := some 58) #[true, true, true, false, false] rfl rfl (by kernel_rfl) (by decide) (fun K hK => ?_)
       refine goes_ Tryd.func17 (by kernel_rfl) rfl #[.agg #[.int .i64 a0_0, .slice A0_1 l0_1.length c0_1]] (by rfl) rfl rfl lz ?_
       with_reducible refine (laws_toAlphabet.calls kj16 a0_0 _ _ l0_1 t961 t962 _ ?side1 ?side2 A44.out).mono ?_
       (case side1 => have q_ := Aside0.mk (Kd.C_below HR0_1.out HB.out); exact cQ q_)
       (case side2 => exact HC0_1.out)
       rintro e w109 ⟨v963, rfl, ho0, hb⟩
       refine ⟨_, rfl, ?_⟩
       have HO964 := Aside0.mk (Kd.R_lower (Kd.R_new' (Kd.R_new' (Kd.R_new' (Kd.R_new' ho0 (Kd.R_lt (kdQ HO_8))) (Kd.R_lt (kdQ HO_11))) (Kd.R_lt (kdQ HO_12))) (Kd.R_lt (kdQ HO_953001))) (below_size (beQ HB))); replace HO_8 := Aside0.mk (Kd.R_elder' (kdQ HO_8) (Kd.R_base ho0) hb); replace HO_11 := Aside0.mk (Kd.R_elder' (kdQ HO_11) (Kd.R_base ho0) hb); replace HO_12 := Aside0.mk (Kd.R_elder' (kdQ HO_12) (Kd.R_base ho0) hb); replace HO_953001 := Aside0.mk (Kd.R_elder' (kdQ HO_953001) (Kd.R_base ho0) hb); replace BK935 := bb BK935 hb; replace BK952 := bb BK952 hb; replace HB := Aside0.mk (below_step (beQ HB) hb)
       (try clear hb)
       (try clear hb2)
       (try clear hk)
       (try clear hi)
       (try clear ho0)
       obtain ⟨Ao110, co110, eo110⟩ := Kd.R_slice HO964.out
       (first | subst eo110 | (injection eo110 with f1_ f2_ f3_; have f4_ := f1_.symm; have f5_ := f3_.symm; clear f1_ f2_ f3_; subst f4_; subst f5_))
       refine hK.out _ _ ⟨bc BK952 0, bc BK952 1, bc BK935 0, bc BK935 1⟩ (fun hHeld => ?_)
       clear hK K
       refine norm_ (a' := ?_) ?_ ?_
       rotate_left
       ·show Act.put _ (some 58) _ = _
        simp only [Act.put, s1, s2, s3, i64_w, i32_w]
        rfl
       refine one_ (i := 3) (N := some 59) #[true, true, true, true, false] rfl rfl (by kernel_rfl) (by decide) (fun K hK => ?_)
       refine goes_ Tryd.func20 (by kernel_rfl) rfl #[.agg #[.int .i64 t948, .slice Ao32 t949.length co32], .agg #[.int .i64 t961, .slice Ao110 t962.length co110]] (by rfl) rfl rfl lz ?_
       with_reducible refine (laws_eqAlphabet.calls kj16 t948 _ _ t949 t961 _ _ t962 false _ ?side1 ?side2 ?side3 ?side4 A45.out).mono ?_
       (case side1 => have q_ := Aside0.mk (Kd.R_reads' HO_953001.out).2.2; exact cQ q_)
       (case side2 => exact (Kd.R_reads' HO_953001.out).2.1)
       (case side3 => have q_ := Aside0.mk (Kd.R_reads' HO964.out).2.2; exact cQ q_)
       (case side4 => exact (Kd.R_reads' HO964.out).2.1)
       rintro e w111 ⟨rfl, hb⟩
       refine ⟨_, rfl, ?_⟩
       replace HO_8 := kb HO_8 hb; replace HO_11 := kb HO_11 hb; replace HO_12 := kb HO_12 hb; replace HO_953001 := kb HO_953001 hb; replace HO964 := kb HO964 hb; replace BK935 := bb BK935 hb; replace BK952 := bb BK952 hb; replace HB := Aside0.mk (below_step (beQ HB) hb)
       (try clear hb)
       (try clear hb2)
       (try clear hk)
       (try clear hi)
       refine hK.out _ _ ⟨bc BK952 0, bc BK952 1, bc BK935 0, bc BK935 1⟩ (fun hHeld => ?_)
       clear hK K
       refine norm_ (a' := ?_) ?_ ?_
       rotate_left
       ·show Act.put _ (some 59) _ = _
        simp only [Act.put, s1, s2, s3, i64_w, i32_w]
        rfl
       refine pure_ (i := 4) (N := some 60) (v := ?_) (a' := ?_) #[true, true, true, true, true] rfl rfl (by kernel_rfl) (fun _ _ _ h => h) (Or.inl ⟨by rfl, ?_⟩) ?_ ?_
       rotate_left
       ·intro w'
        go_simp
        with_reducible rfl
       rotate_left
       ·simp only [Act.put, s1, s2, s3, i64_w, i32_w]
        rfl
       refine done_ (by kernel_rfl) ?_
       try go_wp2
       go_ret
       exact ⟨rz, beQ HB⟩

end Go.Proofs.YtlpodkpnoopnnaaDoor.G
