/- How the program's functions compute, function by function: each is told by a plain Lean function of the same answers, under the condition that this one answers. Written by a program of this project over the seat's translation; Lean checks it. -/
import Derived.Test.YtlpodkpnoopnnaaDoorG0
import Derived.Test.YtlpodkpnoopnnaaDoorGQ01a
import Derived.Test.YtlpodkpnoopnnaaDoorGQ01d
import Derived.Test.YtlpodkpnoopnnaaDoorGQ06
import Derived.Test.YtlpodkpnoopnnaaDoorGQ13a
import Derived.Test.YtlpodkpnoopnnaaDoorGQ13b
import Derived.Test.YtlpodkpnoopnnaaDoorGQ22
import Derived.Test.YtlpodkpnoopnnaaDoorGQ24
namespace Go.Proofs.YtlpodkpnoopnnaaDoor.G
open Go.RowKit Go.Proofs.YtlpodkpnoopnnaaDoorW.PrintWords Go.Proofs.YtlpodkpnoopnnaaDoorW.PrintLast Go.Proofs.YtlpodkpnoopnnaaDoorW.PrintMore
attribute [local go_sem] max2_int min2_int max_two min_two max_three min_three max_four min_four   -- for this text's walks alone
set_option linter.unusedVariables false
set_option linter.unusedSimpArgs false

/-! ### spec_WordOfFoata: function 46 -/
def spec_WordOfFoata.f (k : Nat) (a0_0 : Int) (l0_1 : List Int) (l1 : List Int) : Option (List Int × Int) := (spec_l02Is.f k a0_0 l0_1).bind fun t1021 => (if t1021 = true then ((spec_l03IsFoata.f k a0_0 l0_1 l1).bind fun t1022 => (if t1022 = true then ((spec_l03Steps.f k l1).bind fun t1023 => ((spec_l03Normal.f k a0_0 l0_1 t1023).bind fun t1026 => (some (t1026, 0)))) else (some (([] : List Int), 5)))) else (some (([] : List Int), 1)))
theorem spec_WordOfFoata.mono : ∀ a0 a1 a2 k, LeO (spec_WordOfFoata.f k a0 a1 a2) (spec_WordOfFoata.f (k + 1) a0 a1 a2) := by
 intro a0 a1 a2 k
 unfold spec_WordOfFoata.f
 repeat' first
   | (with_reducible exact spec_l02Is.mono _ _ _)
   | (with_reducible exact spec_l03IsFoata.mono _ _ _ _)
   | (with_reducible exact spec_l03Normal.mono _ _ _ _)
   | (with_reducible exact spec_l03Steps.mono _ _)
   | (with_reducible exact LeO.refl _)
   | (with_reducible exact LeO.none _)
   | (with_reducible refine LeO.ite ?_ ?_)
   | (with_reducible refine LeO.bind ?_ (fun _ => ?_))
   | exact spec_l02Is.mono _ _ _
   | exact spec_l03IsFoata.mono _ _ _ _
   | exact spec_l03Normal.mono _ _ _ _
   | exact spec_l03Steps.mono _ _
   | exact LeO.none _
   | refine LeO.ite ?_ ?_
   | refine LeO.bind ?_ (fun _ => ?_)
set_option maxHeartbeats 8000000 in
set_option maxRecDepth 100000 in
theorem spec_WordOfFoata.calls (k : Nat) (a0_0 : Int) (A0_1 : Option Addr) (c0_1 : Nat) (l0_1 : List Int) (A1 : Option Addr) (c1 : Nat) (l1 : List Int) (r1 : List Int) (r2 : Int) (w : World) (hr0_1 : Kd.C (Kd.int .i64) w A0_1 l0_1.length l0_1) (hc0_1 : l0_1.length ≤ c0_1) (hr1 : Kd.C (Kd.int .i64) w A1 l1.length l1) (hc1 : l1.length ≤ c1) (h : spec_WordOfFoata.f k a0_0 l0_1 l1 = some (r1, r2)) :
  Calls Tryd.prog 46 #[.agg #[.int .i64 a0_0, .slice A0_1 l0_1.length c0_1], .slice A1 l1.length c1] w fun e w' => ∃ v0_ : Value, e = .returned (.tuple #[v0_, .int .i64 r2]) ∧ Kd.R (Kd.int .i64) 2 w' w.heap.size (fun _ => True) v0_ r1 ∧ Below w.heap.size w w' := by
 have hu28 := Tryd.underlying28; have HR0_1 := Aside0.mk hr0_1; have HC0_1 := Aside0.mk hc0_1; clear hr0_1 hc0_1; have HR1 := Aside0.mk hr1; have HC1 := Aside0.mk hc1; clear hr1 hc1; have HB := Aside0.mk (Below.refl w.heap.size w)
 have H : ((spec_l02Is.f k a0_0 l0_1).bind fun t1021 => (if t1021 = true then ((spec_l03IsFoata.f k a0_0 l0_1 l1).bind fun t1022 => (if t1022 = true then ((spec_l03Steps.f k l1).bind fun t1023 => ((spec_l03Normal.f k a0_0 l0_1 t1023).bind fun t1026 => (some (t1026, 0)))) else (some (([] : List Int), 5)))) else (some (([] : List Int), 1)))) = some (r1, r2) := h
 clear h; replace H := Option.bind_eq_some_iff.mp H; obtain ⟨t1021, A30, H⟩ := H
 replace H : (if t1021 = true then ((spec_l03IsFoata.f k a0_0 l0_1 l1).bind fun t1022 => (if t1022 = true then ((spec_l03Steps.f k l1).bind fun t1023 => ((spec_l03Normal.f k a0_0 l0_1 t1023).bind fun t1026 => (some (t1026, 0)))) else (some (([] : List Int), 5)))) else (some (([] : List Int), 1))) = some (r1, r2) := H
 have A3 := Aside0.mk A30; clear A30
 by_cases c4 : t1021 = true
 ·subst c4
  have H1 : ((spec_l03IsFoata.f k a0_0 l0_1 l1).bind fun t1022 => (if t1022 = true then ((spec_l03Steps.f k l1).bind fun t1023 => ((spec_l03Normal.f k a0_0 l0_1 t1023).bind fun t1026 => (some (t1026, 0)))) else (some (([] : List Int), 5)))) = some (r1, r2) := by rw [if_pos rfl] at H; exact H
  clear H; have H := H1; clear H1; replace H := Option.bind_eq_some_iff.mp H; obtain ⟨t1022, A50, H⟩ := H
  replace H : (if t1022 = true then ((spec_l03Steps.f k l1).bind fun t1023 => ((spec_l03Normal.f k a0_0 l0_1 t1023).bind fun t1026 => (some (t1026, 0)))) else (some (([] : List Int), 5))) = some (r1, r2) := H
  have A5 := Aside0.mk A50; clear A50
  by_cases c6 : t1022 = true
  ·subst c6
   have H1 : ((spec_l03Steps.f k l1).bind fun t1023 => ((spec_l03Normal.f k a0_0 l0_1 t1023).bind fun t1026 => (some (t1026, 0)))) = some (r1, r2) := by rw [if_pos rfl] at H; exact H
   clear H; have H := H1; clear H1; replace H := Option.bind_eq_some_iff.mp H; obtain ⟨t1023, A70, H⟩ := H
   replace H : ((spec_l03Normal.f k a0_0 l0_1 t1023).bind fun t1026 => (some (t1026, 0))) = some (r1, r2) := H
   have A7 := Aside0.mk A70; clear A70; replace H := Option.bind_eq_some_iff.mp H; obtain ⟨t1026, A80, H⟩ := H
   replace H : (some (t1026, 0)) = some (r1, r2) := H
   have A8 := Aside0.mk A80; clear A80
   simp only [Option.some.injEq, Prod.mk.injEq] at H
   obtain ⟨rfl, rfl⟩ := H
   go_enter Tryd.func46, Tryd.ntmps46
   try go_wp2_with (first | ((with_reducible refine gate_dst (N := 2) rfl ?_); refine box_event ?hg (N := 2) ?hd (cs := #[.int .i64 a0_0, .slice A0_1 l0_1.length c0_1]) (t := 28) ?hr ?_; (case hd => rfl); (case hg => rfl); (case hr => first | (go_simp; done) | (go_simp; rfl)); intro gb1020 hg w9 hbox hb; have BK1020 := Aside0.mk (hbox); have GW1020 := Aside0.mk ((by rw [hg]; exact (below_size (beQ HB)) : w.heap.size ≤ gb1020)); have GE1020 := Aside0.mk ((by rw [hg]; exact (below_size (beQ HB)) : w.heap.size ≤ gb1020)); replace HB := Aside0.mk (below_step (beQ HB) hb); clear hb hbox hg; have hcz10_0 : w9.cell? ⟨gb1020, 0, none⟩ = some (.int .i64 a0_0) := bc BK1020 0; have hcz10_1 : w9.cell? ⟨gb1020, 1, none⟩ = some (.slice A0_1 l0_1.length c0_1) := bc BK1020 1; have hfz10_0 := blk_frozen BK1020.out 0; have hfz10_1 := blk_frozen BK1020.out 1) | ((with_reducible refine gate_callee (f := 61) rfl ?_); refine goesL_ (some 7) rfl rfl Tryd.func61 (by kernel_rfl) rfl #[.agg #[.int .i64 a0_0, .slice A0_1 l0_1.length c0_1]] rfl lz ?_; (with_reducible refine (spec_l02Is.calls k a0_0 _ _ l0_1 true _ ?side1 ?side2 A3.out).mono ?_); (case side1 => have q_ := Aside0.mk (Kd.C_below HR0_1.out HB.out); exact cQ q_); (case side2 => exact HC0_1.out); rintro e w11 ⟨rfl, hb⟩; refine ⟨_, rfl, ?_⟩; replace BK1020 := bb BK1020 hb; replace HB := Aside0.mk (below_step (beQ HB) hb); (try clear hb); (try clear hb2); (try clear hk); (try clear hi); have hcz12_0 : w11.cell? ⟨gb1020, 0, none⟩ = some (.int .i64 a0_0) := bc BK1020 0; have hcz12_1 : w11.cell? ⟨gb1020, 1, none⟩ = some (.slice A0_1 l0_1.length c0_1) := bc BK1020 1; have hfz12_0 := blk_frozen BK1020.out 0; have hfz12_1 := blk_frozen BK1020.out 1) | ((with_reducible refine gate_callee (f := 62) rfl ?_); refine goesL_ (some 11) rfl rfl Tryd.func62 (by kernel_rfl) rfl #[.agg #[.int .i64 a0_0, .slice A0_1 l0_1.length c0_1], .slice A1 l1.length c1] rfl lz ?_; (with_reducible refine (spec_l03IsFoata.calls k a0_0 _ _ l0_1 _ _ l1 true _ ?side1 ?side2 ?side3 ?side4 A5.out).mono ?_); (case side1 => have q_ := Aside0.mk (Kd.C_below HR0_1.out HB.out); exact cQ q_); (case side2 => exact HC0_1.out); (case side3 => have q_ := Aside0.mk (Kd.C_below HR1.out HB.out); exact cQ q_); (case side4 => exact HC1.out); rintro e w13 ⟨rfl, hb⟩; refine ⟨_, rfl, ?_⟩; replace BK1020 := bb BK1020 hb; replace HB := Aside0.mk (below_step (beQ HB) hb); (try clear hb); (try clear hb2); (try clear hk); (try clear hi)))
   replace BK1020 := Aside0.mk (blk_drew BK1020.out); replace HB := Aside0.mk (below_drew1 HB.out)
   refine start_ (n := 6) (S := fun w' => w'.cell? ⟨gb1020, 0, none⟩ = some (.int .i64 a0_0) ∧ w'.cell? ⟨gb1020, 1, none⟩ = some (.slice A0_1 l0_1.length c0_1)) (ds := []) #[false, false, false, false, false, false] (by kernel_rfl) rfl rfl ⟨bc BK1020 0, bc BK1020 1⟩ (fun hHeld => ?_)
   generalize w13.drew = w14 at BK1020 HB hHeld ⊢
   refine pure_ (i := 1) (N := some 14) (v := ?_) (a' := ?_) #[false, true, false, false, false, false] rfl rfl (by kernel_rfl) (fun _ _ _ h => h) (Or.inl ⟨by rfl, ?_⟩) ?_ ?_
   rotate_left
   ·intro w'
    go_simp
    with_reducible rfl
   rotate_left
   ·simp only [Act.put, s1, s2, s3, i64_w, i32_w]
    rfl
   refine take_ (i := 0) (N := some 13) (v := ?_) (a' := ?_) #[true, true, false, false, false, false] rfl rfl (by kernel_rfl) (fun _ _ _ h => h) (Or.inl ⟨by rfl, ?_⟩) hHeld ?_ ?_
   rotate_left
   ·rintro w' ⟨s0, s1⟩
    go_simp
    with_reducible rfl
   rotate_left
   ·simp only [Act.put, s1, s2, s3, i64_w, i32_w]
    rfl
   refine one_ (i := 2) (N := some 15) #[true, true, true, false, false, false] rfl rfl (by kernel_rfl) (by decide) (fun K hK => ?_)
   refine goes_ Tryd.func84 (by kernel_rfl) rfl #[.slice A1 l1.length c1] (by rfl) rfl rfl lz ?_
   with_reducible refine (spec_l03Steps.calls k _ _ l1 t1023 _ ?side1 ?side2 A7.out).mono ?_
   (case side1 => have q_ := Aside0.mk (Kd.C_below HR1.out HB.out); exact cQ q_)
   (case side2 => exact HC1.out)
   rintro e w15 ⟨v1024, rfl, ho0, hb⟩
   refine ⟨_, rfl, ?_⟩
   have HO1025 := Aside0.mk (Kd.R_lower ho0 (below_size (beQ HB))); replace BK1020 := bb BK1020 hb; replace HB := Aside0.mk (below_step (beQ HB) hb)
   (try clear hb)
   (try clear hb2)
   (try clear hk)
   (try clear hi)
   (try clear ho0)
   obtain ⟨Ao16, co16, eo16⟩ := Kd.R_slice HO1025.out
   (first | subst eo16 | (injection eo16 with f1_ f2_ f3_; have f4_ := f1_.symm; have f5_ := f3_.symm; clear f1_ f2_ f3_; subst f4_; subst f5_))
   refine hK.out _ _ ⟨bc BK1020 0, bc BK1020 1⟩ (fun hHeld => ?_)
   clear hK K
   refine norm_ (a' := ?_) ?_ ?_
   rotate_left
   ·show Act.put _ (some 15) _ = _
    simp only [Act.put, s1, s2, s3, i64_w, i32_w]
    rfl
   refine one_ (i := 3) (N := some 16) #[true, true, true, true, false, false] rfl rfl (by kernel_rfl) (by decide) (fun K hK => ?_)
   refine goes_ Tryd.func71 (by kernel_rfl) rfl #[.agg #[.int .i64 a0_0, .slice A0_1 l0_1.length c0_1], .slice Ao16 t1023.length co16] (by rfl) rfl rfl lz ?_
   with_reducible refine (spec_l03Normal.calls k a0_0 _ _ l0_1 _ _ t1023 t1026 _ ?side1 ?side2 ?side3 ?side4 A8.out).mono ?_
   (case side1 => have q_ := Aside0.mk (Kd.C_below HR0_1.out HB.out); exact cQ q_)
   (case side2 => exact HC0_1.out)
   (case side3 => have q_ := Aside0.mk (Kd.R_reads' HO1025.out).2.2; exact cQ q_)
   (case side4 => exact (Kd.R_reads' HO1025.out).2.1)
   rintro e w17 ⟨v1027, rfl, ho0, hb⟩
   refine ⟨_, rfl, ?_⟩
   have HO1028 := Aside0.mk (Kd.R_lower (Kd.R_new' ho0 (Kd.R_lt (kdQ HO1025))) (below_size (beQ HB))); replace HO1025 := Aside0.mk (Kd.R_elder' (kdQ HO1025) (Kd.R_base ho0) hb); replace BK1020 := bb BK1020 hb; replace HB := Aside0.mk (below_step (beQ HB) hb)
   (try clear hb)
   (try clear hb2)
   (try clear hk)
   (try clear hi)
   (try clear ho0)
   refine hK.out _ _ ⟨bc BK1020 0, bc BK1020 1⟩ (fun hHeld => ?_)
   clear hK K
   refine norm_ (a' := ?_) ?_ ?_
   rotate_left
   ·show Act.put _ (some 16) _ = _
    simp only [Act.put, s1, s2, s3, i64_w, i32_w]
    rfl
   refine pure_ (i := 4) (N := some 4) (v := ?_) (a' := ?_) #[true, true, true, true, true, false] rfl rfl (by kernel_rfl) (fun _ _ _ h => h) (Or.inl ⟨by rfl, ?_⟩) ?_ ?_
   rotate_left
   ·intro w'
    go_simp
    with_reducible rfl
   rotate_left
   ·simp only [Act.put, s1, s2, s3, i64_w, i32_w]
    rfl
   refine pure_ (i := 5) (N := some 5) (v := ?_) (a' := ?_) #[true, true, true, true, true, true] rfl rfl (by kernel_rfl) (fun _ _ _ h => h) (Or.inl ⟨by rfl, ?_⟩) ?_ ?_
   rotate_left
   ·intro w'
    go_simp
    with_reducible rfl
   rotate_left
   ·simp only [Act.put, s1, s2, s3, i64_w, i32_w]
    rfl
   refine done_ (by kernel_rfl) ?_
   try go_wp2
   go_ret2
   exact ⟨_, rz, by (with_reducible repeat (first | apply Kd.R_alloc | apply Kd.R_drewN | apply Kd.R_drew)); exact Kd.R_mono HO1028.out (fun _ hk => trivial), beQ HB⟩
  ·replace c6 := Bool.eq_false_iff.mpr c6
   subst c6
   have H1 : (some (([] : List Int), 5)) = some (r1, r2) := by rw [if_neg (show ¬ (false = true) by decide)] at H; exact H
   clear H; have H := H1; clear H1
   simp only [Option.some.injEq, Prod.mk.injEq] at H
   obtain ⟨rfl, rfl⟩ := H
   go_enter Tryd.func46, Tryd.ntmps46
   go_wp2_with (first | ((with_reducible refine gate_dst (N := 2) rfl ?_); refine box_event ?hg (N := 2) ?hd (cs := #[.int .i64 a0_0, .slice A0_1 l0_1.length c0_1]) (t := 28) ?hr ?_; (case hd => rfl); (case hg => rfl); (case hr => first | (go_simp; done) | (go_simp; rfl)); intro gb1020 hg w18 hbox hb; have BK1020 := Aside0.mk (hbox); have GW1020 := Aside0.mk ((by rw [hg]; exact (below_size (beQ HB)) : w.heap.size ≤ gb1020)); have GE1020 := Aside0.mk ((by rw [hg]; exact (below_size (beQ HB)) : w.heap.size ≤ gb1020)); replace HB := Aside0.mk (below_step (beQ HB) hb); clear hb hbox hg; have hcz19_0 : w18.cell? ⟨gb1020, 0, none⟩ = some (.int .i64 a0_0) := bc BK1020 0; have hcz19_1 : w18.cell? ⟨gb1020, 1, none⟩ = some (.slice A0_1 l0_1.length c0_1) := bc BK1020 1; have hfz19_0 := blk_frozen BK1020.out 0; have hfz19_1 := blk_frozen BK1020.out 1) | ((with_reducible refine gate_callee (f := 61) rfl ?_); refine goesL_ (some 7) rfl rfl Tryd.func61 (by kernel_rfl) rfl #[.agg #[.int .i64 a0_0, .slice A0_1 l0_1.length c0_1]] rfl lz ?_; (with_reducible refine (spec_l02Is.calls k a0_0 _ _ l0_1 true _ ?side1 ?side2 A3.out).mono ?_); (case side1 => have q_ := Aside0.mk (Kd.C_below HR0_1.out HB.out); exact cQ q_); (case side2 => exact HC0_1.out); rintro e w20 ⟨rfl, hb⟩; refine ⟨_, rfl, ?_⟩; replace BK1020 := bb BK1020 hb; replace HB := Aside0.mk (below_step (beQ HB) hb); (try clear hb); (try clear hb2); (try clear hk); (try clear hi); have hcz21_0 : w20.cell? ⟨gb1020, 0, none⟩ = some (.int .i64 a0_0) := bc BK1020 0; have hcz21_1 : w20.cell? ⟨gb1020, 1, none⟩ = some (.slice A0_1 l0_1.length c0_1) := bc BK1020 1; have hfz21_0 := blk_frozen BK1020.out 0; have hfz21_1 := blk_frozen BK1020.out 1) | ((with_reducible refine gate_callee (f := 62) rfl ?_); refine goesL_ (some 11) rfl rfl Tryd.func62 (by kernel_rfl) rfl #[.agg #[.int .i64 a0_0, .slice A0_1 l0_1.length c0_1], .slice A1 l1.length c1] rfl lz ?_; (with_reducible refine (spec_l03IsFoata.calls k a0_0 _ _ l0_1 _ _ l1 false _ ?side1 ?side2 ?side3 ?side4 A5.out).mono ?_); (case side1 => have q_ := Aside0.mk (Kd.C_below HR0_1.out HB.out); exact cQ q_); (case side2 => exact HC0_1.out); (case side3 => have q_ := Aside0.mk (Kd.C_below HR1.out HB.out); exact cQ q_); (case side4 => exact HC1.out); rintro e w22 ⟨rfl, hb⟩; refine ⟨_, rfl, ?_⟩; replace BK1020 := bb BK1020 hb; replace HB := Aside0.mk (below_step (beQ HB) hb); (try clear hb); (try clear hb2); (try clear hk); (try clear hi)))
   go_ret2
   exact ⟨_, rz, by first | exact Kd.R_nil _ _ _ _ _ | exact Kd.N_nil _ _ _ _ _ | exact Kd.V_nil _ _ _ _ _ | exact Kd.Q_nil _ _ _ _ _ | exact Kd.S_nil _ _ _ _ _, beQ HB⟩
 ·replace c4 := Bool.eq_false_iff.mpr c4
  subst c4
  have H1 : (some (([] : List Int), 1)) = some (r1, r2) := by rw [if_neg (show ¬ (false = true) by decide)] at H; exact H
  clear H; have H := H1; clear H1
  simp only [Option.some.injEq, Prod.mk.injEq] at H
  obtain ⟨rfl, rfl⟩ := H
  go_enter Tryd.func46, Tryd.ntmps46
  go_wp2_with (first | ((with_reducible refine gate_dst (N := 2) rfl ?_); refine box_event ?hg (N := 2) ?hd (cs := #[.int .i64 a0_0, .slice A0_1 l0_1.length c0_1]) (t := 28) ?hr ?_; (case hd => rfl); (case hg => rfl); (case hr => first | (go_simp; done) | (go_simp; rfl)); intro gb1020 hg w23 hbox hb; have BK1020 := Aside0.mk (hbox); have GW1020 := Aside0.mk ((by rw [hg]; exact (below_size (beQ HB)) : w.heap.size ≤ gb1020)); have GE1020 := Aside0.mk ((by rw [hg]; exact (below_size (beQ HB)) : w.heap.size ≤ gb1020)); replace HB := Aside0.mk (below_step (beQ HB) hb); clear hb hbox hg; have hcz24_0 : w23.cell? ⟨gb1020, 0, none⟩ = some (.int .i64 a0_0) := bc BK1020 0; have hcz24_1 : w23.cell? ⟨gb1020, 1, none⟩ = some (.slice A0_1 l0_1.length c0_1) := bc BK1020 1; have hfz24_0 := blk_frozen BK1020.out 0; have hfz24_1 := blk_frozen BK1020.out 1) | ((with_reducible refine gate_callee (f := 61) rfl ?_); refine goesL_ (some 7) rfl rfl Tryd.func61 (by kernel_rfl) rfl #[.agg #[.int .i64 a0_0, .slice A0_1 l0_1.length c0_1]] rfl lz ?_; (with_reducible refine (spec_l02Is.calls k a0_0 _ _ l0_1 false _ ?side1 ?side2 A3.out).mono ?_); (case side1 => have q_ := Aside0.mk (Kd.C_below HR0_1.out HB.out); exact cQ q_); (case side2 => exact HC0_1.out); rintro e w25 ⟨rfl, hb⟩; refine ⟨_, rfl, ?_⟩; replace BK1020 := bb BK1020 hb; replace HB := Aside0.mk (below_step (beQ HB) hb); (try clear hb); (try clear hb2); (try clear hk); (try clear hi)))
  go_ret2
  exact ⟨_, rz, by first | exact Kd.R_nil _ _ _ _ _ | exact Kd.N_nil _ _ _ _ _ | exact Kd.V_nil _ _ _ _ _ | exact Kd.Q_nil _ _ _ _ _ | exact Kd.S_nil _ _ _ _ _, beQ HB⟩

/-! ### impl_WordOfFoata: function 47 -/
def impl_WordOfFoata.f (k : Nat) (a0_0 : Int) (l0_1 : List Int) (l1 : List Int) : Option (List Int × Int) := (impl_IsAlphabet.f k a0_0 l0_1).bind fun t1030 => (if t1030 = true then ((impl_IsFoataForm.f k a0_0 l0_1 l1).bind fun t1031 => (if t1031 = true then ((impl_wordOfSteps.f k l1).bind fun t1032 => ((impl_ties_normal.f k l0_1 t1032).bind fun t1035 => (some (t1035, 0)))) else (some (([] : List Int), 5)))) else (some (([] : List Int), 1)))
theorem impl_WordOfFoata.mono : ∀ a0 a1 a2 k, LeO (impl_WordOfFoata.f k a0 a1 a2) (impl_WordOfFoata.f (k + 1) a0 a1 a2) := by
 intro a0 a1 a2 k
 unfold impl_WordOfFoata.f
 repeat' first
   | (with_reducible exact impl_IsAlphabet.mono _ _ _)
   | (with_reducible exact impl_IsFoataForm.mono _ _ _ _)
   | (with_reducible exact impl_ties_normal.mono _ _ _)
   | (with_reducible exact impl_wordOfSteps.mono _ _)
   | (with_reducible exact LeO.refl _)
   | (with_reducible exact LeO.none _)
   | (with_reducible refine LeO.ite ?_ ?_)
   | (with_reducible refine LeO.bind ?_ (fun _ => ?_))
   | exact impl_IsAlphabet.mono _ _ _
   | exact impl_IsFoataForm.mono _ _ _ _
   | exact impl_ties_normal.mono _ _ _
   | exact impl_wordOfSteps.mono _ _
   | exact LeO.none _
   | refine LeO.ite ?_ ?_
   | refine LeO.bind ?_ (fun _ => ?_)
set_option maxHeartbeats 8000000 in
set_option maxRecDepth 100000 in
theorem impl_WordOfFoata.calls (k : Nat) (a0_0 : Int) (A0_1 : Option Addr) (c0_1 : Nat) (l0_1 : List Int) (A1 : Option Addr) (c1 : Nat) (l1 : List Int) (r1 : List Int) (r2 : Int) (w : World) (hr0_1 : Kd.C (Kd.int .i64) w A0_1 l0_1.length l0_1) (hc0_1 : l0_1.length ≤ c0_1) (hr1 : Kd.C (Kd.int .i64) w A1 l1.length l1) (hc1 : l1.length ≤ c1) (hT : TabW w) (h : impl_WordOfFoata.f k a0_0 l0_1 l1 = some (r1, r2)) :
  Calls Tryd.prog 47 #[.agg #[.int .i64 a0_0, .slice A0_1 l0_1.length c0_1], .slice A1 l1.length c1] w fun e w' => ∃ v0_ : Value, e = .returned (.tuple #[v0_, .int .i64 r2]) ∧ Kd.R (Kd.int .i64) 2 w' w.heap.size (fun _ => True) v0_ r1 ∧ Below w.heap.size w w' := by
 have hu28 := Tryd.underlying28; have HT := Aside0.mk hT; clear hT; have HR0_1 := Aside0.mk hr0_1; have HC0_1 := Aside0.mk hc0_1; clear hr0_1 hc0_1; have HR1 := Aside0.mk hr1; have HC1 := Aside0.mk hc1; clear hr1 hc1; have HB := Aside0.mk (Below.refl w.heap.size w)
 have H : ((impl_IsAlphabet.f k a0_0 l0_1).bind fun t1030 => (if t1030 = true then ((impl_IsFoataForm.f k a0_0 l0_1 l1).bind fun t1031 => (if t1031 = true then ((impl_wordOfSteps.f k l1).bind fun t1032 => ((impl_ties_normal.f k l0_1 t1032).bind fun t1035 => (some (t1035, 0)))) else (some (([] : List Int), 5)))) else (some (([] : List Int), 1)))) = some (r1, r2) := h
 clear h; replace H := Option.bind_eq_some_iff.mp H; obtain ⟨t1030, A30, H⟩ := H
 replace H : (if t1030 = true then ((impl_IsFoataForm.f k a0_0 l0_1 l1).bind fun t1031 => (if t1031 = true then ((impl_wordOfSteps.f k l1).bind fun t1032 => ((impl_ties_normal.f k l0_1 t1032).bind fun t1035 => (some (t1035, 0)))) else (some (([] : List Int), 5)))) else (some (([] : List Int), 1))) = some (r1, r2) := H
 have A3 := Aside0.mk A30; clear A30
 by_cases c4 : t1030 = true
 ·subst c4
  have H1 : ((impl_IsFoataForm.f k a0_0 l0_1 l1).bind fun t1031 => (if t1031 = true then ((impl_wordOfSteps.f k l1).bind fun t1032 => ((impl_ties_normal.f k l0_1 t1032).bind fun t1035 => (some (t1035, 0)))) else (some (([] : List Int), 5)))) = some (r1, r2) := by rw [if_pos rfl] at H; exact H
  clear H; have H := H1; clear H1; replace H := Option.bind_eq_some_iff.mp H; obtain ⟨t1031, A50, H⟩ := H
  replace H : (if t1031 = true then ((impl_wordOfSteps.f k l1).bind fun t1032 => ((impl_ties_normal.f k l0_1 t1032).bind fun t1035 => (some (t1035, 0)))) else (some (([] : List Int), 5))) = some (r1, r2) := H
  have A5 := Aside0.mk A50; clear A50
  by_cases c6 : t1031 = true
  ·subst c6
   have H1 : ((impl_wordOfSteps.f k l1).bind fun t1032 => ((impl_ties_normal.f k l0_1 t1032).bind fun t1035 => (some (t1035, 0)))) = some (r1, r2) := by rw [if_pos rfl] at H; exact H
   clear H; have H := H1; clear H1; replace H := Option.bind_eq_some_iff.mp H; obtain ⟨t1032, A70, H⟩ := H
   replace H : ((impl_ties_normal.f k l0_1 t1032).bind fun t1035 => (some (t1035, 0))) = some (r1, r2) := H
   have A7 := Aside0.mk A70; clear A70; replace H := Option.bind_eq_some_iff.mp H; obtain ⟨t1035, A80, H⟩ := H
   replace H : (some (t1035, 0)) = some (r1, r2) := H
   have A8 := Aside0.mk A80; clear A80
   simp only [Option.some.injEq, Prod.mk.injEq] at H
   obtain ⟨rfl, rfl⟩ := H
   go_enter Tryd.func47, Tryd.ntmps47
   go_wp2_with (first | (go_at_call 55; (with_reducible refine (impl_Alphabet_ties.calls _ _ _ _ _).mono ?_); rintro e w' ⟨rfl, rfl⟩) | ((with_reducible refine gate_dst (N := 2) rfl ?_); refine box_event ?hg (N := 2) ?hd (cs := #[.int .i64 a0_0, .slice A0_1 l0_1.length c0_1]) (t := 28) ?hr ?_; (case hd => rfl); (case hg => rfl); (case hr => first | (go_simp; done) | (go_simp; rfl)); intro gb1029 hg w9 hbox hb; have BK1029 := Aside0.mk (hbox); have GW1029 := Aside0.mk ((by rw [hg]; exact (below_size (beQ HB)) : w.heap.size ≤ gb1029)); have GE1029 := Aside0.mk ((by rw [hg]; exact (below_size (beQ HB)) : w.heap.size ≤ gb1029)); replace HB := Aside0.mk (below_step (beQ HB) hb); clear hb hbox hg; have hcz10_0 : w9.cell? ⟨gb1029, 0, none⟩ = some (.int .i64 a0_0) := bc BK1029 0; have hcz10_1 : w9.cell? ⟨gb1029, 1, none⟩ = some (.slice A0_1 l0_1.length c0_1) := bc BK1029 1; have hfz10_0 := blk_frozen BK1029.out 0; have hfz10_1 := blk_frozen BK1029.out 1) | ((with_reducible refine gate_callee (f := 63) rfl ?_); refine goesL_ (some 7) rfl rfl Tryd.func63 (by kernel_rfl) rfl #[.agg #[.int .i64 a0_0, .slice A0_1 l0_1.length c0_1]] rfl lz ?_; (with_reducible refine (impl_IsAlphabet.calls k a0_0 _ _ l0_1 true _ ?side1 ?side2 ?side3 A3.out).mono ?_); (case side1 => have q_ := Aside0.mk (Kd.C_below HR0_1.out HB.out); exact cQ q_); (case side2 => exact HC0_1.out); (case side3 => exact TabW.below HT.out (beQ HB)); rintro e w11 ⟨rfl, hb⟩; refine ⟨_, rfl, ?_⟩; replace BK1029 := bb BK1029 hb; replace HB := Aside0.mk (below_step (beQ HB) hb); (try clear hb); (try clear hb2); (try clear hk); (try clear hi); have hcz12_0 : w11.cell? ⟨gb1029, 0, none⟩ = some (.int .i64 a0_0) := bc BK1029 0; have hcz12_1 : w11.cell? ⟨gb1029, 1, none⟩ = some (.slice A0_1 l0_1.length c0_1) := bc BK1029 1; have hfz12_0 := blk_frozen BK1029.out 0; have hfz12_1 := blk_frozen BK1029.out 1) | ((with_reducible refine gate_callee (f := 30) rfl ?_); refine goesL_ (some 11) rfl rfl Tryd.func30 (by kernel_rfl) rfl #[.agg #[.int .i64 a0_0, .slice A0_1 l0_1.length c0_1], .slice A1 l1.length c1] rfl lz ?_; (with_reducible refine (impl_IsFoataForm.calls k a0_0 _ _ l0_1 _ _ l1 true _ ?side1 ?side2 ?side3 ?side4 ?side5 A5.out).mono ?_); (case side1 => have q_ := Aside0.mk (Kd.C_below HR0_1.out HB.out); exact cQ q_); (case side2 => exact HC0_1.out); (case side3 => have q_ := Aside0.mk (Kd.C_below HR1.out HB.out); exact cQ q_); (case side4 => exact HC1.out); (case side5 => exact TabW.below HT.out (beQ HB)); rintro e w13 ⟨rfl, hb⟩; refine ⟨_, rfl, ?_⟩; replace BK1029 := bb BK1029 hb; replace HB := Aside0.mk (below_step (beQ HB) hb); (try clear hb); (try clear hb2); (try clear hk); (try clear hi); have hcz14_0 : w13.cell? ⟨gb1029, 0, none⟩ = some (.int .i64 a0_0) := bc BK1029 0; have hcz14_1 : w13.cell? ⟨gb1029, 1, none⟩ = some (.slice A0_1 l0_1.length c0_1) := bc BK1029 1; have hfz14_0 := blk_frozen BK1029.out 0; have hfz14_1 := blk_frozen BK1029.out 1) | ((with_reducible refine gate_callee (f := 66) rfl ?_); refine goesL_ (some 16) rfl rfl Tryd.func66 (by kernel_rfl) rfl #[.slice A1 l1.length c1] rfl lz ?_; (with_reducible refine (impl_wordOfSteps.calls k _ _ l1 t1032 _ ?side1 ?side2 ?side3 A7.out).mono ?_); (case side1 => have q_ := Aside0.mk (Kd.C_below HR1.out HB.out); exact cQ q_); (case side2 => exact HC1.out); (case side3 => exact TabW.below HT.out (beQ HB)); rintro e w15 ⟨v1033, rfl, ho0, hb⟩; refine ⟨_, rfl, ?_⟩; have HO1034 := Aside0.mk (Kd.R_lower ho0 (below_size (beQ HB))); replace BK1029 := bb BK1029 hb; replace HB := Aside0.mk (below_step (beQ HB) hb); (try clear hb); (try clear hb2); (try clear hk); (try clear hi); (try clear ho0); obtain ⟨Ao16, co16, eo16⟩ := Kd.R_slice HO1034.out; subst eo16) | ((with_reducible refine gate_callee (f := 72) rfl ?_); refine goesL_ (some 17) rfl rfl Tryd.func72 (by kernel_rfl) rfl #[.slice A0_1 l0_1.length c0_1, .slice Ao16 t1032.length co16] rfl lz ?_; (with_reducible refine (impl_ties_normal.calls k _ _ l0_1 (fun k_ => some k_ = (.slice Ao16 t1032.length co16 : Value).ownBlock) _ _ t1032 t1035 _ ?side1 ?side2 ?side3 ?side4 A8.out).mono ?_); (case side1 => have q_ := Aside0.mk (Kd.C_below HR0_1.out HB.out); exact cQ q_); (case side2 => exact HC0_1.out); (case side3 => exact Kd.R_V (Kd.R_tight rfl (Kd.R_types (HO1034.out) BK1029.out (by decide)))); (case side4 => exact TabW.below HT.out (beQ HB)); rintro e w17 ⟨v1036, rfl, ho0, hb⟩; refine ⟨_, rfl, ?_⟩; have HO1037 := Aside0.mk (Kd.R_lower (Kd.R_new' (Kd.R_mono (ok' := fun k_ => True) ho0 (fun _ hk_ => trivial)) (Kd.R_lt (kdQ HO1034))) (below_size (beQ HB))); replace HO1034 := Aside0.mk (Kd.R_elder' (kdQ HO1034) (Kd.R_base ho0) hb); replace BK1029 := bb BK1029 hb; replace HB := Aside0.mk (below_step (beQ HB) hb); (try clear hb); (try clear hb2); (try clear hk); (try clear hi); (try clear ho0)))
   go_ret2
   exact ⟨_, rz, by (with_reducible repeat (first | apply Kd.R_alloc | apply Kd.R_drewN | apply Kd.R_drew)); exact Kd.R_mono HO1037.out (fun _ hk => trivial), beQ HB⟩
  ·replace c6 := Bool.eq_false_iff.mpr c6
   subst c6
   have H1 : (some (([] : List Int), 5)) = some (r1, r2) := by rw [if_neg (show ¬ (false = true) by decide)] at H; exact H
   clear H; have H := H1; clear H1
   simp only [Option.some.injEq, Prod.mk.injEq] at H
   obtain ⟨rfl, rfl⟩ := H
   go_enter Tryd.func47, Tryd.ntmps47
   go_wp2_with (first | (go_at_call 55; (with_reducible refine (impl_Alphabet_ties.calls _ _ _ _ _).mono ?_); rintro e w' ⟨rfl, rfl⟩) | ((with_reducible refine gate_dst (N := 2) rfl ?_); refine box_event ?hg (N := 2) ?hd (cs := #[.int .i64 a0_0, .slice A0_1 l0_1.length c0_1]) (t := 28) ?hr ?_; (case hd => rfl); (case hg => rfl); (case hr => first | (go_simp; done) | (go_simp; rfl)); intro gb1029 hg w18 hbox hb; have BK1029 := Aside0.mk (hbox); have GW1029 := Aside0.mk ((by rw [hg]; exact (below_size (beQ HB)) : w.heap.size ≤ gb1029)); have GE1029 := Aside0.mk ((by rw [hg]; exact (below_size (beQ HB)) : w.heap.size ≤ gb1029)); replace HB := Aside0.mk (below_step (beQ HB) hb); clear hb hbox hg; have hcz19_0 : w18.cell? ⟨gb1029, 0, none⟩ = some (.int .i64 a0_0) := bc BK1029 0; have hcz19_1 : w18.cell? ⟨gb1029, 1, none⟩ = some (.slice A0_1 l0_1.length c0_1) := bc BK1029 1; have hfz19_0 := blk_frozen BK1029.out 0; have hfz19_1 := blk_frozen BK1029.out 1) | ((with_reducible refine gate_callee (f := 63) rfl ?_); refine goesL_ (some 7) rfl rfl Tryd.func63 (by kernel_rfl) rfl #[.agg #[.int .i64 a0_0, .slice A0_1 l0_1.length c0_1]] rfl lz ?_; (with_reducible refine (impl_IsAlphabet.calls k a0_0 _ _ l0_1 true _ ?side1 ?side2 ?side3 A3.out).mono ?_); (case side1 => have q_ := Aside0.mk (Kd.C_below HR0_1.out HB.out); exact cQ q_); (case side2 => exact HC0_1.out); (case side3 => exact TabW.below HT.out (beQ HB)); rintro e w20 ⟨rfl, hb⟩; refine ⟨_, rfl, ?_⟩; replace BK1029 := bb BK1029 hb; replace HB := Aside0.mk (below_step (beQ HB) hb); (try clear hb); (try clear hb2); (try clear hk); (try clear hi); have hcz21_0 : w20.cell? ⟨gb1029, 0, none⟩ = some (.int .i64 a0_0) := bc BK1029 0; have hcz21_1 : w20.cell? ⟨gb1029, 1, none⟩ = some (.slice A0_1 l0_1.length c0_1) := bc BK1029 1; have hfz21_0 := blk_frozen BK1029.out 0; have hfz21_1 := blk_frozen BK1029.out 1) | ((with_reducible refine gate_callee (f := 30) rfl ?_); refine goesL_ (some 11) rfl rfl Tryd.func30 (by kernel_rfl) rfl #[.agg #[.int .i64 a0_0, .slice A0_1 l0_1.length c0_1], .slice A1 l1.length c1] rfl lz ?_; (with_reducible refine (impl_IsFoataForm.calls k a0_0 _ _ l0_1 _ _ l1 false _ ?side1 ?side2 ?side3 ?side4 ?side5 A5.out).mono ?_); (case side1 => have q_ := Aside0.mk (Kd.C_below HR0_1.out HB.out); exact cQ q_); (case side2 => exact HC0_1.out); (case side3 => have q_ := Aside0.mk (Kd.C_below HR1.out HB.out); exact cQ q_); (case side4 => exact HC1.out); (case side5 => exact TabW.below HT.out (beQ HB)); rintro e w22 ⟨rfl, hb⟩; refine ⟨_, rfl, ?_⟩; replace BK1029 := bb BK1029 hb; replace HB := Aside0.mk (below_step (beQ HB) hb); (try clear hb); (try clear hb2); (try clear hk); (try clear hi)))
   go_ret2
   exact ⟨_, rz, by first | exact Kd.R_nil _ _ _ _ _ | exact Kd.N_nil _ _ _ _ _ | exact Kd.V_nil _ _ _ _ _ | exact Kd.Q_nil _ _ _ _ _ | exact Kd.S_nil _ _ _ _ _, beQ HB⟩
 ·replace c4 := Bool.eq_false_iff.mpr c4
  subst c4
  have H1 : (some (([] : List Int), 1)) = some (r1, r2) := by rw [if_neg (show ¬ (false = true) by decide)] at H; exact H
  clear H; have H := H1; clear H1
  simp only [Option.some.injEq, Prod.mk.injEq] at H
  obtain ⟨rfl, rfl⟩ := H
  go_enter Tryd.func47, Tryd.ntmps47
  go_wp2_with (first | (go_at_call 55; (with_reducible refine (impl_Alphabet_ties.calls _ _ _ _ _).mono ?_); rintro e w' ⟨rfl, rfl⟩) | ((with_reducible refine gate_dst (N := 2) rfl ?_); refine box_event ?hg (N := 2) ?hd (cs := #[.int .i64 a0_0, .slice A0_1 l0_1.length c0_1]) (t := 28) ?hr ?_; (case hd => rfl); (case hg => rfl); (case hr => first | (go_simp; done) | (go_simp; rfl)); intro gb1029 hg w23 hbox hb; have BK1029 := Aside0.mk (hbox); have GW1029 := Aside0.mk ((by rw [hg]; exact (below_size (beQ HB)) : w.heap.size ≤ gb1029)); have GE1029 := Aside0.mk ((by rw [hg]; exact (below_size (beQ HB)) : w.heap.size ≤ gb1029)); replace HB := Aside0.mk (below_step (beQ HB) hb); clear hb hbox hg; have hcz24_0 : w23.cell? ⟨gb1029, 0, none⟩ = some (.int .i64 a0_0) := bc BK1029 0; have hcz24_1 : w23.cell? ⟨gb1029, 1, none⟩ = some (.slice A0_1 l0_1.length c0_1) := bc BK1029 1; have hfz24_0 := blk_frozen BK1029.out 0; have hfz24_1 := blk_frozen BK1029.out 1) | ((with_reducible refine gate_callee (f := 63) rfl ?_); refine goesL_ (some 7) rfl rfl Tryd.func63 (by kernel_rfl) rfl #[.agg #[.int .i64 a0_0, .slice A0_1 l0_1.length c0_1]] rfl lz ?_; (with_reducible refine (impl_IsAlphabet.calls k a0_0 _ _ l0_1 false _ ?side1 ?side2 ?side3 A3.out).mono ?_); (case side1 => have q_ := Aside0.mk (Kd.C_below HR0_1.out HB.out); exact cQ q_); (case side2 => exact HC0_1.out); (case side3 => exact TabW.below HT.out (beQ HB)); rintro e w25 ⟨rfl, hb⟩; refine ⟨_, rfl, ?_⟩; replace BK1029 := bb BK1029 hb; replace HB := Aside0.mk (below_step (beQ HB) hb); (try clear hb); (try clear hb2); (try clear hk); (try clear hi)))
  go_ret2
  exact ⟨_, rz, by first | exact Kd.R_nil _ _ _ _ _ | exact Kd.N_nil _ _ _ _ _ | exact Kd.V_nil _ _ _ _ _ | exact Kd.Q_nil _ _ _ _ _ | exact Kd.S_nil _ _ _ _ _, beQ HB⟩

end Go.Proofs.YtlpodkpnoopnnaaDoor.G
