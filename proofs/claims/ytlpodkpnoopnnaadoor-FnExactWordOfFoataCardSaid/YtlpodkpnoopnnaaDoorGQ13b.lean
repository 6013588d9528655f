/- How the program's functions compute, function by function: each is told by a plain Lean function of the same answers, under the condition that this one answers. Written by a program of this project over the seat's translation; Lean checks it. -/
import Derived.Test.YtlpodkpnoopnnaaDoorG0
import Derived.Test.YtlpodkpnoopnnaaDoorGQ01b
import Derived.Test.YtlpodkpnoopnnaaDoorGQ01d
import Derived.Test.YtlpodkpnoopnnaaDoorGQ01e
import Derived.Test.YtlpodkpnoopnnaaDoorGQ06
import Derived.Test.YtlpodkpnoopnnaaDoorGQ11
import Derived.Test.YtlpodkpnoopnnaaDoorGQ13a
import Derived.Test.YtlpodkpnoopnnaaDoorGQ15
namespace Go.Proofs.YtlpodkpnoopnnaaDoor.G
open Go.RowKit Go.Proofs.YtlpodkpnoopnnaaDoorW.PrintWords Go.Proofs.YtlpodkpnoopnnaaDoorW.PrintLast Go.Proofs.YtlpodkpnoopnnaaDoorW.PrintMore
attribute [local go_sem] max2_int min2_int max_two min_two max_three min_three max_four min_four   -- for this text's walks alone
set_option linter.unusedVariables false
set_option linter.unusedSimpArgs false

/-! ### impl_IsFoataForm: function 30 -/
def impl_IsFoataForm.j0 : Nat → List Int → Bool → Int → List Int → Option (Bool)
 | 0, _, _, _, _ => none
 | k + 1, x1, x20, x479000, x479001 => if x20 = true then (some false) else ((impl_wordOfSteps.f k x1).bind fun t482 => ((impl_isWord.f x479000 x479001 t482).bind fun t485 => (if t485 = true then ((impl_ties_foata.f k x479001 t482).bind fun t486 => ((slices_Equal_int64_int64.f k t486 x1).bind fun t489 => (some t489))) else (some false))))
def impl_IsFoataForm.f (k : Nat) (a0_0 : Int) (l0_1 : List Int) (l1 : List Int) : Option (Bool) := (impl_IsAlphabet.f k a0_0 l0_1).bind fun t479 => (if t479 = true then (if (l1.length : Int) > 24 then (impl_IsFoataForm.j0 k l1 true a0_0 l0_1) else ((impl_allLetters.f a0_0 l0_1).bind fun t480 => ((impl_allIn.f l1 0 t480).bind fun t481 => (impl_IsFoataForm.j0 k l1 (!t481) a0_0 l0_1)))) else (impl_IsFoataForm.j0 k l1 true a0_0 l0_1))
theorem impl_IsFoataForm.mono_l : ∀ k, (∀ y0 y1 y2 y3, LeO (impl_IsFoataForm.j0 k y0 y1 y2 y3) (impl_IsFoataForm.j0 (k + 1) y0 y1 y2 y3))
 | 0 => fun _ _ _ _ r h => by simp [impl_IsFoataForm.j0] at h
 | k + 1 => by
  have ih0 := impl_IsFoataForm.mono_l k
  ·intro y0 y1 y2 y3
   unfold impl_IsFoataForm.j0
   repeat' first
   | (with_reducible exact ih0 _ _ _ _)
   | (with_reducible exact impl_IsAlphabet.mono _ _ _)
   | (with_reducible exact impl_ties_foata.mono _ _ _)
   | (with_reducible exact impl_wordOfSteps.mono _ _)
   | (with_reducible exact slices_Equal_int64_int64.mono _ _ _)
   | (with_reducible exact LeO.refl _)
   | (with_reducible exact LeO.none _)
   | (with_reducible refine LeO.ite ?_ ?_)
   | (with_reducible refine LeO.bind ?_ (fun _ => ?_))
   | exact ih0 _ _ _ _
   | exact impl_IsAlphabet.mono _ _ _
   | exact impl_ties_foata.mono _ _ _
   | exact impl_wordOfSteps.mono _ _
   | exact slices_Equal_int64_int64.mono _ _ _
   | exact LeO.none _
   | refine LeO.ite ?_ ?_
   | refine LeO.bind ?_ (fun _ => ?_)
theorem impl_IsFoataForm.mono : ∀ a0 a1 a2 k, LeO (impl_IsFoataForm.f k a0 a1 a2) (impl_IsFoataForm.f (k + 1) a0 a1 a2) := by
 intro a0 a1 a2 k
 have ih0 := impl_IsFoataForm.mono_l k
 unfold impl_IsFoataForm.f
 repeat' first
   | (with_reducible exact ih0 _ _ _ _)
   | (with_reducible exact impl_IsAlphabet.mono _ _ _)
   | (with_reducible exact impl_ties_foata.mono _ _ _)
   | (with_reducible exact impl_wordOfSteps.mono _ _)
   | (with_reducible exact slices_Equal_int64_int64.mono _ _ _)
   | (with_reducible exact LeO.refl _)
   | (with_reducible exact LeO.none _)
   | (with_reducible refine LeO.ite ?_ ?_)
   | (with_reducible refine LeO.bind ?_ (fun _ => ?_))
   | exact ih0 _ _ _ _
   | exact impl_IsAlphabet.mono _ _ _
   | exact impl_ties_foata.mono _ _ _
   | exact impl_wordOfSteps.mono _ _
   | exact slices_Equal_int64_int64.mono _ _ _
   | exact LeO.none _
   | refine LeO.ite ?_ ?_
   | refine LeO.bind ?_ (fun _ => ?_)
set_option maxHeartbeats 8000000 in
set_option maxRecDepth 100000 in
theorem impl_IsFoataForm.calls (k : Nat) (a0_0 : Int) (A0_1 : Option Addr) (c0_1 : Nat) (l0_1 : List Int) (A1 : Option Addr) (c1 : Nat) (l1 : List Int) (r : Bool) (w : World) (hr0_1 : Kd.C (Kd.int .i64) w A0_1 l0_1.length l0_1) (hc0_1 : l0_1.length ≤ c0_1) (hr1 : Kd.C (Kd.int .i64) w A1 l1.length l1) (hc1 : l1.length ≤ c1) (hT : TabW w) (h : impl_IsFoataForm.f k a0_0 l0_1 l1 = some r) :
  Calls Tryd.prog 30 #[.agg #[.int .i64 a0_0, .slice A0_1 l0_1.length c0_1], .slice A1 l1.length c1] w fun e w' => e = .returned (.bool r) ∧ Below w.heap.size w w' := by
 have hu28 := Tryd.underlying28; have HT := Aside0.mk hT; clear hT; have HR0_1 := Aside0.mk hr0_1; have HC0_1 := Aside0.mk hc0_1; clear hr0_1 hc0_1; have HR1 := Aside0.mk hr1; have HC1 := Aside0.mk hc1; clear hr1 hc1; have HB := Aside0.mk (Below.refl w.heap.size w)
 have H : ((impl_IsAlphabet.f k a0_0 l0_1).bind fun t479 => (if t479 = true then (if (l1.length : Int) > 24 then (impl_IsFoataForm.j0 k l1 true a0_0 l0_1) else ((impl_allLetters.f a0_0 l0_1).bind fun t480 => ((impl_allIn.f l1 0 t480).bind fun t481 => (impl_IsFoataForm.j0 k l1 (!t481) a0_0 l0_1)))) else (impl_IsFoataForm.j0 k l1 true a0_0 l0_1))) = some r := h
 clear h; have HC3 := Aside0.mk H; clear H
 go_enter Tryd.func30, Tryd.ntmps30
 go_upto_region 1 with (first | (go_at_call 55; (with_reducible refine (impl_Alphabet_ties.calls _ _ _ _ _).mono ?_); rintro e w' ⟨rfl, rfl⟩) | ((with_reducible refine gate_dst (N := 2) rfl ?_); (try (refine gate_guard (by rfl) ?_; dsimp only)); refine box_event ?hg (N := 2) ?hd (cs := #[.int .i64 a0_0, .slice A0_1 l0_1.length c0_1]) (t := 28) ?hr ?_; (case hd => rfl); (case hg => rfl); (case hr => first | (go_simp; done) | (go_simp; rfl)); intro gb478 hg w4 hbox hb; have BK478 := Aside0.mk (hbox); have GW478 := Aside0.mk ((by rw [hg]; exact (below_size (beQ HB)) : w.heap.size ≤ gb478)); have GE478 := Aside0.mk ((by rw [hg]; exact (below_size (beQ HB)) : w.heap.size ≤ gb478)); replace HB := Aside0.mk (below_step (beQ HB) hb); clear hb hbox hg))
 (try simp only [Act.put, List.setIfInBounds_toArray, List.set_cons_zero, List.set_cons_succ])
 go_cut [20] (fun v20 wc => ∃ (kq : Nat) (x20_2 : Bool), v20 = .bool x20_2 ∧ Aside0 (impl_IsFoataForm.j0 kq l1 x20_2 a0_0 l0_1 = some r) ∧ Aside0 (kq ≤ k) ∧ Aside0 (wc.heap[gb478]? = some (.cells #[.int .i64 a0_0, (.slice A0_1 l0_1.length c0_1)] 28 (0, 0))) ∧ Aside0 (Below w.heap.size w wc))
 case first =>
  have H := HC3.out; clear HC3; replace H := Option.bind_eq_some_iff.mp H; obtain ⟨t479, A50, H⟩ := H
  replace H : (if t479 = true then (if (l1.length : Int) > 24 then (impl_IsFoataForm.j0 k l1 true a0_0 l0_1) else ((impl_allLetters.f a0_0 l0_1).bind fun t480 => ((impl_allIn.f l1 0 t480).bind fun t481 => (impl_IsFoataForm.j0 k l1 (!t481) a0_0 l0_1)))) else (impl_IsFoataForm.j0 k l1 true a0_0 l0_1)) = some r := H
  have A5 := Aside0.mk A50; clear A50
  by_cases c6 : t479 = true
  ·subst c6
   have H1 : (if (l1.length : Int) > 24 then (impl_IsFoataForm.j0 k l1 true a0_0 l0_1) else ((impl_allLetters.f a0_0 l0_1).bind fun t480 => ((impl_allIn.f l1 0 t480).bind fun t481 => (impl_IsFoataForm.j0 k l1 (!t481) a0_0 l0_1)))) = some r := by rw [if_pos rfl] at H; exact H
   clear H; have H := H1; clear H1
   by_cases c7 : (l1.length : Int) > 24
   ·rw [if_pos c7] at H
    have c7b0 : decide (24 < (l1.length : Int)) = true := decide_eq_true c7
    have c7b1 : decide (24 < l1.length) = true := decide_eq_true (by omega)
    clear c7
    (first | rw [c7b0] | (simp only [i64_w, i32_w]; rw [c7b0]) | skip)
    have H' := Aside0.mk H
    clear H
    have hcz8_0 : w4.cell? ⟨gb478, 0, none⟩ = some (.int .i64 a0_0) := bc BK478 0
    have hcz8_1 : w4.cell? ⟨gb478, 1, none⟩ = some (.slice A0_1 l0_1.length c0_1) := bc BK478 1
    have hfz8_0 := blk_frozen BK478.out 0; have hfz8_1 := blk_frozen BK478.out 1
    go_wp2_with (first | (go_at_call 55; (with_reducible refine (impl_Alphabet_ties.calls _ _ _ _ _).mono ?_); rintro e w' ⟨rfl, rfl⟩) | ((with_reducible refine gate_callee (f := 63) rfl ?_); refine goesL_ (some 7) rfl rfl Tryd.func63 (by kernel_rfl) rfl #[.agg #[.int .i64 a0_0, .slice A0_1 l0_1.length c0_1]] rfl lz ?_; (with_reducible refine (impl_IsAlphabet.calls k a0_0 _ _ l0_1 true _ ?side1 ?side2 ?side3 A5.out).mono ?_); (case side1 => have q_ := Aside0.mk (Kd.C_below HR0_1.out HB.out); exact cQ q_); (case side2 => exact HC0_1.out); (case side3 => exact TabW.below HT.out (beQ HB)); rintro e w9 ⟨rfl, hb⟩; refine ⟨_, rfl, ?_⟩; replace BK478 := bb BK478 hb; replace HB := Aside0.mk (below_step (beQ HB) hb); (try clear hb); (try clear hb2); (try clear hk); (try clear hi)))
    go_meet
    case rel => exact ⟨_, (true), sz, H', ⟨by first | omega | exact Nat.le_refl _⟩, ⟨blkQ BK478⟩, ⟨beQ HB⟩⟩
   ·rw [if_neg c7] at H
    have c7b0 : decide (24 < (l1.length : Int)) = false := decide_eq_false c7
    have c7b1 : decide (24 < l1.length) = false := decide_eq_false (by omega)
    clear c7
    (first | rw [c7b0] | (simp only [i64_w, i32_w]; rw [c7b0]) | skip)
    replace H := Option.bind_eq_some_iff.mp H; obtain ⟨t480, A100, H⟩ := H
    replace H : ((impl_allIn.f l1 0 t480).bind fun t481 => (impl_IsFoataForm.j0 k l1 (!t481) a0_0 l0_1)) = some r := H
    have A10 := Aside0.mk A100; clear A100; replace H := Option.bind_eq_some_iff.mp H; obtain ⟨t481, A110, H⟩ := H
    replace H : (impl_IsFoataForm.j0 k l1 (!t481) a0_0 l0_1) = some r := H
    have A11 := Aside0.mk A110; clear A110
    have H' := Aside0.mk H
    clear H
    have hcz12_0 : w4.cell? ⟨gb478, 0, none⟩ = some (.int .i64 a0_0) := bc BK478 0
    have hcz12_1 : w4.cell? ⟨gb478, 1, none⟩ = some (.slice A0_1 l0_1.length c0_1) := bc BK478 1
    have hfz12_0 := blk_frozen BK478.out 0; have hfz12_1 := blk_frozen BK478.out 1
    go_wp2_with (first | (go_at_call 55; (with_reducible refine (impl_Alphabet_ties.calls _ _ _ _ _).mono ?_); rintro e w' ⟨rfl, rfl⟩) | ((with_reducible refine gate_callee (f := 63) rfl ?_); refine goesL_ (some 7) rfl rfl Tryd.func63 (by kernel_rfl) rfl #[.agg #[.int .i64 a0_0, .slice A0_1 l0_1.length c0_1]] rfl lz ?_; (with_reducible refine (impl_IsAlphabet.calls k a0_0 _ _ l0_1 true _ ?side1 ?side2 ?side3 A5.out).mono ?_); (case side1 => have q_ := Aside0.mk (Kd.C_below HR0_1.out HB.out); exact cQ q_); (case side2 => exact HC0_1.out); (case side3 => exact TabW.below HT.out (beQ HB)); rintro e w13 ⟨rfl, hb⟩; refine ⟨_, rfl, ?_⟩; replace BK478 := bb BK478 hb; replace HB := Aside0.mk (below_step (beQ HB) hb); (try clear hb); (try clear hb2); (try clear hk); (try clear hi); have hcz14_0 : w13.cell? ⟨gb478, 0, none⟩ = some (.int .i64 a0_0) := bc BK478 0; have hcz14_1 : w13.cell? ⟨gb478, 1, none⟩ = some (.slice A0_1 l0_1.length c0_1) := bc BK478 1; have hfz14_0 := blk_frozen BK478.out 0; have hfz14_1 := blk_frozen BK478.out 1) | (go_at_call 65; (with_reducible refine (impl_allLetters.calls a0_0 _ _ l0_1 t480 _ ?side1 ?side2 A10.out).mono ?_); (case side1 => have q_ := Aside0.mk (Kd.C_below HR0_1.out HB.out); exact cQ q_); (case side2 => exact HC0_1.out); rintro e w15 ⟨rfl, hb⟩; replace BK478 := bb BK478 hb; replace HB := Aside0.mk (below_step (beQ HB) hb); (try clear hb); (try clear hb2); (try clear hk); (try clear hi)) | (go_at_call 64; (with_reducible refine (impl_allIn.calls _ _ l1 0 t480 t481 _ ?side1 ?side2 A11.out).mono ?_); (case side1 => have q_ := Aside0.mk (Kd.C_below HR1.out HB.out); exact cQ q_); (case side2 => exact HC1.out); rintro e w16 ⟨rfl, hb⟩; replace BK478 := bb BK478 hb; replace HB := Aside0.mk (below_step (beQ HB) hb); (try clear hb); (try clear hb2); (try clear hk); (try clear hi)))
    go_meet
    case rel => exact ⟨_, (!t481), sz, H', ⟨by first | omega | exact Nat.le_refl _⟩, ⟨blkQ BK478⟩, ⟨beQ HB⟩⟩
  ·replace c6 := Bool.eq_false_iff.mpr c6
   subst c6
   have H1 : (impl_IsFoataForm.j0 k l1 true a0_0 l0_1) = some r := by rw [if_neg (show ¬ (false = true) by decide)] at H; exact H
   clear H; have H := H1; clear H1
   have H' := Aside0.mk H
   clear H
   have hcz17_0 : w4.cell? ⟨gb478, 0, none⟩ = some (.int .i64 a0_0) := bc BK478 0
   have hcz17_1 : w4.cell? ⟨gb478, 1, none⟩ = some (.slice A0_1 l0_1.length c0_1) := bc BK478 1
   have hfz17_0 := blk_frozen BK478.out 0; have hfz17_1 := blk_frozen BK478.out 1
   go_wp2_with (first | (go_at_call 55; (with_reducible refine (impl_Alphabet_ties.calls _ _ _ _ _).mono ?_); rintro e w' ⟨rfl, rfl⟩) | ((with_reducible refine gate_callee (f := 63) rfl ?_); refine goesL_ (some 7) rfl rfl Tryd.func63 (by kernel_rfl) rfl #[.agg #[.int .i64 a0_0, .slice A0_1 l0_1.length c0_1]] rfl lz ?_; (with_reducible refine (impl_IsAlphabet.calls k a0_0 _ _ l0_1 false _ ?side1 ?side2 ?side3 A5.out).mono ?_); (case side1 => have q_ := Aside0.mk (Kd.C_below HR0_1.out HB.out); exact cQ q_); (case side2 => exact HC0_1.out); (case side3 => exact TabW.below HT.out (beQ HB)); rintro e w18 ⟨rfl, hb⟩; refine ⟨_, rfl, ?_⟩; replace BK478 := bb BK478 hb; replace HB := Aside0.mk (below_step (beQ HB) hb); (try clear hb); (try clear hb2); (try clear hk); (try clear hi)))
   go_meet
   case rel => exact ⟨_, (true), sz, H', ⟨by first | omega | exact Nat.le_refl _⟩, ⟨blkQ BK478⟩, ⟨beQ HB⟩⟩
 case rest =>
  clear HC3
  try clear c1
  try clear p2
  try clear c3
  try clear c6
  try clear c7
  try clear c7b0
  try clear c7b1
  try clear hcz12_0
  try clear hcz12_1
  try clear hcz14_0
  try clear hcz14_1
  try clear hcz17_0
  try clear hcz17_1
  try clear hcz8_0
  try clear hcz8_1
  try clear hfz12_0
  try clear hfz12_1
  try clear hfz14_0
  try clear hfz14_1
  try clear hfz17_0
  try clear hfz17_1
  try clear hfz8_0
  try clear hfz8_1
  obtain ⟨kq, x20_2, rfl, HA, HJ2, BK478, HB⟩ := hcut
  cases kq with
  | zero => exact absurd HA.out (by simp [impl_IsFoataForm.j0])
  | succ kj2 =>
   have H := HA.out; clear HA
   simp only [impl_IsFoataForm.j0] at H
   by_cases c19 : x20_2 = true
   ·subst c19
    have H1 : (some false) = some r := by rw [if_pos rfl] at H; exact H
    clear H; have H := H1; clear H1
    obtain rfl := Option.some.inj H
    go_wp2_with (first | (go_at_call 55; (with_reducible refine (impl_Alphabet_ties.calls _ _ _ _ _).mono ?_); rintro e w' ⟨rfl, rfl⟩))
    go_ret
    exact ⟨rz, beQ HB⟩
   ·replace c19 := Bool.eq_false_iff.mpr c19
    subst c19
    have H1 : ((impl_wordOfSteps.f kj2 l1).bind fun t482 => ((impl_isWord.f a0_0 l0_1 t482).bind fun t485 => (if t485 = true then ((impl_ties_foata.f kj2 l0_1 t482).bind fun t486 => ((slices_Equal_int64_int64.f kj2 t486 l1).bind fun t489 => (some t489))) else (some false)))) = some r := by rw [if_neg (show ¬ (false = true) by decide)] at H; exact H
    clear H; have H := H1; clear H1; replace H := Option.bind_eq_some_iff.mp H; obtain ⟨t482, A200, H⟩ := H
    replace H : ((impl_isWord.f a0_0 l0_1 t482).bind fun t485 => (if t485 = true then ((impl_ties_foata.f kj2 l0_1 t482).bind fun t486 => ((slices_Equal_int64_int64.f kj2 t486 l1).bind fun t489 => (some t489))) else (some false))) = some r := H
    have A20 := Aside0.mk A200; clear A200; replace H := Option.bind_eq_some_iff.mp H; obtain ⟨t485, A210, H⟩ := H
    replace H : (if t485 = true then ((impl_ties_foata.f kj2 l0_1 t482).bind fun t486 => ((slices_Equal_int64_int64.f kj2 t486 l1).bind fun t489 => (some t489))) else (some false)) = some r := H
    have A21 := Aside0.mk A210; clear A210
    by_cases c22 : t485 = true
    ·subst c22
     have H1 : ((impl_ties_foata.f kj2 l0_1 t482).bind fun t486 => ((slices_Equal_int64_int64.f kj2 t486 l1).bind fun t489 => (some t489))) = some r := by rw [if_pos rfl] at H; exact H
     clear H; have H := H1; clear H1; replace H := Option.bind_eq_some_iff.mp H; obtain ⟨t486, A230, H⟩ := H
     replace H : ((slices_Equal_int64_int64.f kj2 t486 l1).bind fun t489 => (some t489)) = some r := H
     have A23 := Aside0.mk A230; clear A230; replace H := Option.bind_eq_some_iff.mp H; obtain ⟨t489, A240, H⟩ := H
     replace H : (some t489) = some r := H
     have A24 := Aside0.mk A240; clear A240
     obtain rfl := Option.some.inj H
     go_wp2_with (first | (go_at_call 55; (with_reducible refine (impl_Alphabet_ties.calls _ _ _ _ _).mono ?_); rintro e w' ⟨rfl, rfl⟩) | ((with_reducible refine gate_callee (f := 66) rfl ?_); refine goesL_ (some 22) rfl rfl Tryd.func66 (by kernel_rfl) rfl #[.slice A1 l1.length c1] rfl lz ?_; (with_reducible refine (impl_wordOfSteps.calls kj2 _ _ l1 t482 _ ?side1 ?side2 ?side3 A20.out).mono ?_); (case side1 => have q_ := Aside0.mk (Kd.C_below HR1.out HB.out); exact cQ q_); (case side2 => exact HC1.out); (case side3 => exact TabW.below HT.out (beQ HB)); rintro e w25 ⟨v483, rfl, ho0, hb⟩; refine ⟨_, rfl, ?_⟩; have HO484 := Aside0.mk (Kd.R_lower ho0 (below_size (beQ HB))); replace BK478 := bb BK478 hb; replace HB := Aside0.mk (below_step (beQ HB) hb); (try clear hb); (try clear hb2); (try clear hk); (try clear hi); (try clear ho0); have hcz26_0 : w25.cell? ⟨gb478, 0, none⟩ = some (.int .i64 a0_0) := bc BK478 0; have hcz26_1 : w25.cell? ⟨gb478, 1, none⟩ = some (.slice A0_1 l0_1.length c0_1) := bc BK478 1; have hfz26_0 := blk_frozen BK478.out 0; have hfz26_1 := blk_frozen BK478.out 1; obtain ⟨Ao27, co27, eo27⟩ := Kd.R_slice HO484.out; subst eo27) | ((with_reducible refine gate_callee (f := 67) rfl ?_); refine goesL_ (some 25) rfl rfl Tryd.func67 (by kernel_rfl) rfl #[.agg #[.int .i64 a0_0, .slice A0_1 l0_1.length c0_1], .slice Ao27 t482.length co27] rfl lz ?_; (with_reducible refine (impl_isWord.calls a0_0 _ _ l0_1 _ _ t482 true _ ?side1 ?side2 ?side3 ?side4 A21.out).mono ?_); (case side1 => have q_ := Aside0.mk (Kd.C_below HR0_1.out HB.out); exact cQ q_); (case side2 => exact HC0_1.out); (case side3 => have q_ := Aside0.mk (Kd.R_reads' HO484.out).2.2; exact cQ q_); (case side4 => exact (Kd.R_reads' HO484.out).2.1); rintro e w28 ⟨rfl, hb⟩; refine ⟨_, rfl, ?_⟩; replace HO484 := kb HO484 hb; replace BK478 := bb BK478 hb; replace HB := Aside0.mk (below_step (beQ HB) hb); (try clear hb); (try clear hb2); (try clear hk); (try clear hi); have hcz29_0 : w28.cell? ⟨gb478, 0, none⟩ = some (.int .i64 a0_0) := bc BK478 0; have hcz29_1 : w28.cell? ⟨gb478, 1, none⟩ = some (.slice A0_1 l0_1.length c0_1) := bc BK478 1; have hfz29_0 := blk_frozen BK478.out 0; have hfz29_1 := blk_frozen BK478.out 1) | (go_at_call 60; (with_reducible refine (impl_ties_foata.calls kj2 _ _ l0_1 _ _ t482 t486 _ ?side1 ?side2 ?side3 ?side4 A23.out).mono ?_); (case side1 => have q_ := Aside0.mk (Kd.C_below HR0_1.out HB.out); exact cQ q_); (case side2 => exact HC0_1.out); (case side3 => have q_ := Aside0.mk (Kd.R_reads' HO484.out).2.2; exact cQ q_); (case side4 => exact (Kd.R_reads' HO484.out).2.1); rintro e w30 ⟨v487, rfl, ho0, hb⟩; have HO488 := Aside0.mk (Kd.R_lower (Kd.R_new' ho0 (Kd.R_lt (kdQ HO484))) (below_size (beQ HB))); replace HO484 := Aside0.mk (Kd.R_elder' (kdQ HO484) (Kd.R_base ho0) hb); replace BK478 := bb BK478 hb; replace HB := Aside0.mk (below_step (beQ HB) hb); (try clear hb); (try clear hb2); (try clear hk); (try clear hi); (try clear ho0); obtain ⟨Ao31, co31, eo31⟩ := Kd.R_slice HO488.out; subst eo31) | (go_at_call 68; (with_reducible refine (slices_Equal_int64_int64.calls kj2 _ _ t486 _ _ l1 t489 _ ?side1 ?side2 ?side3 ?side4 A24.out).mono ?_); (case side1 => have q_ := Aside0.mk (Kd.R_reads' HO488.out).2.2; exact cQ q_); (case side2 => exact (Kd.R_reads' HO488.out).2.1); (case side3 => have q_ := Aside0.mk (Kd.C_below HR1.out HB.out); exact cQ q_); (case side4 => exact HC1.out); rintro e w' ⟨rfl, ⟨nd, rfl⟩⟩))
     go_ret
     exact ⟨rz, beQ HB⟩
    ·replace c22 := Bool.eq_false_iff.mpr c22
     subst c22
     have H1 : (some false) = some r := by rw [if_neg (show ¬ (false = true) by decide)] at H; exact H
     clear H; have H := H1; clear H1
     obtain rfl := Option.some.inj H
     go_wp2_with (first | (go_at_call 55; (with_reducible refine (impl_Alphabet_ties.calls _ _ _ _ _).mono ?_); rintro e w' ⟨rfl, rfl⟩) | ((with_reducible refine gate_callee (f := 66) rfl ?_); refine goesL_ (some 22) rfl rfl Tryd.func66 (by kernel_rfl) rfl #[.slice A1 l1.length c1] rfl lz ?_; (with_reducible refine (impl_wordOfSteps.calls kj2 _ _ l1 t482 _ ?side1 ?side2 ?side3 A20.out).mono ?_); (case side1 => have q_ := Aside0.mk (Kd.C_below HR1.out HB.out); exact cQ q_); (case side2 => exact HC1.out); (case side3 => exact TabW.below HT.out (beQ HB)); rintro e w32 ⟨v483, rfl, ho0, hb⟩; refine ⟨_, rfl, ?_⟩; have HO484 := Aside0.mk (Kd.R_lower ho0 (below_size (beQ HB))); replace BK478 := bb BK478 hb; replace HB := Aside0.mk (below_step (beQ HB) hb); (try clear hb); (try clear hb2); (try clear hk); (try clear hi); (try clear ho0); have hcz33_0 : w32.cell? ⟨gb478, 0, none⟩ = some (.int .i64 a0_0) := bc BK478 0; have hcz33_1 : w32.cell? ⟨gb478, 1, none⟩ = some (.slice A0_1 l0_1.length c0_1) := bc BK478 1; have hfz33_0 := blk_frozen BK478.out 0; have hfz33_1 := blk_frozen BK478.out 1; obtain ⟨Ao34, co34, eo34⟩ := Kd.R_slice HO484.out; subst eo34) | ((with_reducible refine gate_callee (f := 67) rfl ?_); refine goesL_ (some 25) rfl rfl Tryd.func67 (by kernel_rfl) rfl #[.agg #[.int .i64 a0_0, .slice A0_1 l0_1.length c0_1], .slice Ao34 t482.length co34] rfl lz ?_; (with_reducible refine (impl_isWord.calls a0_0 _ _ l0_1 _ _ t482 false _ ?side1 ?side2 ?side3 ?side4 A21.out).mono ?_); (case side1 => have q_ := Aside0.mk (Kd.C_below HR0_1.out HB.out); exact cQ q_); (case side2 => exact HC0_1.out); (case side3 => have q_ := Aside0.mk (Kd.R_reads' HO484.out).2.2; exact cQ q_); (case side4 => exact (Kd.R_reads' HO484.out).2.1); rintro e w35 ⟨rfl, hb⟩; refine ⟨_, rfl, ?_⟩; replace HO484 := kb HO484 hb; replace BK478 := bb BK478 hb; replace HB := Aside0.mk (below_step (beQ HB) hb); (try clear hb); (try clear hb2); (try clear hk); (try clear hi)))
     go_ret
     exact ⟨rz, beQ HB⟩

end Go.Proofs.YtlpodkpnoopnnaaDoor.G
