/- How the program's functions compute, function by function: each is told by a plain Lean function of the same answers, under the condition that this one answers. Written by a program of this project over the seat's translation; Lean checks it. -/
import Derived.Test.YtlpodkpnoopnnaaDoorG0
namespace Go.Proofs.YtlpodkpnoopnnaaDoor.G
open Go.RowKit Go.Proofs.YtlpodkpnoopnnaaDoorW.PrintWords Go.Proofs.YtlpodkpnoopnnaaDoorW.PrintLast Go.Proofs.YtlpodkpnoopnnaaDoorW.PrintMore
attribute [local go_sem] max2_int min2_int max_two min_two max_three min_three max_four min_four   -- for this text's walks alone
set_option linter.unusedVariables false
set_option linter.unusedSimpArgs false

/-! ### spec_l01Own: function 104 -/
def spec_l01Own.f (l0 : List Int) : Option (List Int) := (some (([] : List Int) : List Int)).bind fun y645 => (if y645.length + l0.length < 17592186044416 then (some (y645 ++ l0)) else (none))
set_option maxHeartbeats 8000000 in
set_option maxRecDepth 100000 in
theorem spec_l01Own.calls (A0 : Option Addr) (c0 : Nat) (l0 : List Int) (r : List Int) (w : World) (hr0 : Kd.C (Kd.int .i64) w A0 l0.length l0) (hc0 : l0.length ≤ c0) (h : spec_l01Own.f l0 = some r) :
  Calls Tryd.prog 104 #[.slice A0 l0.length c0] w fun e w' => ∃ v0_ : Value, e = .returned (v0_) ∧ Kd.R (Kd.int .i64) 2 w' w.heap.size (fun _ => True) v0_ r ∧ Below w.heap.size w w' := by
 have HR0 := Aside0.mk hr0; have HC0 := Aside0.mk hc0; clear hr0 hc0; have HB := Aside0.mk (Below.refl w.heap.size w)
 have H : ((some (([] : List Int) : List Int)).bind fun y645 => (if y645.length + l0.length < 17592186044416 then (some (y645 ++ l0)) else (none))) = some r := h
 clear h
 obtain ⟨y645, hy645⟩ : ∃ y_ : List Int, y_ = (([] : List Int)) := ⟨_, rfl⟩
 replace H : (if y645.length + l0.length < 17592186044416 then (some (y645 ++ l0)) else (none)) = some r := by first | (rw [hy645]; with_reducible exact H) | (have H2_ := (Option.bind_some _ _).symm.trans H; rw [hy645]; with_reducible exact H2_) | (have H2_ := (Option.bind_some _ _).symm.trans H; with_reducible exact H2_) | with_reducible exact H | (rw [hy645]; exact H) | exact H
 have Ny645 := Aside0.mk hy645; clear hy645
 by_cases c2 : y645.length + l0.length < 17592186044416
 ·rw [if_pos c2] at H
  have LMc2 := Aside0.mk c2; clear c2
  obtain ⟨y648, hy648⟩ : ∃ y_ : List Int, y_ = (y645 ++ l0) := ⟨_, rfl⟩
  replace H : (some y648) = some r := by first | (rw [hy648]; with_reducible exact H) | (have H2_ := (Option.bind_some _ _).symm.trans H; rw [hy648]; with_reducible exact H2_) | (have H2_ := (Option.bind_some _ _).symm.trans H; with_reducible exact H2_) | with_reducible exact H | (rw [hy648]; exact H) | exact H
  have Ny648 := Aside0.mk hy648; clear hy648
  obtain rfl := Option.some.inj H
  go_enter Tryd.func104, Tryd.ntmps104
  go_wp2_with (first | ((with_reducible refine gate_dst (N := 3) rfl ?_); refine Kd.R_lit (Kd.int .i64) _ 2 ?hg (N := 3) ?hd (xs := ([] : List Int)) (inner := []) (ok := fun _ => True) (okp := fun _ => True) ?hr ?hp (fun _ hk => hk) trivial (Below.refl _ _) (Nat.le_refl _) (by simp) ?_; (case hd => rfl); (case hg => rfl); (case hr => first | (go_simp; done) | (go_simp; rfl)); (case hp => exact (Reps.none _ _)); intro v646 w3 ho4 hb hg_ hnew_; clear hg_ hnew_; (first | rw [← Ny645.out] at ho4 | (simp only [Int.reduceToNat] at ho4; rw [← Ny645.out] at ho4)); have HO647 := Aside0.mk (Kd.R_lower ho4 (below_size (beQ HB))); replace HB := Aside0.mk (below_step (beQ HB) hb); clear hb ho4) | ((with_reducible refine gate_builtin (b := .append) (xs := #[.tmp 3, .tmp 4]) rfl ?_); at_builtin; refine Kd.R_append_rows (Kd.int .i64) (w0 := w) w.heap.size rfl (.tmp 3) (.tmp 4) 22 2 (.int .i64 0) 8 rfl Tryd.underlying22 info2 rfl (by decide) (by omega) v646 y645 l0 _ _ _ (fun _ => True) (fun _ => False) rfl rfl ?aO ?aR (fun _ _ h => h) (fun _ h => h.elim) ?aF ?aB ?aS ?aL ?_; (case aR => repeat (first | exact (Kd.C_below HR0.out HB.out) | (with_reducible refine Kd.C_alloc ?_ _) | (with_reducible refine Kd.C_drewN ?_ _) | (with_reducible refine Kd.C_drew ?_))); (case aB => exact (beQ HB)); (case aF => exact (fun _ _ => trivial)); (case aO => exact (kdQ HO647)); (case aS => exact (below_size (beQ HB))); (case aL => have := LMc2.out; omega); intro v649 w5 ho hb hg hat; rw [← Ny648.out] at ho; have n0_ := Aside0.mk (hb); have n1_ := Aside0.mk (ho); clear HB; clear HO647; have HB := n0_; have HO650 := n1_; clear n0_ n1_; clear ho hb hg hat))
  go_ret
  exact ⟨_, rz, kdQ HO650, beQ HB⟩
 ·rw [if_neg c2] at H
  exact absurd H (by simp)

/-! ### spec_l03Without: function 105 -/
def spec_l03Without.f (l0 : List Int) (a1 : Int) : Option (List Int) := if 0 ≤ a1 then (if a1 ≤ (l0.length : Int) then ((spec_l01Own.f (l0.take (a1 : Int).toNat)).bind fun t652 => (if 0 ≤ (wrap64 (a1 + 1)) then (if (wrap64 (a1 + 1)) ≤ (l0.length : Int) then (if t652.length + (l0.drop ((wrap64 (a1 + 1)) : Int).toNat).length < 17592186044416 then (some (t652 ++ (l0.drop ((wrap64 (a1 + 1)) : Int).toNat))) else (none)) else (none)) else (none))) else (none)) else (none)
def spec_l03Without.T1 : Bool × List (List Nat × List Nat) := (true, [([], []), ([], []), ([0, 1], [0, 1]), ([2], [2]), ([], []), ([], []), ([5], [5]), ([4, 6], [4, 6]), ([3, 7, 3], [3, 7]), ([8, 8, 0, 1, 2, 3, 4, 5, 6, 7, 8], [8])])
def spec_l03Without.B1 : List Nat := [0, 0, 3, 7, 0, 0, 32, 112, 255, 511]
theorem spec_l03Without.tab1 : rtab .any (opsOf Tryd.f105 1) = spec_l03Without.T1 := by kernel_rfl
theorem spec_l03Without.bits1 : waitsOk spec_l03Without.T1.2 spec_l03Without.B1 = true := by kernel_rfl
set_option maxHeartbeats 8000000 in
set_option maxRecDepth 100000 in
theorem spec_l03Without.calls (A0 : Option Addr) (c0 : Nat) (l0 : List Int) (a1 : Int) (r : List Int) (w : World) (hr0 : Kd.C (Kd.int .i64) w A0 l0.length l0) (hc0 : l0.length ≤ c0) (h : spec_l03Without.f l0 a1 = some r) :
  Calls Tryd.prog 105 #[.slice A0 l0.length c0, .int .i64 a1] w fun e w' => ∃ v0_ : Value, e = .returned (v0_) ∧ Kd.R (Kd.int .i64) 2 w' w.heap.size (fun _ => True) v0_ r ∧ Below w.heap.size w w' := by
 have HR0 := Aside0.mk hr0; have HC0 := Aside0.mk hc0; clear hr0 hc0; have HB := Aside0.mk (Below.refl w.heap.size w)
 have H : (if 0 ≤ a1 then (if a1 ≤ (l0.length : Int) then ((spec_l01Own.f (l0.take (a1 : Int).toNat)).bind fun t652 => (if 0 ≤ (wrap64 (a1 + 1)) then (if (wrap64 (a1 + 1)) ≤ (l0.length : Int) then (if t652.length + (l0.drop ((wrap64 (a1 + 1)) : Int).toNat).length < 17592186044416 then (some (t652 ++ (l0.drop ((wrap64 (a1 + 1)) : Int).toNat))) else (none)) else (none)) else (none))) else (none)) else (none)) = some r := h
 clear h
 by_cases c3 : 0 ≤ a1
 ·rw [if_pos c3] at H
  have c3b0 := eq_true c3
  have c3b1 : decide (0 ≤ a1) = true := decide_eq_true c3
  clear c3
  by_cases c4 : a1 ≤ (l0.length : Int)
  ·rw [if_pos c4] at H
   have c4b0 := eq_true c4
   have c4b1 : decide (a1 ≤ (l0.length : Int)) = true := decide_eq_true c4
   clear c4; replace H := Option.bind_eq_some_iff.mp H; obtain ⟨t652, A50, H⟩ := H
   replace H : (if 0 ≤ (wrap64 (a1 + 1)) then (if (wrap64 (a1 + 1)) ≤ (l0.length : Int) then (if t652.length + (l0.drop ((wrap64 (a1 + 1)) : Int).toNat).length < 17592186044416 then (some (t652 ++ (l0.drop ((wrap64 (a1 + 1)) : Int).toNat))) else (none)) else (none)) else (none)) = some r := H
   have A5 := Aside0.mk A50; clear A50
   obtain ⟨ji6, hji6⟩ : ∃ j_ : Int, (wrap64 (a1 + 1)) = j_ := ⟨_, rfl⟩
   replace H : (if 0 ≤ (ji6) then (if (ji6) ≤ (l0.length : Int) then (if t652.length + (l0.drop ((ji6) : Int).toNat).length < 17592186044416 then (some (t652 ++ (l0.drop ((ji6) : Int).toNat))) else (none)) else (none)) else (none)) = some r := by first | (rw [hji6] at H; exact H) | (simp only [hji6] at H ⊢; exact H)
   (try rw [hji6] at A5)
   have hji6w : (IntKind.i64.wrap (a1 + 1)) = ji6 := (i64_w _).trans hji6
   by_cases c7 : 0 ≤ (ji6)
   ·rw [if_pos c7] at H
    have c7b0 := eq_true c7
    have c7b1 : decide (0 ≤ (ji6)) = true := decide_eq_true c7
    clear c7
    by_cases c8 : (ji6) ≤ (l0.length : Int)
    ·rw [if_pos c8] at H
     have c8b0 := eq_true c8
     have c8b1 : decide ((ji6) ≤ (l0.length : Int)) = true := decide_eq_true c8
     clear c8
     by_cases c9 : t652.length + (l0.drop ((ji6) : Int).toNat).length < 17592186044416
     ·rw [if_pos c9] at H
      have LMc9 := Aside0.mk c9; clear c9
      obtain ⟨y656, hy656⟩ : ∃ y_ : List Int, y_ = (t652 ++ (l0.drop ((ji6) : Int).toNat)) := ⟨_, rfl⟩
      replace H : (some y656) = some r := by first | (rw [hy656]; with_reducible exact H) | (have H2_ := (Option.bind_some _ _).symm.trans H; rw [hy656]; with_reducible exact H2_) | (have H2_ := (Option.bind_some _ _).symm.trans H; with_reducible exact H2_) | with_reducible exact H | (rw [hy656]; exact H) | exact H
      have Ny656 := Aside0.mk hy656; clear hy656
      obtain rfl := Option.some.inj H
      go_enter Tryd.func105, Tryd.ntmps105
      try go_wp2
      replace HB := Aside0.mk (below_drew1 HB.out); obtain ⟨i011, hi011, _, hsz11, _⟩ := info_parts info2
      obtain ⟨hcut11, hA11, hC11⟩ := print_take_of (P := Tryd.prog) (Value.int .i64) 0 22 2 .i64 Tryd.underlying22 hi011 hsz11 A0 c0 l0 a1 (of_decide_eq_true (by first | (with_reducible assumption) | assumption)) (of_decide_eq_true (by first | (with_reducible assumption) | assumption)) HC0.out
      have HR651 := Aside0.mk (Kd.C_of_reads (h1 := fun _ => rfl) (hA11 _ (Kd.reads_of_C HR0.out))); have HC651 := Aside0.mk hC11; clear hA11 hC11 hi011 hsz11; obtain ⟨i012, hi012, _, hsz12, _⟩ := info_parts info2
      obtain ⟨A12, hcut12, hA12, hC12⟩ := print_drop_of (P := Tryd.prog) (Value.int .i64) 0 22 2 .i64 Tryd.underlying22 hi012 hsz12 A0 c0 l0 (ji6) (of_decide_eq_true (by first | (with_reducible assumption) | assumption)) (of_decide_eq_true (by first | (with_reducible assumption) | assumption)) HC0.out
      have HR655 := Aside0.mk (Kd.C_of_reads (h1 := fun _ => rfl) (hA12 _ (Kd.reads_of_C HR0.out))); have HC655 := Aside0.mk hC12; clear hA12 hC12 hi012 hsz12
      refine start_ (n := 10) (S := fun w' => True) (ds := []) #[false, false, false, false, false, false, false, false, false, false] (by kernel_rfl) rfl rfl trivial (fun hHeld => ?_); refine with_tabW spec_l03Without.tab1 spec_l03Without.bits1 (fun HT_ HW_ => ?_)
      generalize w.drew = w10 at HB HR651 HR655 hHeld ⊢
      refine pure_ (i := 0) (N := some 5) (v := ?_) (a' := ?_) #[true, false, false, false, false, false, false, false, false, false] rfl rfl (any_of HT_.out (by kernel_rfl)) (fun _ _ _ h => h) (Or.inl ⟨by rfl, ?_⟩) ?_ ?_
      rotate_left
      ·intro w'
       go_simp
       with_reducible rfl
      rotate_left
      ·simp only [Act.put, s1, s2, s3, i64_w, i32_w]
       rfl
      refine pure_ (i := 1) (N := some 6) (v := ?_) (a' := ?_) #[true, true, false, false, false, false, false, false, false, false] rfl rfl (any_of HT_.out (by kernel_rfl)) (fun _ _ _ h => h) (Or.inl ⟨by rfl, ?_⟩) ?_ ?_
      rotate_left
      ·intro w'
       go_simp
       with_reducible rfl
      rotate_left
      ·simp only [Act.put, s1, s2, s3, i64_w, i32_w]
       rfl
      refine pure_ (i := 2) (N := some 7) (v := ?_) (a' := ?_) #[true, true, true, false, false, false, false, false, false, false] rfl rfl (any_of HT_.out (by kernel_rfl)) (fun _ _ _ h => h) (Or.inl ⟨by rfl, ?_⟩) ?_ ?_
      rotate_left
      ·intro w'
       go_simp
       with_reducible rfl
      rotate_left
      ·simp only [Act.put, s1, s2, s3, i64_w, i32_w]
       rfl
      refine pure_ (i := 4) (N := some 9) (v := ?_) (a' := ?_) #[true, true, true, false, true, false, false, false, false, false] rfl rfl (any_of HT_.out (by kernel_rfl)) (fun _ _ _ h => h) (Or.inl ⟨by rfl, ?_⟩) ?_ ?_
      rotate_left
      ·intro w'
       go_simp
       with_reducible rfl
      rotate_left
      ·simp only [Act.put, s1, s2, s3, i64_w, i32_w]
       rfl
      refine pure_ (i := 5) (N := some 10) (v := ?_) (a' := ?_) #[true, true, true, false, true, true, false, false, false, false] rfl rfl (any_of HT_.out (by kernel_rfl)) (fun _ _ _ h => h) (Or.inl ⟨by rfl, ?_⟩) ?_ ?_
      rotate_left
      ·intro w'
       go_simp
       with_reducible rfl
      rotate_left
      ·simp only [Act.put, s1, s2, s3, i64_w, i32_w]
       rfl
      refine pure_ (i := 6) (N := some 11) (v := ?_) (a' := ?_) #[true, true, true, false, true, true, true, false, false, false] rfl rfl (any_of HT_.out (by kernel_rfl)) (fun _ _ _ h => h) (Or.inl ⟨by rfl, ?_⟩) ?_ ?_
      rotate_left
      ·intro w'
       go_simp
       with_reducible rfl
      rotate_left
      ·simp only [Act.put, s1, s2, s3, i64_w, i32_w]
       rfl
      refine pure_ (i := 7) (N := some 12) (v := ?_) (a' := ?_) #[true, true, true, false, true, true, true, true, false, false] rfl rfl (any_of HT_.out (by kernel_rfl)) (fun _ _ _ h => h) (Or.inl ⟨by rfl, ?_⟩) ?_ ?_
      rotate_left
      ·intro w'
       go_simp
       with_reducible rfl
      rotate_left
      ·simp only [Act.put, s1, s2, s3, i64_w, i32_w]
       rfl
      refine one_ (i := 3) (N := some 8) #[true, true, true, true, true, true, true, true, false, false] rfl rfl (one_of HT_.out (by kernel_rfl)) (by decide) (fun K hK => ?_)
      refine goes_ Tryd.func104 (by kernel_rfl) rfl #[.slice A0 (l0.take (a1 : Int).toNat).length c0] (by rfl) rfl rfl (by (try simp only [List.map_toArray, List.map_cons, List.map_nil]); first | done | (rw [show (l0.take (a1 : Int).toNat).length = a1.toNat from (by rw [List.length_take]; have h_ : (a1 : Int) ≤ (l0.length : Int) := of_decide_eq_true (by first | (with_reducible assumption) | assumption); omega)] <;> rfl) | rfl | (simp only [List.length_drop, List.length_take]; rfl)) ?_
      with_reducible refine (spec_l01Own.calls _ _ (l0.take (a1 : Int).toNat) t652 _ ?side1 ?side2 A5.out).mono ?_
      (case side1 => have q_ := Aside0.mk (Kd.C_below HR651.out HB.out); exact cQ q_)
      (case side2 => exact HC651.out)
      rintro e w13 ⟨v653, rfl, ho0, hb⟩
      refine ⟨_, rfl, ?_⟩
      have HO654 := Aside0.mk (Kd.R_lower ho0 (below_size (beQ HB))); replace HB := Aside0.mk (below_step (beQ HB) hb)
      (try clear hb)
      (try clear hb2)
      (try clear hk)
      (try clear hi)
      (try clear ho0)
      refine hK.out _ _ trivial (fun hHeld => ?_)
      clear hK K
      refine norm_ (a' := ?_) ?_ ?_
      rotate_left
      ·show Act.put _ (some 8) _ = _
       simp only [Act.put, s1, s2, s3, i64_w, i32_w]
       rfl
      refine one_ (i := 8) (N := some 13) #[true, true, true, true, true, true, true, true, true, false] rfl rfl (one_of HT_.out (by kernel_rfl)) (by decide) (fun K hK => ?_)
      refine Kd.R_append_rows_step (Kd.int .i64) (w0 := w) w.heap.size (by rfl) (.tmp 8) (.tmp 12) 22 2 (.int .i64 0) 8 rfl Tryd.underlying22 info2 rfl (by decide) (by omega) v653 t652 (l0.drop ((ji6) : Int).toNat) _ _ _ (fun _ => True) (fun _ => False) rfl rfl ?aO ?aR (fun _ _ h => h) (fun _ h => h.elim) ?aF ?aB ?aS ?aL ?_
      (case aR => first | (rw [← show (l0.drop ((ji6) : Int).toNat).length = (l0.length - (ji6).toNat) from List.length_drop]; repeat (first | exact (Kd.C_below HR655.out HB.out) | (with_reducible refine Kd.C_alloc ?_ _) | (with_reducible refine Kd.C_drewN ?_ _) | (with_reducible refine Kd.C_drew ?_))) | (repeat (first | exact (Kd.C_below HR655.out HB.out) | (with_reducible refine Kd.C_alloc ?_ _) | (with_reducible refine Kd.C_drewN ?_ _) | (with_reducible refine Kd.C_drew ?_))))
      (case aB => exact (beQ HB))
      (case aF => exact (fun _ _ => trivial))
      (case aO => exact (kdQ HO654))
      (case aS => exact (below_size (beQ HB)))
      (case aL => have := LMc9.out; have hlx_ := (show (l0.drop ((ji6) : Int).toNat).length = (l0.length - (ji6).toNat) from List.length_drop); omega)
      intro v657 w14 ho hb hg hat
      rw [← Ny656.out] at ho; have n0_ := Aside0.mk (hb); have n1_ := Aside0.mk (ho); clear HB; clear HO654; have HB := n0_; have HO658 := n1_; clear n0_ n1_; clear ho hb hg hat
      refine hK.out _ _ trivial (fun hHeld => ?_)
      clear hK K
      refine norm_ (a' := ?_) ?_ ?_
      rotate_left
      ·show Act.put _ (some 13) _ = _
       simp only [Act.put, s1, s2, s3, i64_w, i32_w]
       rfl
      refine pure_ (i := 9) (N := some 4) (v := ?_) (a' := ?_) #[true, true, true, true, true, true, true, true, true, true] rfl rfl (any_of HT_.out (by kernel_rfl)) (fun _ _ _ h => h) (Or.inl ⟨by rfl, ?_⟩) ?_ ?_
      rotate_left
      ·intro w'
       go_simp
       with_reducible rfl
      rotate_left
      ·simp only [Act.put, s1, s2, s3, i64_w, i32_w]
       rfl
      refine done_ (done_of HT_.out (by kernel_rfl)) ?_
      try go_wp2
      go_ret
      exact ⟨_, by first | rfl | (simp [errW_none, errW_some] <;> rfl) | (simp only [← hji6]; first | rfl | (simp [errW_none, errW_some] <;> rfl)) | (simp [*, errW_none, errW_some] <;> rfl), kdQ HO658, beQ HB⟩
     ·rw [if_neg c9] at H
      exact absurd H (by simp)
    ·rw [if_neg c8] at H
     exact absurd H (by simp)
   ·rw [if_neg c7] at H
    exact absurd H (by simp)
  ·rw [if_neg c4] at H
   exact absurd H (by simp)
 ·rw [if_neg c3] at H
  exact absurd H (by simp)

/-! ### slices_Index_int64_int64: function 115 -/
def slices_Index_int64_int64.l0 : Nat → List Int → Int → Int → Int → Option (Int)
 | 0, _, _, _, _ => none
 | k + 1, x0, x1, x7, x8 => if x8 < x7 then (if 0 ≤ x8 then (if x8 < (x0.length : Int) then (if x1 = (rd x0 x8) then (some x8) else (slices_Index_int64_int64.l0 k x0 x1 x7 (wrap64 (x8 + 1)))) else (none)) else (none)) else (some (-1))
def slices_Index_int64_int64.f (k : Nat) (l0 : List Int) (a1 : Int) : Option (Int) := slices_Index_int64_int64.l0 k l0 a1 (l0.length : Int) 0
theorem slices_Index_int64_int64.mono_l : ∀ k, (∀ y0 y1 y2 y3, LeO (slices_Index_int64_int64.l0 k y0 y1 y2 y3) (slices_Index_int64_int64.l0 (k + 1) y0 y1 y2 y3))
 | 0 => fun _ _ _ _ r h => by simp [slices_Index_int64_int64.l0] at h
 | k + 1 => by
  have ih0 := slices_Index_int64_int64.mono_l k
  ·intro y0 y1 y2 y3
   unfold slices_Index_int64_int64.l0
   repeat' first
   | (with_reducible exact ih0 _ _ _ _)
   | (with_reducible exact LeO.refl _)
   | (with_reducible exact LeO.none _)
   | (with_reducible refine LeO.ite ?_ ?_)
   | (with_reducible refine LeO.bind ?_ (fun _ => ?_))
   | exact ih0 _ _ _ _
   | exact LeO.none _
   | refine LeO.ite ?_ ?_
   | refine LeO.bind ?_ (fun _ => ?_)
theorem slices_Index_int64_int64.mono : ∀ a0 a1 k, LeO (slices_Index_int64_int64.f k a0 a1) (slices_Index_int64_int64.f (k + 1) a0 a1) := by
 intro a0 a1 k
 have ih0 := slices_Index_int64_int64.mono_l k
 unfold slices_Index_int64_int64.f
 repeat' first
   | (with_reducible exact ih0 _ _ _ _)
   | (with_reducible exact LeO.refl _)
   | (with_reducible exact LeO.none _)
   | (with_reducible refine LeO.ite ?_ ?_)
   | (with_reducible refine LeO.bind ?_ (fun _ => ?_))
   | exact ih0 _ _ _ _
   | exact LeO.none _
   | refine LeO.ite ?_ ?_
   | refine LeO.bind ?_ (fun _ => ?_)
set_option maxHeartbeats 8000000 in
set_option maxRecDepth 100000 in
theorem slices_Index_int64_int64.calls (k : Nat) (A0 : Option Addr) (c0 : Nat) (l0 : List Int) (a1 : Int) (r : Int) (w : World) (hr0 : Kd.C (Kd.int .i64) w A0 l0.length l0) (hc0 : l0.length ≤ c0) (h : slices_Index_int64_int64.f k l0 a1 = some r) :
  Calls Tryd.prog 115 #[.slice A0 l0.length c0, .int .i64 a1] w fun e w' => e = .returned (.int .i64 r) ∧ Drawn0 w w' := by
 have HR0 := Aside0.mk hr0; have HC0 := Aside0.mk hc0; clear hr0 hc0
 have H : (slices_Index_int64_int64.l0 k l0 a1 (l0.length : Int) 0) = some r := h
 clear h
 have H' := Aside0.mk H
 clear H
 go_enter Tryd.func115, Tryd.ntmps115
 go_wp2
 go_loopg [8] k (fun kq v8 w' => ∃ (x8_1 : Int), v8 = .int .i64 x8_1 ∧ Aside0 (slices_Index_int64_int64.l0 kq l0 a1 (l0.length : Int) x8_1 = some r) ∧ Aside0 (kq ≤ k) ∧ Drawn0 w w')
 case atStart => exact ⟨(0), sz, H', ⟨Nat.le_refl _⟩, by repeat (first | exact Drawn0.refl _ | apply Drawn0.step)⟩
 case round =>
  clear H'
  try clear c1
  try clear p2
  obtain ⟨x8_1, rfl, HA, HK1, ⟨m1, rfl⟩⟩ := hrel
  cases gk with
  | zero => exact absurd HA.out (by simp [slices_Index_int64_int64.l0])
  | succ k1 =>
   have H := HA.out; clear HA
   simp only [slices_Index_int64_int64.l0] at H
   by_cases c3 : x8_1 < (l0.length : Int)
   ·rw [if_pos c3] at H
    have c3b0 : decide (x8_1 < (l0.length : Int)) = true := decide_eq_true c3
    clear c3
    by_cases c4 : 0 ≤ x8_1
    ·rw [if_pos c4] at H
     have c4b0 : decide (0 ≤ x8_1) = true := decide_eq_true c4
     clear c4
     by_cases c5 : x8_1 < (l0.length : Int)
     ·rw [if_pos c5] at H
      have c5b0 : decide (x8_1 < (l0.length : Int)) = true := decide_eq_true c5
      clear c5
      by_cases c6 : a1 = (rd l0 x8_1)
      ·rw [if_pos c6] at H
       have c6b0 : (a1 == (rd l0 x8_1)) = true := beq_iff_eq.mpr c6
       have c6b1 : (a1 != (rd l0 x8_1)) = false := bne_eq_false_iff_eq.mpr c6
       clear c6
       obtain rfl := Option.some.inj H
       have p678 : 0 ≤ (x8_1 : Int) := of_decide_eq_true (by first | (with_reducible assumption) | assumption)
       have q678 : x8_1 < (l0.length : Int) := of_decide_eq_true (by first | (with_reducible assumption) | assumption)
       obtain ⟨ad678, e678, hx678_0⟩ := Kd.at_int HR0.out x8_1 p678 q678; cases e678; replace p678 := eq_true p678; replace q678 := eq_true q678
       go_wp2
       go_ret
       exact ⟨by first | rfl | (simp; done) | (simp [*]; done), by repeat (first | exact Drawn0.refl _ | apply Drawn0.step)⟩
      ·rw [if_neg c6] at H
       have c6b0 : (a1 == (rd l0 x8_1)) = false := beq_eq_false_iff_ne.mpr c6
       have c6b1 : (a1 != (rd l0 x8_1)) = true := bne_iff_ne.mpr c6
       have H' := Aside0.mk H
       clear H
       have p678 : 0 ≤ (x8_1 : Int) := of_decide_eq_true (by first | (with_reducible assumption) | assumption)
       have q678 : x8_1 < (l0.length : Int) := of_decide_eq_true (by first | (with_reducible assumption) | assumption)
       obtain ⟨ad678, e678, hx678_0⟩ := Kd.at_int HR0.out x8_1 p678 q678; cases e678; replace p678 := eq_true p678; replace q678 := eq_true q678
       go_wp2
       go_roundg k1
       case measure => have := HK1.out; omega
       case rel => exact ⟨(wrap64 (x8_1 + 1)), sz, H', ⟨by have := HK1.out; omega⟩, by repeat (first | exact Drawn0.refl _ | apply Drawn0.step)⟩
     ·rw [if_neg c5] at H
      exact absurd H (by simp)
    ·rw [if_neg c4] at H
     exact absurd H (by simp)
   ·rw [if_neg c3] at H
    have c3b0 : decide (x8_1 < (l0.length : Int)) = false := decide_eq_false c3
    clear c3
    obtain rfl := Option.some.inj H
    go_wp2
    go_ret
    exact ⟨by first | rfl | (simp; done) | (simp [*]; done), by repeat (first | exact Drawn0.refl _ | apply Drawn0.step)⟩

/-! ### impl_withoutFirst: function 107 -/
set_option maxHeartbeats 2000000 in
/-- slices.Grow of no list at all: an empty list of the call's own. -/
theorem Grow.nil (n : Int) (w : World) (h0 : 0 ≤ n) (h1 : n < 17592186044416) :
    Calls Tryd.prog 117 #[.slice none 0 0, .int .i64 n] w fun e w' => ∃ v, e = .returned v ∧ Kd.R (Kd.int .i64) 2 w' w.heap.size (fun _ => True) v ([] : List Int) ∧ Below w.heap.size w w' := by
  have HB := Aside0.mk (Below.refl w.heap.size w)
  have HR0 : Aside0 (∀ W : World, Kd.R (Kd.int .i64) 2 W w.heap.size (fun _ => True) (.slice none 0 0) ([] : List Int)) := ⟨fun W => Kd.R_nil _ _ _ _ _⟩
  by_cases hp : 0 < n
  · go_enter Tryd.func117, Tryd.ntmps117
    go_wp2_with ((with_reducible refine gate_builtin (b := .append) (xs := #[.tmp 20, .tmp 21]) rfl ?_); at_builtin; refine Kd.R_append_zeros (Kd.int .i64) (w0 := w) w.heap.size rfl (.tmp 20) (.tmp 21) 22 3 2 (.int .i64 0) 8 rfl Tryd.underlying22 Tryd.underlying3 info2 rfl (by decide) (by omega) (.slice none 0 0) ([] : List Int) 0 (n : Int) (fun _ => True) rfl rfl rfl ?aF ?aO (by omega) ?aB ?aS ?aL ?_; (case aF => exact (fun _ _ => trivial)); (case aO => exact HR0.out _); (case aB => first | exact HB.out | exact pw_below_drewN HB.out _); (case aS => exact below_size (by first | exact HB.out | exact pw_below_drewN HB.out _)); (case aL => simp; omega); intro v1 w1 ho hb hg hat; obtain ⟨A1, c1, e1⟩ := Kd.R_slice ho; subst e1; have HO := Aside0.mk (Kd.R_take ho (m := 0) (Nat.zero_le _)); have HB1 := Aside0.mk hb; clear ho hb hg hat)
    go_ret
    exact ⟨_, rfl, HO.out, HB1.out⟩
  · have hz : n = 0 := by omega
    subst hz
    go_enter Tryd.func117, Tryd.ntmps117
    go_wp2
    go_ret
    exact ⟨_, rfl, HR0.out _, by first | exact HB.out | exact pw_below_drewN HB.out _⟩
/-- How long the first k rows are together. -/
def lenTo (l : List (List Int)) (k : Nat) : Nat := ((l.take k).map List.length).sum
theorem lenTo_succ {l : List (List Int)} {k : Nat} (h : k < l.length) : lenTo l (k + 1) = lenTo l k + (l[k]).length := by
  unfold lenTo
  rw [List.take_succ_eq_append_getElem h, List.map_append, List.sum_append]
  simp
theorem lenTo_flat (l : List (List Int)) (k : Nat) : (l.take k).flatten.length = lenTo l k := by
  unfold lenTo
  rw [List.length_flatten]
theorem lenTo_le (l : List (List Int)) (k : Nat) : lenTo l k ≤ l.flatten.length := by
  rw [← lenTo_flat]
  have h : l.flatten = (l.take k).flatten ++ (l.drop k).flatten := by rw [← List.flatten_append, List.take_append_drop]
  rw [h, List.length_append]
  omega
set_option maxHeartbeats 4000000 in
theorem Concat.any (A0 : Option Addr) (c0 : Nat) (l0 : List (List Int)) (w : World) (hr0 : Kd.C (Kd.slice 2 (Kd.int .i64)) w A0 l0.length l0) (hl : l0.flatten.length < 17592186044416) :
    Calls Tryd.prog 116 #[.slice A0 l0.length c0] w fun e w' => ∃ v, e = .returned v ∧ Kd.R (Kd.int .i64) 2 w' w.heap.size (fun _ => True) v l0.flatten ∧ Below w.heap.size w w' := by
  have HR := Aside0.mk hr0
  have hbig : l0.length ≤ 9223372036854775807 := hr0.2.1
  have HL := Aside0.mk hl
  clear hr0 hl
  go_enter Tryd.func116, Tryd.ntmps116
  go_wp2
  go_loopg [3, 5, 11] l0.length (fun gg s3 _ s11 wr => ∃ kk S q : Nat, kk ≤ l0.length ∧ l0.length - kk ≤ gg ∧ s11 = .int .i64 kk ∧ s3 = .int .i64 (S : Int) ∧ S < 17592186044416 ∧ Aside0 (S = lenTo l0 kk) ∧ wr = w.drewN q)
  case atStart => exact ⟨0, 0, 0, Nat.zero_le _, by omega, rfl, rfl, by decide, ⟨rfl⟩, rfl⟩
  case round =>
    obtain ⟨kk, S, q, hkk, hg, rfl, rfl, hS, HS, rfl⟩ := hrel
    by_cases hlt : kk < l0.length
    · have hltz : (kk : Int) < (l0.length : Int) := by omega
      obtain ⟨ad, B1, c1, e0, hcell0, hc1, hx0⟩ := rows_at HR.out kk hlt
      cases e0
      have hcell : w.cell? (ad.add kk) = some (.slice B1 (l0[kk]).length c1) := hcell0
      clear hcell0 hx0 hc1
      have hS2 : S + (l0[kk]).length < 17592186044416 := by
        have h1 := lenTo_le l0 (kk + 1)
        rw [lenTo_succ hlt, ← HS.out] at h1
        have := HL.out
        omega
      have HS2 : Aside0 (S + (l0[kk]).length = lenTo l0 (kk + 1)) := ⟨by rw [lenTo_succ hlt, ← HS.out]⟩
      generalize (l0[kk]).length = L at hcell hS2 HS2
      go_wp2
      go_roundg (l0.length - (kk + 1))
      case measure => omega
      case rel => exact ⟨kk + 1, S + L, _, by omega, by omega, by go_num, by go_num, hS2, HS2, rfl⟩
    · have hltz : ¬ (kk : Int) < (l0.length : Int) := by omega
      have hk : kk = l0.length := by omega
      have HK := Aside0.mk hk
      clear hk
      go_wp2_with (go_at_call 117; refine (Grow.nil (S : Int) _ (by omega) (by omega)).mono ?_; rintro e w1 ⟨v1, rfl, ho, hb⟩; have HO1 : Aside0 (Kd.R (Kd.int .i64) 2 w1 w.heap.size (fun _ => True) v1 ([] : List Int)) := ⟨Kd.R_lower ho (Nat.le_refl _)⟩; have HB1 : Aside0 (Below w.heap.size w w1) := ⟨below_step (by first | exact Below.refl w.heap.size w | exact pw_below_drewN (Below.refl w.heap.size w) _ | exact pw_below_drewN (pw_below_drewN (Below.refl w.heap.size w) _) _) hb⟩; clear ho hb)
      go_loopg [6, 8, 27] l0.length (fun gg s6 _ s27 wr => ∃ (k2 : Nat) (ys : List Int), k2 ≤ l0.length ∧ l0.length - k2 ≤ gg ∧ s27 = .int .i64 k2 ∧ ys.length ≤ 17592186044416 ∧ Aside0 (ys = (l0.take k2).flatten) ∧ Aside0 (Kd.R (Kd.int .i64) 2 wr w.heap.size (fun _ => True) s6 ys) ∧ Aside0 (Below w.heap.size w wr))
      case atStart => exact ⟨0, [], Nat.zero_le _, by omega, rfl, by simp, ⟨by simp⟩, ⟨by first | exact HO1.out | exact Kd.R_drewN HO1.out _⟩, ⟨by first | exact HB1.out | exact pw_below_drewN HB1.out _⟩⟩
      case round =>
        obtain ⟨k2, ys, hk2, hg2, rfl, hys, HY, HO, HB⟩ := hrel
        by_cases hlt2 : k2 < l0.length
        · have hltz2 : (k2 : Int) < (l0.length : Int) := by omega
          obtain ⟨ad, B1, c1, e0, hcell0, hc1, hx0⟩ := rows_at HR.out k2 hlt2
          cases e0
          have hcell : wr.cell? (ad.add k2) = some (.slice B1 (l0[k2]).length c1) := pw_cell_below HB.out hcell0
          have HX := Aside0.mk (Kd.C_below hx0 HB.out)
          clear hcell0 hx0 hc1
          have hsum : ys.length + (l0[k2]).length < 17592186044416 := by
            have h1 := lenTo_le l0 (k2 + 1)
            rw [lenTo_succ hlt2, ← lenTo_flat, ← HY.out] at h1
            have := HL.out
            omega
          have HY2 : Aside0 (ys ++ l0[k2] = (l0.take (k2 + 1)).flatten) := ⟨by rw [HY.out, List.take_succ_eq_append_getElem hlt2, List.flatten_append]; simp⟩
          generalize l0[k2] = y at hcell HX hsum HY2
          have LM := Aside0.mk hsum
          clear hsum
          go_wp2_with ((with_reducible refine gate_builtin (b := .append) (xs := #[.tmp 31, .tmp 32]) rfl ?_); at_builtin; refine Kd.R_append_rows (Kd.int .i64) (w0 := w) w.heap.size rfl (.tmp 31) (.tmp 32) 22 2 (.int .i64 0) 8 rfl Tryd.underlying22 info2 rfl (by decide) (by omega) _ ys y _ _ _ (fun _ => True) (fun _ => False) rfl rfl ?aO ?aR (fun _ _ h => h) (fun _ h => h.elim) ?aF ?aB ?aS ?aL ?_; (case aO => first | exact HO.out | exact Kd.R_drewN HO.out _ | exact Kd.R_drewN (Kd.R_drewN HO.out _) _); (case aR => first | exact HX.out | exact Kd.C_drewN HX.out _ | exact Kd.C_drewN (Kd.C_drewN HX.out _) _); (case aF => exact (fun _ _ => trivial)); (case aB => first | exact HB.out | exact pw_below_drewN HB.out _ | exact pw_below_drewN (pw_below_drewN HB.out _) _); (case aS => exact below_size (by first | exact HB.out | exact pw_below_drewN HB.out _ | exact pw_below_drewN (pw_below_drewN HB.out _) _)); (case aL => have := LM.out; omega); intro v1 w2 ho hb hg hat; have HO2 := Aside0.mk ho; have HB2 := Aside0.mk hb; clear ho hb hg hat)
          go_roundg (l0.length - (k2 + 1))
          case measure => omega
          case rel => exact ⟨k2 + 1, ys ++ y, by omega, by omega, by go_num, by have := LM.out; simp; omega, HY2, ⟨by first | exact HO2.out | exact Kd.R_drewN HO2.out _⟩, ⟨by first | exact HB2.out | exact pw_below_drewN HB2.out _⟩⟩
        · have hltz2 : ¬ (k2 : Int) < (l0.length : Int) := by omega
          have hk : k2 = l0.length := by omega
          have HK2 := Aside0.mk hk
          clear hk
          go_wp2
          go_ret
          refine ⟨_, rfl, ?_, by first | exact HB.out | exact pw_below_drewN HB.out _⟩
          have e : ys = l0.flatten := by rw [HY.out, HK2.out, List.take_length]
          rw [← e]
          first | exact HO.out | exact Kd.R_drewN HO.out _
def impl_withoutFirst.f (k : Nat) (l0 : List Int) (a1 : Int) : Option (List Int) := (slices_Index_int64_int64.f k l0 a1).bind fun t => if 0 ≤ t ∧ t < (l0.length : Int) ∧ l0.length < 17592186044416 then some (l0.take t.toNat ++ l0.drop (t.toNat + 1)) else none
theorem impl_withoutFirst.mono : ∀ a0 a1 k, LeO (impl_withoutFirst.f k a0 a1) (impl_withoutFirst.f (k + 1) a0 a1) := by
  intro a0 a1 k
  unfold impl_withoutFirst.f
  exact LeO.bind (slices_Index_int64_int64.mono a0 a1 k) (fun _ => LeO.refl _)
theorem two_rows {w : World} {A1 A2 : Option Addr} {c1 c2 gb : Nat} {u v : List Int} (hb : w.heap[gb]? = some (.cells #[.slice A1 u.length c1, .slice A2 v.length c2] 22 (0, 0))) (hu : Kd.C (Kd.int .i64) w A1 u.length u) (huc : u.length ≤ c1) (hv : Kd.C (Kd.int .i64) w A2 v.length v) (hvc : v.length ≤ c2) :
    Kd.C (Kd.slice 2 (Kd.int .i64)) w (some ⟨gb, 0, none⟩) [u, v].length [u, v] := by
  refine ⟨rfl, by simp, fun _ => ⟨_, rfl, fun j p hp => ?_⟩⟩
  match j, hp with
  | 0, hp =>
    obtain rfl : u = p := by simpa using hp
    refine ⟨[.slice A1 u.length c1], rfl, ⟨A1, c1, rfl, huc, hu⟩, fun i x hx => ?_⟩
    match i, hx with
    | 0, hx =>
      obtain rfl : Value.slice A1 u.length c1 = x := by simpa using hx
      exact (blk_cell hb 0).trans rfl
  | 1, hp =>
    obtain rfl : v = p := by simpa using hp
    refine ⟨[.slice A2 v.length c2], rfl, ⟨A2, c2, rfl, hvc, hv⟩, fun i x hx => ?_⟩
    match i, hx with
    | 0, hx =>
      obtain rfl : Value.slice A2 v.length c2 = x := by simpa using hx
      exact (blk_cell hb 1).trans rfl
set_option maxHeartbeats 4000000 in
theorem impl_withoutFirst.calls (k : Nat) (A0 : Option Addr) (c0 : Nat) (l0 : List Int) (a1 : Int) (r : List Int) (w : World) (hr0 : Kd.C (Kd.int .i64) w A0 l0.length l0) (hc0 : l0.length ≤ c0) (h : impl_withoutFirst.f k l0 a1 = some r) :
    Calls Tryd.prog 107 #[.slice A0 l0.length c0, .int .i64 a1] w fun e w' => ∃ v0_ : Value, e = .returned (v0_) ∧ Kd.R (Kd.int .i64) 2 w' w.heap.size (fun _ => True) v0_ r ∧ Below w.heap.size w w' := by
  have HR0 := Aside0.mk hr0
  have HC0 := Aside0.mk hc0
  clear hr0 hc0
  unfold impl_withoutFirst.f at h
  obtain ⟨t, ht, h2⟩ := Option.bind_eq_some_iff.mp h
  clear h
  have A1 := Aside0.mk ht
  clear ht
  by_cases c1 : 0 ≤ t ∧ t < (l0.length : Int) ∧ l0.length < 17592186044416
  · rw [if_pos c1] at h2
    obtain ⟨p1, p2, p3⟩ := c1
    have HRES := Aside0.mk (Option.some.inj h2)
    clear h2
    have hw : wrap64 (t + 1) = t + 1 := by unfold wrap64; omega
    have p4 : t ≤ (l0.length : Int) := by omega
    have p5 : 0 ≤ t + 1 := by omega
    have p6 : t + 1 ≤ (l0.length : Int) := by omega
    have LMM := Aside0.mk p3
    obtain ⟨i011, hi011, _, hsz11, _⟩ := info_parts info2
    obtain ⟨hcut11, hA11, hC11⟩ := print_take_of (P := Tryd.prog) (Value.int .i64) 0 22 2 .i64 Tryd.underlying22 hi011 hsz11 A0 c0 l0 t p1 p4 HC0.out
    obtain ⟨A12, hcut12, hA12, hC12⟩ := print_drop_of (P := Tryd.prog) (Value.int .i64) 0 22 2 .i64 Tryd.underlying22 hi011 hsz11 A0 c0 l0 (t + 1) p5 p6 HC0.out
    have HR1 := Aside0.mk (fun W (hW : Kd.C (Kd.int .i64) W A0 l0.length l0) => (Kd.C_of_reads (h1 := fun _ => rfl) (hA11 W (Kd.reads_of_C hW)) : Kd.C (Kd.int .i64) W A0 (l0.take t.toNat).length (l0.take t.toNat)))
    have HC1 := Aside0.mk hC11
    have HR2 := Aside0.mk (fun W (hW : Kd.C (Kd.int .i64) W A0 l0.length l0) => (Kd.C_of_reads (h1 := fun _ => rfl) (hA12 W (Kd.reads_of_C hW)) : Kd.C (Kd.int .i64) W A12 (l0.drop (t + 1).toNat).length (l0.drop (t + 1).toNat)))
    have HC2 := Aside0.mk hC12
    clear hA11 hC11 hA12 hC12 hi011 hsz11
    have HF : Aside0 ([l0.take t.toNat, l0.drop (t + 1).toNat].flatten = r ∧ [l0.take t.toNat, l0.drop (t + 1).toNat].flatten.length < 17592186044416) := by
      have e1 : [l0.take t.toNat, l0.drop (t + 1).toNat].flatten = r := by
        rw [← HRES.out, show (t + 1).toNat = t.toNat + 1 by omega]
        simp
      refine ⟨e1, ?_⟩
      simp
      omega
    clear HRES
    generalize l0.take t.toNat = u at hcut11 HR1 HC1 HF
    generalize l0.drop (t + 1).toNat = v at hcut12 HR2 HC2 HF
    go_enter Tryd.func107, Tryd.ntmps107
    go_wp2_with (go_at_call 115; refine (slices_Index_int64_int64.calls k A0 c0 l0 a1 t _ ?s1 HC0.out A1.out).mono ?_; (case s1 => first | exact HR0.out | exact Kd.C_drewN HR0.out _); rintro e w' ⟨rfl, ⟨q, rfl⟩⟩)
    have hwi : IntKind.i64.wrap (t + 1) = t + 1 := by rw [IntKind.wrap_i64]; omega
    go_still_tail 7, (by kernel_rfl)
    clear hwi
    have HRa : Aside0 (Kd.C (Kd.int .i64) ((w.drewN q).drew) A0 l0.length l0) := ⟨Kd.C_drew (Kd.C_drewN HR0.out _)⟩
    have HBa : Aside0 (Below w.heap.size w ((w.drewN q).drew)) := ⟨below_drew1 (pw_below_drewN (Below.refl w.heap.size w) _)⟩
    change wpList _ _ _ _ _ ((w.drewN q).drew)
    generalize (w.drewN q).drew = w2 at HRa HBa ⊢
    obtain ⟨W3, hW3⟩ : ∃ W3 : World, W3 = w2.alloc (.cells #[.slice A0 u.length c0, .slice A12 v.length (c0 - (t + 1).toNat)] 22 (0, 0)) := ⟨_, rfl⟩
    have HB3 : Aside0 (Below w.heap.size w W3) := ⟨by rw [hW3]; exact below_alloc HBa.out _⟩
    have HR3 : Aside0 (Kd.C (Kd.int .i64) W3 A0 l0.length l0) := ⟨by rw [hW3]; exact Kd.C_alloc HRa.out _⟩
    have HK3 : Aside0 (W3.heap[w2.heap.size]? = some (.cells #[.slice A0 u.length c0, .slice A12 v.length (c0 - (t + 1).toNat)] 22 (0, 0))) := ⟨by rw [hW3]; exact heap_alloc_new w2 _⟩
    have HROWS := Aside0.mk (two_rows HK3.out (HR1.out _ HR3.out) HC1.out (HR2.out _ HR3.out) HC2.out)
    have HW3 := Aside0.mk hW3
    clear hW3
    go_wp2_with (first | ((with_reducible refine gate_dst (N := 16) rfl ?_); refine Kd.event_run (v := .slice (some ⟨w2.heap.size, 0, none⟩) 2 2) (w1 := W3) ?hg ?hr ?_; (case hg => rfl); (case hr => rw [HW3.out]; first | (go_simp; done) | (go_simp; rfl))) | (go_at_call 116; refine (Concat.any (some ⟨w2.heap.size, 0, none⟩) 2 [u, v] _ HROWS.out HF.out.2).mono ?_; rintro e w4 ⟨v4, rfl, ho, hb⟩; have HO4 : Aside0 (Kd.R (Kd.int .i64) 2 w4 w.heap.size (fun _ => True) v4 [u, v].flatten) := ⟨Kd.R_lower ho (below_size HB3.out)⟩; have HB4 : Aside0 (Below w.heap.size w w4) := ⟨below_step HB3.out hb⟩; clear ho hb))
    go_ret
    exact ⟨_, rfl, by rw [← HF.out.1]; exact HO4.out, HB4.out⟩
  · rw [if_neg c1] at h2
    cases h2

end Go.Proofs.YtlpodkpnoopnnaaDoor.G
