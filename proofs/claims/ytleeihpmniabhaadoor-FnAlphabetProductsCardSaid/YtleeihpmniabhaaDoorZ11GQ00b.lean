-- A copy, with what one law needs, of a text that print.sh or a program of ours wrote
import Derived.Test.YtleeihpmniabhaaDoorZ11G0
import Derived.Test.YtleeihpmniabhaaDoorZ11GQ00a
import Derived.Test.YtleeihpmniabhaaDoorZ11GQ01a
namespace Go.Proofs.YtleeihpmniabhaaDoor.G
open Go.RowKit Go.Proofs.YtleeihpmniabhaaDoorW.PrintWords Go.Proofs.YtleeihpmniabhaaDoorW.PrintLast Go.Proofs.YtleeihpmniabhaaDoorW.PrintMore
theorem zQ00bx0 {p : Prop} (h : p := by repeat (first | (with_reducible first | exact HK.out | apply Kept.alloc | apply Kept.drewN | apply Kept.drew) | exact HK.out)) : p := h
theorem zQ00bx1 {p : Prop} (h : p := by repeat (first | (with_reducible first | exact HK.out | apply Kept.alloc | apply Kept.drewN | apply Kept.drew | refine Kept.setCell ?_ HMgo7.out _ | refine Kept.setCell ?_ (.inr GW117.out) _) | exact HK.out)) : p := h
theorem zQ00bx2 {p : Prop} (h : p := by repeat (first | (with_reducible first | exact HB.out | apply below_alloc | apply pw_below_drewN | apply below_drew1 | refine below_set ?_ GB7.out | refine below_set ?_ GE117.out) | exact HB.out)) : p := h
theorem zQ00bx3 {p : Prop} (h : p := by repeat (first | (with_reducible first | exact HK.out | apply KeepBut.set_ | apply keep_drewN | apply keep_drew | apply keep_alloc) | exact HK.out)) : p := h
theorem zQ00bx4 {p : Prop} (h : p := by repeat (first | (with_reducible first | exact HI0.out | apply IsS104.alloc | apply IsS104.drewN | apply IsS104.drew | apply IsS104.set_1 | apply IsS104.set_2) | exact HI0.out)) : p := h
theorem zQ00bx5 {p : Prop} (h : p := by repeat (first | (with_reducible first | exact HI0.out | apply IsS104.alloc | apply IsS104.drewN | apply IsS104.drew | apply IsS104.set_1 | apply IsS104.set_2 | refine IsS104.far ?_ NB0_124.out _) | exact HI0.out)) : p := h
theorem zQ00bx6 {p : Prop} (h : p := by repeat (first | (with_reducible first | exact HB.out | apply below_alloc | apply pw_below_drewN | apply below_drew1 | refine below_set ?_ (IsS104.ge HI0.out) | refine below_set ?_ GE124.out) | exact HB.out)) : p := h
theorem zQ00bx7 {p : Prop} (h : p := by repeat (first | (with_reducible first | exact HK.out | apply KeepBut.set_ | apply keep_drewN | apply keep_drew | apply keep_alloc | refine keep_far ?_ GW124.out _) | exact HK.out)) : p := h
theorem zQ00bx8 {p : Prop} (h : p := by repeat (first | (with_reducible first | exact HI0.out | apply IsS104.alloc | apply IsS104.drewN | apply IsS104.drew | apply IsS104.set_1 | apply IsS104.set_2 | refine IsS104.far ?_ NB0_124.out _ | refine IsS104.far ?_ NB0_147.out _) | exact HI0.out)) : p := h
theorem zQ00bx9 {p : Prop} (h : p := by repeat (first | (with_reducible first | exact HK.out | apply KeepBut.set_ | apply keep_drewN | apply keep_drew | apply keep_alloc | refine keep_far ?_ GW124.out _ | refine keep_far ?_ GW147.out _) | exact HK.out)) : p := h
theorem zQ00bx10 {p : Prop} (h : p := by repeat (first | (with_reducible first | exact HB.out | apply below_alloc | apply pw_below_drewN | apply below_drew1 | refine below_set ?_ (IsS104.ge HI0.out) | refine below_set ?_ GE124.out | refine below_set ?_ GE147.out) | exact HB.out)) : p := h
attribute [local go_sem] max2_int min2_int max_two min_two max_three min_three max_four min_four   -- for this text's walks alone
set_option linter.unusedVariables false
set_option linter.unusedSimpArgs false
def spec_l02Join.f (a0_0 : Int) (l0_1 : List Int) (a1 : Int) (a2 : Int) : Option (List Int) := if 0 ≤ a1 then (if a1 < (l0_1.length : Int) then ((spec_l01One.f a2).bind fun t119 => ((some (l0_1.set (a1 : Int).toNat (Go.bits .or .i64 (rd l0_1 a1) t119) : List Int)).bind fun y120 => (if 0 ≤ a2 then (if a2 < (l0_1.length : Int) then ((spec_l01One.f a1).bind fun t122 => (some (y120.set (a2 : Int).toNat (Go.bits .or .i64 (rd y120 a2) t122)))) else (none)) else (none)))) else (none)) else (none)
def spec_l02Join.T1 : Bool × List (List Nat × List Nat) := (true, [([], []), ([0], [0]), ([], []), ([], []), ([3], [3]), ([], []), ([4, 5], [4, 5]), ([6], [6]), ([], []), ([8], [8]), ([7, 9], [7, 9]), ([1, 2, 0, 1, 2, 3, 4, 5, 6, 7, 8, 9, 10], [1, 2]), ([11, 10, 9, 0, 1, 2, 3, 4, 5, 6, 7, 8, 9, 10], [10, 11])])
def spec_l02Join.B1 : List Nat := [0, 1, 0, 0, 8, 0, 56, 120, 0, 256, 1016, 2047, 4095]
theorem spec_l02Join.tab1 : rtab .any (opsOf Tryd.f136 1) = spec_l02Join.T1 := by kernel_rfl
theorem spec_l02Join.bits1 : waitsOk spec_l02Join.T1.2 spec_l02Join.B1 = true := by kernel_rfl
def spec_l02Join.T2 : Bool × List (List Nat × List Nat) := (true, [([], []), ([0], [0]), ([], []), ([], []), ([3], [3]), ([], []), ([4, 5], [4, 5]), ([6], [6]), ([], []), ([8], [8]), ([7, 9], [7, 9]), ([1, 2, 0, 1, 2, 3, 4, 5, 6, 7, 8, 9, 10], [1, 2]), ([11, 10, 9, 0, 1, 2, 3, 4, 5, 6, 7, 8, 9, 10], [10, 11])])
def spec_l02Join.B2 : List Nat := [0, 1, 0, 0, 8, 0, 56, 120, 0, 256, 1016, 2047, 4095]
theorem spec_l02Join.tab2 : rtab .any (opsOf Tryd.f136 2) = spec_l02Join.T2 := by kernel_rfl
theorem spec_l02Join.bits2 : waitsOk spec_l02Join.T2.2 spec_l02Join.B2 = true := by kernel_rfl
set_option maxHeartbeats 8000000 in
set_option maxRecDepth 100000 in
theorem spec_l02Join.calls (a0_0 : Int) (P0_1_ : Nat → Prop) (u9000_ : Value) (l0_1 : List Int) (a1 : Int) (a2 : Int) (r : List Int) (w0 w : World) (hB : Below w0.heap.size w0 w) (ho0_1 : Kd.R (Kd.int .i64) 2 w w0.heap.size P0_1_ u9000_ l0_1) (h : spec_l02Join.f a0_0 l0_1 a1 a2 = some r) :
  Calls Tryd.prog 136 #[.agg #[.int .i64 a0_0, u9000_], .int .i64 a1, .int .i64 a2] w fun e w' => e = .returned (.tuple #[]) ∧ Kd.R (Kd.int .i64) 2 w' w0.heap.size (fun k_ => (P0_1_ k_ ∨ w.heap.size ≤ k_)) u9000_ r ∧ Below w0.heap.size w0 w' ∧ Kept w w' (fun k_ => P0_1_ k_) := by
 have hu26 := Tryd.underlying26; have HO0_1 := Aside0.mk (show Kd.R (Kd.int .i64) 2 w w0.heap.size (fun k_ => (P0_1_ k_ ∨ w.heap.size ≤ k_)) u9000_ l0_1 from Kd.R_mono ho0_1 (fun k_ hk => (.inl hk))); have HK := Aside0.mk (Kept.refl w (fun k_ => P0_1_ k_)); have HW0 := Aside0.mk hB.size; have HB := Aside0.mk hB; clear hB
 have H : (if 0 ≤ a1 then (if a1 < (l0_1.length : Int) then ((spec_l01One.f a2).bind fun t119 => ((some (l0_1.set (a1 : Int).toNat (Go.bits .or .i64 (rd l0_1 a1) t119) : List Int)).bind fun y120 => (if 0 ≤ a2 then (if a2 < (l0_1.length : Int) then ((spec_l01One.f a1).bind fun t122 => (some (y120.set (a2 : Int).toNat (Go.bits .or .i64 (rd y120 a2) t122)))) else (none)) else (none)))) else (none)) else (none)) = some r := h
 clear h
 by_cases c4 : 0 ≤ a1
 ·rw [if_pos c4] at H
  have c4b0 : decide (0 ≤ a1) = true := decide_eq_true c4
  clear c4
  by_cases c5 : a1 < (l0_1.length : Int)
  ·rw [if_pos c5] at H
   have c5b0 : decide (a1 < (l0_1.length : Int)) = true := decide_eq_true c5
   clear c5; replace H := Option.bind_eq_some_iff.mp H; obtain ⟨t119, A60, H⟩ := H
   replace H : ((some (l0_1.set (a1 : Int).toNat (Go.bits .or .i64 (rd l0_1 a1) t119) : List Int)).bind fun y120 => (if 0 ≤ a2 then (if a2 < (l0_1.length : Int) then ((spec_l01One.f a1).bind fun t122 => (some (y120.set (a2 : Int).toNat (Go.bits .or .i64 (rd y120 a2) t122)))) else (none)) else (none))) = some r := H
   have A6 := Aside0.mk A60; clear A60
   obtain ⟨y120, hy120⟩ : ∃ y_ : List Int, y_ = (l0_1.set (a1 : Int).toNat (Go.bits .or .i64 (rd l0_1 a1) t119)) := ⟨_, rfl⟩
   replace H : (if 0 ≤ a2 then (if a2 < (l0_1.length : Int) then ((spec_l01One.f a1).bind fun t122 => (some (y120.set (a2 : Int).toNat (Go.bits .or .i64 (rd y120 a2) t122)))) else (none)) else (none)) = some r := by first | (rw [hy120]; with_reducible exact H) | (have H2_ := (Option.bind_some _ _).symm.trans H; rw [hy120]; with_reducible exact H2_) | (have H2_ := (Option.bind_some _ _).symm.trans H; with_reducible exact H2_) | with_reducible exact H | (rw [hy120]; exact H) | exact H
   have Ny120 := Aside0.mk hy120; clear hy120
   by_cases c8 : 0 ≤ a2
   ·rw [if_pos c8] at H
    have c8b0 : decide (0 ≤ a2) = true := decide_eq_true c8
    clear c8
    by_cases c9 : a2 < (l0_1.length : Int)
    ·rw [if_pos c9] at H
     have c9b0 : decide (a2 < (l0_1.length : Int)) = true := decide_eq_true c9
     clear c9; replace H := Option.bind_eq_some_iff.mp H; obtain ⟨t122, A100, H⟩ := H
     replace H : (some (y120.set (a2 : Int).toNat (Go.bits .or .i64 (rd y120 a2) t122))) = some r := H
     have A10 := Aside0.mk A100; clear A100
     obtain ⟨y123, hy123⟩ : ∃ y_ : List Int, y_ = (y120.set (a2 : Int).toNat (Go.bits .or .i64 (rd y120 a2) t122)) := ⟨_, rfl⟩
     replace H : (some y123) = some r := by first | (rw [hy123]; with_reducible exact H) | (have H2_ := (Option.bind_some _ _).symm.trans H; rw [hy123]; with_reducible exact H2_) | (have H2_ := (Option.bind_some _ _).symm.trans H; with_reducible exact H2_) | with_reducible exact H | (rw [hy123]; exact H) | exact H
     have Ny123 := Aside0.mk hy123; clear hy123
     obtain rfl := Option.some.inj H
     obtain ⟨Ao12, co12, eo12⟩ := Kd.R_slice HO0_1.out; subst eo12
     go_enter Tryd.func136, Tryd.ntmps136
     try go_wp2_with (first | ((with_reducible refine gate_dst (N := 3) rfl ?_); refine box_event ?hg (N := 3) ?hd (cs := #[.int .i64 a0_0, .slice Ao12 l0_1.length co12]) (t := 26) ?hr ?_; (case hd => rfl); (case hg => rfl); (case hr => first | (go_simp; done) | (go_simp; rfl)); intro gb117 hg w13 hbox hb; replace HO0_1 := Aside0.mk (Kd.R_below (by (with_reducible repeat (first | apply Kd.R_alloc | apply Kd.R_drewN | apply Kd.R_drew)); exact HO0_1.out) hb); have BK117 := Aside0.mk (hbox); have GW117 := Aside0.mk ((by rw [hg]; exact (by first | exact HK.out.1 | exact (show Kept w _ (fun k_ => P0_1_ k_) from zQ00bx0).1) : w.heap.size ≤ gb117)); replace HK := Aside0.mk (Kept.below (S := (fun k_ => P0_1_ k_)) (zQ00bx0) hb); have GE117 := Aside0.mk ((by rw [hg]; exact (below_size (beQ HB)) : w0.heap.size ≤ gb117)); replace HB := Aside0.mk (below_step (beQ HB) hb); clear hb hbox hg))
     replace HO0_1 := Aside0.mk (Kd.R_drew HO0_1.out); replace BK117 := Aside0.mk (blk_drew BK117.out); replace HK := Aside0.mk (Kept.drew HK.out); replace HB := Aside0.mk (below_drew1 HB.out)
     have p118 : 0 ≤ (a1 : Int) := of_decide_eq_true (by first | (with_reducible assumption) | assumption)
     have q118 : a1 < (l0_1.length : Int) := of_decide_eq_true (by first | (with_reducible assumption) | assumption)
     obtain ⟨ad118, e118, hx118_0⟩ := Kd.at_int (Kd.R_reads' HO0_1.out).2.2 a1 p118 q118; cases e118; replace p118 := eq_true p118; replace q118 := eq_true q118
     refine start_ (n := 13) (S := fun w' => w'.cell? ⟨gb117, 0, none⟩ = some (.int .i64 a0_0) ∧ w'.cell? ⟨gb117, 1, none⟩ = some (.slice (some ad118) l0_1.length co12) ∧ w'.cell? (ad118.add (a1).toNat) = some (.int .i64 (rd l0_1 a1))) (ds := [12]) #[false, false, false, false, false, false, false, false, false, false, false, false, false] (by kernel_rfl) rfl rfl ⟨bc BK117 0, bc BK117 1, hx118_0⟩ (fun hHeld => ?_); refine with_tabW spec_l02Join.tab1 spec_l02Join.bits1 (fun HT_ HW_ => ?_)
     generalize w13.drew = w14 at HO0_1 BK117 HK HB hx118_0 hHeld ⊢
     refine pure_ (i := 0) (N := some 6) (v := ?_) (a' := ?_) #[true, false, false, false, false, false, false, false, false, false, false, false, false] rfl rfl (any_of HT_.out (by kernel_rfl)) (fun _ _ _ h => h) (Or.inl ⟨by rfl, ?_⟩) ?_ ?_
     rotate_left
     ·intro w'
      go_simp
      with_reducible rfl
     rotate_left
     ·simp only [Act.put, s1, s2, s3, i64_w, i32_w]
      rfl
     refine pure_ (i := 2) (N := some 8) (v := ?_) (a' := ?_) #[true, false, true, false, false, false, false, false, false, false, false, false, false] rfl rfl (any_of HT_.out (by kernel_rfl)) (fun _ _ _ h => h) (Or.inl ⟨by rfl, ?_⟩) ?_ ?_
     rotate_left
     ·intro w'
      go_simp
      with_reducible rfl
     rotate_left
     ·simp only [Act.put, s1, s2, s3, i64_w, i32_w]
      rfl
     refine pure_ (i := 3) (N := some 9) (v := ?_) (a' := ?_) #[true, false, true, true, false, false, false, false, false, false, false, false, false] rfl rfl (any_of HT_.out (by kernel_rfl)) (fun _ _ _ h => h) (Or.inl ⟨by rfl, ?_⟩) ?_ ?_
     rotate_left
     ·intro w'
      go_simp
      with_reducible rfl
     rotate_left
     ·simp only [Act.put, s1, s2, s3, i64_w, i32_w]
      rfl
     refine pure_ (i := 5) (N := some 11) (v := ?_) (a' := ?_) #[true, false, true, true, false, true, false, false, false, false, false, false, false] rfl rfl (any_of HT_.out (by kernel_rfl)) (fun _ _ _ h => h) (Or.inl ⟨by rfl, ?_⟩) ?_ ?_
     rotate_left
     ·intro w'
      go_simp
      with_reducible rfl
     rotate_left
     ·simp only [Act.put, s1, s2, s3, i64_w, i32_w]
      rfl
     refine pure_ (i := 8) (N := some 14) (v := ?_) (a' := ?_) #[true, false, true, true, false, true, false, false, true, false, false, false, false] rfl rfl (any_of HT_.out (by kernel_rfl)) (fun _ _ _ h => h) (Or.inl ⟨by rfl, ?_⟩) ?_ ?_
     rotate_left
     ·intro w'
      go_simp
      with_reducible rfl
     rotate_left
     ·simp only [Act.put, s1, s2, s3, i64_w, i32_w]
      rfl
     refine take_ (i := 1) (N := some 7) (v := ?_) (a' := ?_) #[true, true, true, true, false, true, false, false, true, false, false, false, false] rfl rfl (take_ofW HT_.out HW_.out (by kernel_rfl)) (fun _ _ _ h => h) (Or.inl ⟨by rfl, ?_⟩) hHeld ?_ ?_
     rotate_left
     ·rintro w' ⟨s0, s1, s2⟩
      go_simp
      with_reducible rfl
     rotate_left
     ·simp only [Act.put, s1, s2, s3, i64_w, i32_w]
      rfl
     refine take_ (i := 4) (N := some 10) (v := ?_) (a' := ?_) #[true, true, true, true, true, true, false, false, true, false, false, false, false] rfl rfl (take_ofW HT_.out HW_.out (by kernel_rfl)) (fun _ _ _ h => h) (Or.inl ⟨by rfl, ?_⟩) hHeld ?_ ?_
     rotate_left
     ·rintro w' ⟨s0, s1, s2⟩
      go_simp
      with_reducible rfl
     rotate_left
     ·simp only [Act.put, s1, s2, s3, i64_w, i32_w]
      rfl
     refine pure_ (i := 6) (N := some 12) (v := ?_) (a' := ?_) #[true, true, true, true, true, true, true, false, true, false, false, false, false] rfl rfl (any_of HT_.out (by kernel_rfl)) (fun _ _ _ h => h) (Or.inl ⟨by rfl, ?_⟩) ?_ ?_
     rotate_left
     ·intro w'
      go_simp
      with_reducible rfl
     rotate_left
     ·simp only [Act.put, s1, s2, s3, i64_w, i32_w]
      rfl
     refine take_ (i := 7) (N := some 13) (v := ?_) (a' := ?_) #[true, true, true, true, true, true, true, true, true, false, false, false, false] rfl rfl (take_ofW HT_.out HW_.out (by kernel_rfl)) (fun _ _ _ h => h) (Or.inl ⟨by rfl, ?_⟩) hHeld ?_ ?_
     rotate_left
     ·rintro w' ⟨s0, s1, s2⟩
      go_simp
      with_reducible rfl
     rotate_left
     ·simp only [Act.put, s1, s2, s3, i64_w, i32_w]
      rfl
     refine one_ (i := 9) (N := some 15) #[true, true, true, true, true, true, true, true, true, true, false, false, false] rfl rfl (one_of HT_.out (by kernel_rfl)) (by decide) (fun K hK => ?_)
     refine goes_ Tryd.func123 (by kernel_rfl) rfl #[.int .i64 a2] (by rfl) rfl rfl lz ?_
     with_reducible refine (spec_l01One.calls a2 t119 _ A6.out).mono ?_
     rintro e w' ⟨rfl, ⟨nd, rfl⟩⟩
     refine ⟨_, rfl, ?_⟩
     have p7 : 0 ≤ (a1 : Int) := of_decide_eq_true (by first | (with_reducible assumption) | assumption)
     have q7 : (a1 : Int) < ((l0_1.length : Int) : Int) := of_decide_eq_true (by first | (with_reducible assumption) | assumption)
     obtain ⟨go7, co7, eo7, gb7, gl7, cl7, HG7⟩ := Kd.R_form HO0_1.out (by omega)
     (first | cases eo7 | (injection eo7 with ea_ en_ ec_; (first | subst ea_ | (injection ea_ with ea_; subst ea_)); subst ec_; clear en_))
     have GB7 := Aside0.mk gb7; have GG7 := Aside0.mk HG7; clear gb7 gl7 HG7; have HMgo7 := Aside0.mk (show (P0_1_ go7 ∨ w.heap.size ≤ go7) from (HO0_1.out.1 _ rfl))
     (first | simp only [add_plain] at hx118_0 | skip)
     obtain ⟨hx7_0, hf7_0⟩ := Kd.R_celln 0 HO0_1.out (a1 : Int) p7 q7; replace p7 := eq_true p7; replace q7 := eq_true q7; have HP15 := Kd.R_putn HO0_1.out (a1 : Int) (Go.bits .or .i64 (rd l0_1 a1) t119); rw [← Ny120.out] at HP15; have HQ15 := Aside0.mk HP15; clear HP15
     refine hK.out _ _ ⟨bc BK117 0, bc BK117 1, hHeld.2.2⟩ (fun hHeld => ?_)
     clear hK K
     refine norm_ (a' := ?_) ?_ ?_
     rotate_left
     ·show Act.put _ (some 15) _ = _
      simp only [Act.put, s1, s2, s3, i64_w, i32_w]
      rfl
     refine pure_ (i := 10) (N := some 16) (v := ?_) (a' := ?_) #[true, true, true, true, true, true, true, true, true, true, true, false, false] rfl rfl (any_of HT_.out (by kernel_rfl)) (fun _ _ _ h => h) (Or.inl ⟨by rfl, ?_⟩) ?_ ?_
     rotate_left
     ·intro w'
      go_simp
      with_reducible rfl
     rotate_left
     ·simp only [Act.put, s1, s2, s3, i64_w, i32_w]
      rfl
     refine pure_ (i := 11) (N := some 17) (v := ?_) (a' := ?_) #[true, true, true, true, true, true, true, true, true, true, true, true, false] rfl rfl (any_of HT_.out (by kernel_rfl)) (fun _ _ _ h => h) (Or.inl ⟨by rfl, ?_⟩) ?_ ?_
     rotate_left
     ·intro w'
      go_simp
      with_reducible rfl
     rotate_left
     ·simp only [Act.put, s1, s2, s3, i64_w, i32_w]
      rfl
     refine last_ (i := 12) (N := none) #[true, true, true, true, true, true, true, true, true, true, true, true, true] rfl rfl (one_of HT_.out (by kernel_rfl)) (by decide) (fun K hK => ?_)
     refine skip_ (w1 := ?_) (by rfl) rfl ?_ ?_
     rotate_left
     ·go_simp
      rfl
     refine hK.out _ _ ?_
     clear hK K
     refine done_ (done_of HT_.out (by kernel_rfl)) ?_
     try go_wp2
     have n0_ : Aside0 (Kd.R (Kd.int .i64) 2 (w14.setCell ⟨go7, (a1 : Int).toNat, none⟩ (.int .i64 (Go.bits .or .i64 (rd l0_1 a1) t119))) w0.heap.size (fun k_ => (P0_1_ k_ ∨ w.heap.size ≤ k_)) (.slice (some ⟨go7, 0, none⟩) l0_1.length co12) y120) := ⟨by (with_reducible repeat (first | apply Kd.R_alloc | apply Kd.R_drewN | apply Kd.R_drew)); exact HQ15.out⟩
     have n1_ : Aside0 ((w14.setCell ⟨go7, (a1 : Int).toNat, none⟩ (.int .i64 (Go.bits .or .i64 (rd l0_1 a1) t119))).heap[gb117]? = some (.cells #[.int .i64 a0_0, .slice (some ⟨go7, 0, none⟩) l0_1.length co12] 26 (0, 0))) := ⟨by (with_reducible repeat (first | refine blk_drewN ?_ _ | refine blk_drew ?_ | refine blk_alloc ?_ _)); refine blk_far ?_ (by have h_ := Kd.R_ne HO0_1.out BK117.out (by decide); intro e_; exact h_ (by rw [e_]; rfl)) _; (with_reducible repeat (first | refine blk_drewN ?_ _ | refine blk_drew ?_ | refine blk_alloc ?_ _)); exact BK117.out⟩
     have n2_ : Aside0 (Kept w (w14.setCell ⟨go7, (a1 : Int).toNat, none⟩ (.int .i64 (Go.bits .or .i64 (rd l0_1 a1) t119))) (fun k_ => P0_1_ k_)) := ⟨zQ00bx1⟩
     have n3_ : Aside0 (Below w0.heap.size w0 (w14.setCell ⟨go7, (a1 : Int).toNat, none⟩ (.int .i64 (Go.bits .or .i64 (rd l0_1 a1) t119)))) := ⟨zQ00bx2⟩
     (try clear HO0_1)
     (try clear BK117)
     (try clear HK)
     (try clear HB)
     (try simp only [drewN_set])
     generalize (w14.setCell ⟨go7, (a1 : Int).toNat, none⟩ (.int .i64 (Go.bits .or .i64 (rd l0_1 a1) t119))) = w16 at n0_ n1_ n2_ n3_ ⊢
     have HO0_1 := n0_; have BK117 := n1_; have HK := n2_; have HB := n3_; clear n0_ n1_ n2_ n3_
     (try (rw [drewN_self w16]; generalize hq_ : World.drewN w16 _ = w16; have n0_ : Aside0 (Kd.R (Kd.int .i64) 2 w16 w0.heap.size (fun k_ => (P0_1_ k_ ∨ w.heap.size ≤ k_)) (.slice (some ⟨go7, 0, none⟩) l0_1.length co12) y120) := ⟨by rw [← hq_]; exact (by (with_reducible repeat (first | apply Kd.R_alloc | apply Kd.R_drewN | apply Kd.R_drew)); exact HO0_1.out)⟩; have n1_ : Aside0 (w16.heap[gb117]? = some (.cells #[.int .i64 a0_0, .slice (some ⟨go7, 0, none⟩) l0_1.length co12] 26 (0, 0))) := ⟨by rw [← hq_]; exact (blkQ BK117)⟩; have n2_ : Aside0 (Kept w w16 (fun k_ => P0_1_ k_)) := ⟨by rw [← hq_]; exact (by repeat (first | (with_reducible first | exact HK.out | apply Kept.alloc | apply Kept.drewN | apply Kept.drew | refine Kept.setCell ?_ (.inr GW117.out) _) | exact HK.out))⟩; have n3_ : Aside0 (Below w0.heap.size w0 w16) := ⟨by rw [← hq_]; exact (beQ HB)⟩; clear HO0_1 BK117 HK HB hq_; have HO0_1 := n0_; have BK117 := n1_; have HK := n2_; have HB := n3_; clear n0_ n1_ n2_ n3_))
     replace HO0_1 := Aside0.mk (Kd.R_drew HO0_1.out); replace BK117 := Aside0.mk (blk_drew BK117.out); replace HK := Aside0.mk (Kept.drew HK.out); replace HB := Aside0.mk (below_drew1 HB.out)
     have p121 : 0 ≤ (a2 : Int) := of_decide_eq_true (by first | (with_reducible assumption) | assumption)
     have q121 : a2 < (y120.length : Int) := (by have h_ : (a2 : Int) < ((l0_1.length : Int) : Int) := of_decide_eq_true (by first | (with_reducible assumption) | assumption); first | (have e_ := (Kd.R_reads' HO0_1.out).1; omega) | simpa only [Ny120.out, List.length_set] using h_)
     have ql121 : ((a2 : Int) < ((l0_1.length : Int) : Int)) = True := eq_true (of_decide_eq_true (by first | (with_reducible assumption) | assumption))
     obtain ⟨ad121, e121, hx121_0⟩ := Kd.at_int (Kd.R_reads' HO0_1.out).2.2 a2 p121 q121
     obtain rfl : (⟨go7, 0, none⟩ : Addr) = ad121 := (by injection e121)
     (first | simp only [add_plain] at hx121_0 | simp only [add_at] at hx121_0 | simp only [Addr.add, Nat.zero_add] at hx121_0 | skip)
     replace p121 := eq_true p121; replace q121 := eq_true q121
     refine start_ (n := 13) (S := fun w' => w'.cell? ⟨gb117, 0, none⟩ = some (.int .i64 a0_0) ∧ w'.cell? ⟨gb117, 1, none⟩ = some (.slice (some ⟨go7, 0, none⟩) l0_1.length co12) ∧ w'.cell? ⟨go7, (a2).toNat, none⟩ = some (.int .i64 (rd y120 a2))) (ds := [12]) #[false, false, false, false, false, false, false, false, false, false, false, false, false] (by kernel_rfl) rfl rfl ⟨bc BK117 0, bc BK117 1, hx121_0⟩ (fun hHeld => ?_); refine with_tabW spec_l02Join.tab2 spec_l02Join.bits2 (fun HT_ HW_ => ?_)
     generalize w16.drew = w17 at HO0_1 BK117 HK HB HQ15 hx121_0 hHeld ⊢
     refine pure_ (i := 0) (N := some 18) (v := ?_) (a' := ?_) #[true, false, false, false, false, false, false, false, false, false, false, false, false] rfl rfl (any_of HT_.out (by kernel_rfl)) (fun _ _ _ h => h) (Or.inl ⟨by rfl, ?_⟩) ?_ ?_
     rotate_left
     ·intro w'
      go_simp
      with_reducible rfl
     rotate_left
     ·simp only [Act.put, s1, s2, s3, i64_w, i32_w]
      rfl
     refine pure_ (i := 2) (N := some 20) (v := ?_) (a' := ?_) #[true, false, true, false, false, false, false, false, false, false, false, false, false] rfl rfl (any_of HT_.out (by kernel_rfl)) (fun _ _ _ h => h) (Or.inl ⟨by rfl, ?_⟩) ?_ ?_
     rotate_left
     ·intro w'
      go_simp
      with_reducible rfl
     rotate_left
     ·simp only [Act.put, s1, s2, s3, i64_w, i32_w]
      rfl
     refine pure_ (i := 3) (N := some 21) (v := ?_) (a' := ?_) #[true, false, true, true, false, false, false, false, false, false, false, false, false] rfl rfl (any_of HT_.out (by kernel_rfl)) (fun _ _ _ h => h) (Or.inl ⟨by rfl, ?_⟩) ?_ ?_
     rotate_left
     ·intro w'
      go_simp
      with_reducible rfl
     rotate_left
     ·simp only [Act.put, s1, s2, s3, i64_w, i32_w]
      rfl
     refine pure_ (i := 5) (N := some 23) (v := ?_) (a' := ?_) #[true, false, true, true, false, true, false, false, false, false, false, false, false] rfl rfl (any_of HT_.out (by kernel_rfl)) (fun _ _ _ h => h) (Or.inl ⟨by rfl, ?_⟩) ?_ ?_
     rotate_left
     ·intro w'
      go_simp
      with_reducible rfl
     rotate_left
     ·simp only [Act.put, s1, s2, s3, i64_w, i32_w]
      rfl
     refine pure_ (i := 8) (N := some 26) (v := ?_) (a' := ?_) #[true, false, true, true, false, true, false, false, true, false, false, false, false] rfl rfl (any_of HT_.out (by kernel_rfl)) (fun _ _ _ h => h) (Or.inl ⟨by rfl, ?_⟩) ?_ ?_
     rotate_left
     ·intro w'
      go_simp
      with_reducible rfl
     rotate_left
     ·simp only [Act.put, s1, s2, s3, i64_w, i32_w]
      rfl
     refine take_ (i := 1) (N := some 19) (v := ?_) (a' := ?_) #[true, true, true, true, false, true, false, false, true, false, false, false, false] rfl rfl (take_ofW HT_.out HW_.out (by kernel_rfl)) (fun _ _ _ h => h) (Or.inl ⟨by rfl, ?_⟩) hHeld ?_ ?_
     rotate_left
     ·rintro w' ⟨s0, s1, s2⟩
      go_simp
      with_reducible rfl
     rotate_left
     ·simp only [Act.put, s1, s2, s3, i64_w, i32_w]
      rfl
     refine take_ (i := 4) (N := some 22) (v := ?_) (a' := ?_) #[true, true, true, true, true, true, false, false, true, false, false, false, false] rfl rfl (take_ofW HT_.out HW_.out (by kernel_rfl)) (fun _ _ _ h => h) (Or.inl ⟨by rfl, ?_⟩) hHeld ?_ ?_
     rotate_left
     ·rintro w' ⟨s0, s1, s2⟩
      go_simp
      with_reducible rfl
     rotate_left
     ·simp only [Act.put, s1, s2, s3, i64_w, i32_w]
      rfl
     refine pure_ (i := 6) (N := some 24) (v := ?_) (a' := ?_) #[true, true, true, true, true, true, true, false, true, false, false, false, false] rfl rfl (any_of HT_.out (by kernel_rfl)) (fun _ _ _ h => h) (Or.inl ⟨by rfl, ?_⟩) ?_ ?_
     rotate_left
     ·intro w'
      go_simp
      with_reducible rfl
     rotate_left
     ·simp only [Act.put, s1, s2, s3, i64_w, i32_w]
      rfl
     refine take_ (i := 7) (N := some 25) (v := ?_) (a' := ?_) #[true, true, true, true, true, true, true, true, true, false, false, false, false] rfl rfl (take_ofW HT_.out HW_.out (by kernel_rfl)) (fun _ _ _ h => h) (Or.inl ⟨by rfl, ?_⟩) hHeld ?_ ?_
     rotate_left
     ·rintro w' ⟨s0, s1, s2⟩
      go_simp
      with_reducible rfl
     rotate_left
     ·simp only [Act.put, s1, s2, s3, i64_w, i32_w]
      rfl
     refine one_ (i := 9) (N := some 27) #[true, true, true, true, true, true, true, true, true, true, false, false, false] rfl rfl (one_of HT_.out (by kernel_rfl)) (by decide) (fun K hK => ?_)
     refine goes_ Tryd.func123 (by kernel_rfl) rfl #[.int .i64 a1] (by rfl) rfl rfl lz ?_
     with_reducible refine (spec_l01One.calls a1 t122 _ A10.out).mono ?_
     rintro e w' ⟨rfl, ⟨nd, rfl⟩⟩
     refine ⟨_, rfl, ?_⟩
     have p11 : 0 ≤ (a2 : Int) := of_decide_eq_true (by first | (with_reducible assumption) | assumption)
     have q11 : (a2 : Int) < ((l0_1.length : Int) : Int) := of_decide_eq_true (by first | (with_reducible assumption) | assumption)
     obtain ⟨hx11_0, hf11_0⟩ := Kd.R_celln 0 HO0_1.out (a2 : Int) p11 q11; replace p11 := eq_true p11; replace q11 := eq_true q11; have HP18 := Kd.R_putn HO0_1.out (a2 : Int) (Go.bits .or .i64 (rd y120 a2) t122); rw [← Ny123.out] at HP18; have HQ18 := Aside0.mk HP18; clear HP18
     refine hK.out _ _ ⟨bc BK117 0, bc BK117 1, hHeld.2.2⟩ (fun hHeld => ?_)
     clear hK K
     refine norm_ (a' := ?_) ?_ ?_
     rotate_left
     ·show Act.put _ (some 27) _ = _
      simp only [Act.put, s1, s2, s3, i64_w, i32_w]
      rfl
     refine pure_ (i := 10) (N := some 28) (v := ?_) (a' := ?_) #[true, true, true, true, true, true, true, true, true, true, true, false, false] rfl rfl (any_of HT_.out (by kernel_rfl)) (fun _ _ _ h => h) (Or.inl ⟨by rfl, ?_⟩) ?_ ?_
     rotate_left
     ·intro w'
      go_simp
      with_reducible rfl
     rotate_left
     ·simp only [Act.put, s1, s2, s3, i64_w, i32_w]
      rfl
     refine pure_ (i := 11) (N := some 29) (v := ?_) (a' := ?_) #[true, true, true, true, true, true, true, true, true, true, true, true, false] rfl rfl (any_of HT_.out (by kernel_rfl)) (fun _ _ _ h => h) (Or.inl ⟨by rfl, ?_⟩) ?_ ?_
     rotate_left
     ·intro w'
      go_simp
      with_reducible rfl
     rotate_left
     ·simp only [Act.put, s1, s2, s3, i64_w, i32_w]
      rfl
     refine last_ (i := 12) (N := none) #[true, true, true, true, true, true, true, true, true, true, true, true, true] rfl rfl (one_of HT_.out (by kernel_rfl)) (by decide) (fun K hK => ?_)
     refine skip_ (w1 := ?_) (by rfl) rfl ?_ ?_
     rotate_left
     ·go_simp
      rfl
     refine hK.out _ _ ?_
     clear hK K
     refine done_ (done_of HT_.out (by kernel_rfl)) ?_
     try go_wp2
     first | go_end0 | ((try simp only [Exit.inBlock, Exit.then]); refine bodyPost_ret (results_none rfl _ _ _) rfl ?_)
     exact ⟨rz, by (with_reducible repeat (first | apply Kd.R_alloc | apply Kd.R_drewN | apply Kd.R_drew)); exact HQ18.out, zQ00bx2, zQ00bx1⟩
    ·rw [if_neg c9] at H
     exact absurd H (by simp)
   ·rw [if_neg c8] at H
    exact absurd H (by simp)
  ·rw [if_neg c5] at H
   exact absurd H (by simp)
 ·rw [if_neg c4] at H
  exact absurd H (by simp)
mutual
def spec_l02Draw.j0 : Nat → Int → Bool → List Int → Int → Int → Option (Int × List Int × Int × Int)
 | 0, _, _, _, _, _ => none
 | k + 1, x1, x16, x1000, x1001, x1002 => if x16 = true then (some (4, (([11, 7, 14, 13] : List Int)), x1001, x1002)) else ((spec_l01Next.f x1000 x1001 x1002 (wrap64 (x1 + 1))).bind fun bt131 => (if bt131.1 < 2 then ((spec_l01Next.f x1000 bt131.2.1 bt131.2.2 (wrap64 (x1 + 1))).bind fun bt134 => (spec_l02Draw.j1 k bt134.1 x1000 bt134.2.1 bt134.2.2)) else (spec_l02Draw.j1 k bt131.1 x1000 bt131.2.1 bt131.2.2)))
def spec_l02Draw.j1 : Nat → Int → List Int → Int → Int → Option (Int × List Int × Int × Int)
 | 0, _, _, _, _ => none
 | k + 1, x5, x1000, x1001, x1002 => (spec_l02Free.f k x5).bind fun bt137 => ((spec_l01Pick.f x1000 x1001 x1002 (([2, 2, 3, 4] : List Int))).bind fun bt144 => (spec_l02Draw.l0 k x5 bt144.1 0 x1000 bt144.2.1 bt144.2.2 bt137.1 bt137.2))
def spec_l02Draw.l0 : Nat → Int → Int → Int → List Int → Int → Int → Int → List Int → Option (Int × List Int × Int × Int)
 | 0, _, _, _, _, _, _, _, _ => none
 | k + 1, x5, x7, x8, x1000, x1001, x1002, x148000, x148001 => if x8 < x5 then (spec_l02Draw.l1 k x5 x7 x8 0 x1000 x1001 x1002 x148000 x148001) else (some (x148000, x148001, x1001, x1002))
def spec_l02Draw.l1 : Nat → Int → Int → Int → Int → List Int → Int → Int → Int → List Int → Option (Int × List Int × Int × Int)
 | 0, _, _, _, _, _, _, _, _, _ => none
 | k + 1, x5, x7, x8, x9, x1000, x1001, x1002, x148000, x148001 => if x9 < x8 then ((spec_l01Next.f x1000 x1001 x1002 x7).bind fun bt148 => (if bt148.1 = 0 then ((spec_l02Join.f x148000 x148001 x8 x9).bind fun t151 => (spec_l02Draw.l1 k x5 x7 x8 (wrap64 (x9 + 1)) x1000 bt148.2.1 bt148.2.2 x148000 t151)) else (spec_l02Draw.l1 k x5 x7 x8 (wrap64 (x9 + 1)) x1000 bt148.2.1 bt148.2.2 x148000 x148001))) else (spec_l02Draw.l0 k x5 x7 (wrap64 (x8 + 1)) x1000 x1001 x1002 x148000 x148001)
end
def spec_l02Draw.f (k : Nat) (s0_0 : List Int) (s0_1 : Int) (s0_2 : Int) (a1 : Int) : Option (Int × List Int × Int × Int) := if a1 ≥ 4 then ((spec_l01Next.f s0_0 s0_1 s0_2 6).bind fun bt125 => (spec_l02Draw.j0 k a1 (bt125.1 == 0) s0_0 bt125.2.1 bt125.2.2)) else (spec_l02Draw.j0 k a1 false s0_0 s0_1 s0_2)
set_option maxHeartbeats 8000000 in
set_option maxRecDepth 100000 in
theorem spec_l02Draw.calls (k : Nat) (g : Nat) (s0_0 : List Int) (s0_1 : Int) (s0_2 : Int) (a1 : Int) (r1 : Int) (r2 : List Int) (r3 : Int) (r4 : Int) (w0 w : World) (hI : IsS104 w0 w g s0_0 s0_1 s0_2) (hB : Below w0.heap.size w0 w) (h : spec_l02Draw.f k s0_0 s0_1 s0_2 a1 = some (r1, r2, r3, r4)) :
  Calls Tryd.prog 109 #[.pointer (some ⟨g, 0, none⟩), .int .i64 a1] w fun e w' => ∃ v1_ : Value, e = .returned (.agg #[.int .i64 r1, v1_]) ∧ Kd.R (Kd.int .i64) 2 w' w.heap.size (fun _ => True) v1_ r2 ∧ IsS104 w0 w' g s0_0 r3 r4 ∧ Below w0.heap.size w0 w' ∧ KeepBut w w' g none := by
 have hu26 := Tryd.underlying26; have HI0 := Aside0.mk hI; have HK := Aside0.mk (KeepBut.refl w g none); have HL := Aside0.mk hB.size; clear hI; have HW0 := Aside0.mk hB.size; have HB := Aside0.mk hB; clear hB
 have H : (if a1 ≥ 4 then ((spec_l01Next.f s0_0 s0_1 s0_2 6).bind fun bt125 => (spec_l02Draw.j0 k a1 (bt125.1 == 0) s0_0 bt125.2.1 bt125.2.2)) else (spec_l02Draw.j0 k a1 false s0_0 s0_1 s0_2)) = some (r1, r2, r3, r4) := h
 clear h; have HC3 := Aside0.mk H; clear H
 go_enter Tryd.func109, Tryd.ntmps109
 go_upto_region 1 with (first | ((with_reducible refine gate_dst (N := 4) rfl ?_); refine box_event ?hg (N := 4) ?hd (cs := #[.int .i64 0, .slice none 0 0]) (t := 26) ?hr ?_; (case hd => rfl); (case hg => rfl); (case hr => first | (go_simp; done) | (go_simp; rfl)); intro gb124 hg w4 hbox hb; replace HB := Aside0.mk (below_step (by repeat (first | (with_reducible first | exact HB.out | apply below_alloc | apply pw_below_drewN | apply below_drew1 | refine below_set ?_ (IsS104.ge HI0.out)) | exact HB.out)) hb); have BK124 := Aside0.mk (hbox); have GW124 := Aside0.mk ((by rw [hg]; exact (keep_size (w := w) (g := g) (row := none) (zQ00bx3)) : w.heap.size ≤ gb124)); have GE124 := Aside0.mk ((Nat.le_trans HW0.out (by rw [hg]; exact (keep_size (w := w) (g := g) (row := none) (zQ00bx3)) : w.heap.size ≤ gb124) : w0.heap.size ≤ gb124)); replace HK := Aside0.mk (KeepBut.trans (zQ00bx3) (KeepBut.of_below hb g none) (.inl rfl)); have NB0_124 := Aside0.mk ((by rw [hg]; exact Nat.ne_of_lt (IsS104.lt (show IsS104 w0 _ g s0_0 s0_1 s0_2 from zQ00bx4)) : g ≠ gb124)); have NB124_0 := Aside0.mk ((by rw [hg]; exact Nat.ne_of_gt (IsS104.lt (show IsS104 w0 _ g s0_0 s0_1 s0_2 from zQ00bx4)) : gb124 ≠ g)); replace HI0 := Aside0.mk (IsS104.below (zQ00bx4) hb); clear hb hbox hg))
 (try simp only [Act.put, List.setIfInBounds_toArray, List.set_cons_zero, List.set_cons_succ])
 go_cut [16] (fun v16 wc => ∃ (kq : Nat) (x16_2 : Bool) (x1001_2 : Int) (x1002_2 : Int), v16 = .bool x16_2 ∧ Aside0 (spec_l02Draw.j0 kq a1 x16_2 s0_0 x1001_2 x1002_2 = some (r1, r2, r3, r4)) ∧ Aside0 (kq ≤ k) ∧ Aside0 (wc.heap[gb124]? = some (.cells #[.int .i64 0, (.slice none 0 0)] 26 (0, 0))) ∧ Aside0 (IsS104 w0 wc g s0_0 x1001_2 x1002_2) ∧ Aside0 (KeepBut w wc g none) ∧ Aside0 (Below w0.heap.size w0 wc))
 case first =>
  have H := HC3.out; clear HC3
  by_cases c5 : a1 ≥ 4
  ·rw [if_pos c5] at H
   have c5b0 : decide (4 ≤ a1) = true := decide_eq_true c5
   clear c5
   (first | rw [c5b0] | (simp only [i64_w, i32_w]; rw [c5b0]) | skip)
   replace H := Option.bind_eq_some_iff.mp H
   obtain ⟨⟨t125, t126, t127⟩, A60, H⟩ := H
   replace H : (spec_l02Draw.j0 k a1 (t125 == 0) s0_0 t126 t127) = some (r1, r2, r3, r4) := H
   have A6 := Aside0.mk A60; clear A60
   have H' := Aside0.mk H
   clear H
   go_wp2_with (first | (go_at_call 68; (with_reducible refine (spec_l01Next.calls g s0_0 s0_1 s0_2 6 t125 t126 t127 w0 _ ?side1 ?side2 A6.out).mono ?_); (case side1 => exact zQ00bx5); (case side2 => exact zQ00bx6); rintro e w7 ⟨rfl, hi, hb, hk⟩; replace BK124 := Aside0.mk (KeepBut.blk hk (g' := gb124) (o := .cells #[.int .i64 0, .slice none 0 0] 26 (0, 0)) (blkQ BK124) NB124_0.out (by simp)); replace HK := Aside0.mk (KeepBut.trans (zQ00bx7) hk (.inl rfl)); replace HB := Aside0.mk (hb); replace HI0 := Aside0.mk (hi); (try clear hb); (try clear hb2); (try clear hk); (try clear hi); (try clear hgw_)))
   go_meet
   case rel => exact ⟨_, ((t125 == 0)), (t126), (t127), sz, H', ⟨by first | omega | exact Nat.le_refl _⟩, ⟨blkQ BK124⟩, ⟨zQ00bx5⟩, ⟨zQ00bx7⟩, ⟨zQ00bx6⟩⟩
  ·rw [if_neg c5] at H
   have c5b0 : decide (4 ≤ a1) = false := decide_eq_false c5
   clear c5
   (first | rw [c5b0] | (simp only [i64_w, i32_w]; rw [c5b0]) | skip)
   have H' := Aside0.mk H
   clear H
   go_wp2
   go_meet
   case rel => exact ⟨_, (false), (s0_1), (s0_2), sz, H', ⟨by first | omega | exact Nat.le_refl _⟩, ⟨blkQ BK124⟩, ⟨zQ00bx5⟩, ⟨zQ00bx7⟩, ⟨zQ00bx6⟩⟩
 case rest =>
  clear HC3
  try clear c1
  try clear p2
  try clear c5
  try clear c5b0
  obtain ⟨kq, x16_2, x1001_2, x1002_2, rfl, HA, HJ2, BK124, HI0, HK, HB⟩ := hcut
  cases kq with
  | zero => exact absurd HA.out (by simp [spec_l02Draw.j0])
  | succ kj2 =>
   have H := HA.out; clear HA
   simp only [spec_l02Draw.j0] at H
   by_cases c8 : x16_2 = true
   ·subst c8
    have H1 : (some (4, (([11, 7, 14, 13] : List Int)), x1001_2, x1002_2)) = some (r1, r2, r3, r4) := by rw [if_pos rfl] at H; exact H
    clear H; have H := H1; clear H1
    obtain ⟨y128, hy128⟩ : ∃ y_ : List Int, y_ = (([11, 7, 14, 13] : List Int)) := ⟨_, rfl⟩
    replace H : (some (4, y128, x1001_2, x1002_2)) = some (r1, r2, r3, r4) := by first | (rw [hy128]; with_reducible exact H) | (have H2_ := (Option.bind_some _ _).symm.trans H; rw [hy128]; with_reducible exact H2_) | (have H2_ := (Option.bind_some _ _).symm.trans H; with_reducible exact H2_) | with_reducible exact H | (rw [hy128]; exact H) | exact H
    have Ny128 := Aside0.mk hy128; clear hy128
    simp only [Option.some.injEq, Prod.mk.injEq] at H
    obtain ⟨rfl, rfl, rfl, rfl⟩ := H
    go_wp2_with (first | ((with_reducible refine gate_dst (N := 17) rfl ?_); refine Kd.R_lit (Kd.int .i64) _ 2 ?hg (N := 17) ?hd (xs := ([11, 7, 14, 13] : List Int)) (inner := [.int .i64 11, .int .i64 7, .int .i64 14, .int .i64 13]) (ok := fun _ => True) (okp := fun _ => True) ?hr ?hp (fun _ hk => hk) trivial (Below.refl _ _) (Nat.le_refl _) (by simp) ?_; (case hd => rfl); (case hg => rfl); (case hr => first | (go_simp; done) | (go_simp; rfl)); (case hp => exact (Reps.one (show Kd.M (Kd.int .i64) _ _ _ 11 [.int .i64 11] from rfl) (Reps.one (show Kd.M (Kd.int .i64) _ _ _ 7 [.int .i64 7] from rfl) (Reps.one (show Kd.M (Kd.int .i64) _ _ _ 14 [.int .i64 14] from rfl) (Reps.one (show Kd.M (Kd.int .i64) _ _ _ 13 [.int .i64 13] from rfl) (Reps.none _ _)))))); intro v129 w9 ho10 hb hg_ hnew_; clear hg_ hnew_; (first | rw [← Ny128.out] at ho10 | (simp only [Int.reduceToNat] at ho10; rw [← Ny128.out] at ho10)); have HO130 := Aside0.mk (Kd.R_lower ho10 (keep_size (w := w) (g := g) (row := none) (zQ00bx7))); replace BK124 := bb BK124 hb; replace HK := Aside0.mk (KeepBut.trans (zQ00bx7) (KeepBut.of_below hb g none) (.inl rfl)); replace HB := Aside0.mk (below_step (zQ00bx6) hb); replace HI0 := Aside0.mk (IsS104.below (zQ00bx5) hb); clear hb ho10; obtain ⟨Ao11, co11, eo11⟩ := Kd.R_slice HO130.out; subst eo11; have hnb12 := NB124_0.out; have hnc12 := NB0_124.out; have hcz13_0 : w9.cell? ⟨gb124, 0, none⟩ = some (.int .i64 0) := bc BK124 0; have hcz13_1 : w9.cell? ⟨gb124, 1, none⟩ = some (.slice none 0 0) := bc BK124 1; have hfz13_0 := blk_frozen BK124.out 0; have hfz13_1 := blk_frozen BK124.out 1))
    refine bodyPost_ret (results_cell_row rfl _ _ gb124 26 #[.int .i64 4, .slice Ao11 y128.length co11] (0, 0) _ rfl (by (with_reducible repeat (first | refine blk_drewN ?_ _ | refine blk_drew ?_ | refine blk_alloc ?_ _)); refine blk_put (cs := #[.int .i64 4, .slice none 0 0]) ?_ 1 _ rfl; (with_reducible repeat (first | refine blk_drewN ?_ _ | refine blk_drew ?_ | refine blk_alloc ?_ _)); refine blk_put (cs := #[.int .i64 0, .slice none 0 0]) ?_ 0 _ rfl; (with_reducible repeat (first | refine blk_drewN ?_ _ | refine blk_drew ?_ | refine blk_alloc ?_ _)); exact BK124.out) Tryd.underlying26 rfl (by kernel_rfl)) rfl ?_
    exact ⟨_, rz, by (with_reducible repeat (first | apply Kd.R_alloc | apply Kd.R_drewN | apply Kd.R_drew)); exact Kd.R_mono (Kd.R_far (p := ⟨gb124, 1, none⟩) (Kd.R_far (p := ⟨gb124, 0, none⟩) (Kd.R_types HO130.out BK124.out (by decide)) (fun _ hk => hk.2) (.int .i64 4)) (fun _ hk => hk.2) (.slice Ao11 y128.length co11)) (fun _ hk => trivial), zQ00bx5, zQ00bx6, zQ00bx7⟩
   ·replace c8 := Bool.eq_false_iff.mpr c8
    subst c8
    have H1 : ((spec_l01Next.f s0_0 x1001_2 x1002_2 (wrap64 (a1 + 1))).bind fun bt131 => (if bt131.1 < 2 then ((spec_l01Next.f s0_0 bt131.2.1 bt131.2.2 (wrap64 (a1 + 1))).bind fun bt134 => (spec_l02Draw.j1 kj2 bt134.1 s0_0 bt134.2.1 bt134.2.2)) else (spec_l02Draw.j1 kj2 bt131.1 s0_0 bt131.2.1 bt131.2.2))) = some (r1, r2, r3, r4) := by rw [if_neg (show ¬ (false = true) by decide)] at H; exact H
    clear H; have H := H1; clear H1; replace H := Option.bind_eq_some_iff.mp H
    obtain ⟨⟨t131, t132, t133⟩, A140, H⟩ := H
    replace H : (if t131 < 2 then ((spec_l01Next.f s0_0 t132 t133 (wrap64 (a1 + 1))).bind fun bt134 => (spec_l02Draw.j1 kj2 bt134.1 s0_0 bt134.2.1 bt134.2.2)) else (spec_l02Draw.j1 kj2 t131 s0_0 t132 t133)) = some (r1, r2, r3, r4) := H
    have A14 := Aside0.mk A140; clear A140; have HC15 := Aside0.mk H; clear H
    go_upto_if 24 with (first | ((with_reducible refine gate_callee (f := 68) rfl ?_); refine goesL_ (some 22) rfl rfl Tryd.func68 (by kernel_rfl) rfl #[.pointer (some ⟨g, 0, none⟩), .int .i64 (wrap64 (a1 + 1))] rfl lz ?_; (with_reducible refine (spec_l01Next.calls g s0_0 x1001_2 x1002_2 (wrap64 (a1 + 1)) t131 t132 t133 w0 _ ?side1 ?side2 A14.out).mono ?_); (case side1 => exact zQ00bx5); (case side2 => exact zQ00bx6); rintro e w16 ⟨rfl, hi, hb, hk⟩; refine ⟨_, rfl, ?_⟩; replace BK124 := Aside0.mk (KeepBut.blk hk (g' := gb124) (o := .cells #[.int .i64 0, .slice none 0 0] 26 (0, 0)) (blkQ BK124) NB124_0.out (by simp)); replace HK := Aside0.mk (KeepBut.trans (zQ00bx7) hk (.inl rfl)); replace HB := Aside0.mk (hb); replace HI0 := Aside0.mk (hi); (try clear hb); (try clear hb2); (try clear hk); (try clear hi); (try clear hgw_)))
    (try simp only [Act.put, List.setIfInBounds_toArray, List.set_cons_zero, List.set_cons_succ])
    go_cut [5] (fun v5 wc => ∃ (kq : Nat) (x5_14 : Int) (x1001_14 : Int) (x1002_14 : Int), v5 = .int .i64 x5_14 ∧ Aside0 (spec_l02Draw.j1 kq x5_14 s0_0 x1001_14 x1002_14 = some (r1, r2, r3, r4)) ∧ Aside0 (kq ≤ kj2) ∧ Aside0 (wc.heap[gb124]? = some (.cells #[.int .i64 0, (.slice none 0 0)] 26 (0, 0))) ∧ Aside0 (IsS104 w0 wc g s0_0 x1001_14 x1002_14) ∧ Aside0 (KeepBut w wc g none) ∧ Aside0 (Below w0.heap.size w0 wc))
    case first =>
     have H := HC15.out; clear HC15
     by_cases c17 : t131 < 2
     ·rw [if_pos c17] at H
      have c17b0 : decide (t131 < 2) = true := decide_eq_true c17
      clear c17
      (first | rw [c17b0] | (simp only [i64_w, i32_w]; rw [c17b0]) | skip)
      replace H := Option.bind_eq_some_iff.mp H
      obtain ⟨⟨t134, t135, t136⟩, A180, H⟩ := H
      replace H : (spec_l02Draw.j1 kj2 t134 s0_0 t135 t136) = some (r1, r2, r3, r4) := H
      have A18 := Aside0.mk A180; clear A180
      have H' := Aside0.mk H
      clear H
      go_wp2_with (first | ((with_reducible refine gate_callee (f := 68) rfl ?_); refine goesL_ (some 28) rfl rfl Tryd.func68 (by kernel_rfl) rfl #[.pointer (some ⟨g, 0, none⟩), .int .i64 (wrap64 (a1 + 1))] rfl lz ?_; (with_reducible refine (spec_l01Next.calls g s0_0 t132 t133 (wrap64 (a1 + 1)) t134 t135 t136 w0 _ ?side1 ?side2 A18.out).mono ?_); (case side1 => exact zQ00bx5); (case side2 => exact zQ00bx6); rintro e w19 ⟨rfl, hi, hb, hk⟩; refine ⟨_, rfl, ?_⟩; replace BK124 := Aside0.mk (KeepBut.blk hk (g' := gb124) (o := .cells #[.int .i64 0, .slice none 0 0] 26 (0, 0)) (blkQ BK124) NB124_0.out (by simp)); replace HK := Aside0.mk (KeepBut.trans (zQ00bx7) hk (.inl rfl)); replace HB := Aside0.mk (hb); replace HI0 := Aside0.mk (hi); (try clear hb); (try clear hb2); (try clear hk); (try clear hi); (try clear hgw_)))
      go_meet
      case rel => exact ⟨_, (t134), (t135), (t136), sz, H', ⟨by have := HJ2.out; first | omega | exact Nat.le_refl _⟩, ⟨blkQ BK124⟩, ⟨zQ00bx5⟩, ⟨zQ00bx7⟩, ⟨zQ00bx6⟩⟩
     ·rw [if_neg c17] at H
      have c17b0 : decide (t131 < 2) = false := decide_eq_false c17
      clear c17
      (first | rw [c17b0] | (simp only [i64_w, i32_w]; rw [c17b0]) | skip)
      have H' := Aside0.mk H
      clear H
      go_wp2
      go_meet
      case rel => exact ⟨_, (t131), (t132), (t133), sz, H', ⟨by have := HJ2.out; first | omega | exact Nat.le_refl _⟩, ⟨blkQ BK124⟩, ⟨zQ00bx5⟩, ⟨zQ00bx7⟩, ⟨zQ00bx6⟩⟩
    case rest =>
     clear HC15
     try clear c1
     try clear p2
     try clear c5
     try clear c5b0
     try clear c6
     try clear p6
     try clear c8
     try clear c10
     try clear c12
     try clear c17
     try clear c17b0
     try clear hcz13_0
     try clear hcz13_1
     try clear hfz13_0
     try clear hfz13_1
     try clear p2
     obtain ⟨kq, x5_14, x1001_14, x1002_14, rfl, HA, HJ14, BK124, HI0, HK, HB⟩ := hcut
     cases kq with
     | zero => exact absurd HA.out (by simp [spec_l02Draw.j1])
     | succ kj14 =>
      have H := HA.out; clear HA
      simp only [spec_l02Draw.j1] at H
      replace H := Option.bind_eq_some_iff.mp H
      obtain ⟨⟨t137, t138⟩, A200, H⟩ := H
      replace H : ((spec_l01Pick.f s0_0 x1001_14 x1002_14 (([2, 2, 3, 4] : List Int))).bind fun bt144 => (spec_l02Draw.l0 kj14 x5_14 bt144.1 0 s0_0 bt144.2.1 bt144.2.2 t137 t138)) = some (r1, r2, r3, r4) := H
      have A20 := Aside0.mk A200; clear A200
      obtain ⟨y141, hy141⟩ : ∃ y_ : List Int, y_ = (([2, 2, 3, 4] : List Int)) := ⟨_, rfl⟩
      replace H : ((spec_l01Pick.f s0_0 x1001_14 x1002_14 y141).bind fun bt144 => (spec_l02Draw.l0 kj14 x5_14 bt144.1 0 s0_0 bt144.2.1 bt144.2.2 t137 t138)) = some (r1, r2, r3, r4) := by first | (rw [hy141]; with_reducible exact H) | (have H2_ := (Option.bind_some _ _).symm.trans H; rw [hy141]; with_reducible exact H2_) | (have H2_ := (Option.bind_some _ _).symm.trans H; with_reducible exact H2_) | with_reducible exact H | (rw [hy141]; exact H) | exact H
      have Ny141 := Aside0.mk hy141; clear hy141; replace H := Option.bind_eq_some_iff.mp H
      obtain ⟨⟨t144, t145, t146⟩, A210, H⟩ := H
      replace H : (spec_l02Draw.l0 kj14 x5_14 t144 0 s0_0 t145 t146 t137 t138) = some (r1, r2, r3, r4) := H
      have A21 := Aside0.mk A210; clear A210
      have H' := Aside0.mk H
      clear H
      go_wp2_with (first | ((with_reducible refine gate_callee (f := 135) rfl ?_); refine goesL_ (some 30) rfl rfl Tryd.func135 (by kernel_rfl) rfl #[.int .i64 x5_14] rfl lz ?_; (with_reducible refine (spec_l02Free.calls kj14 x5_14 t137 t138 _ A20.out).mono ?_); rintro e w22 ⟨v139, rfl, ho0, hb⟩; refine ⟨_, rfl, ?_⟩; have HO140 := Aside0.mk (Kd.R_lower ho0 (keep_size (w := w) (g := g) (row := none) (zQ00bx7))); replace BK124 := bb BK124 hb; replace HK := Aside0.mk (KeepBut.trans (zQ00bx7) (KeepBut.of_below hb g none) (.inl rfl)); replace HB := Aside0.mk (below_step (zQ00bx6) hb); replace HI0 := Aside0.mk (IsS104.below (zQ00bx5) hb); (try clear hb); (try clear hb2); (try clear hk); (try clear hi); (try clear hgw_); (try clear ho0)) | ((with_reducible refine gate_dst (N := 32) rfl ?_); refine Kd.R_lit (Kd.int .i64) _ 2 ?hg (N := 32) ?hd (xs := ([2, 2, 3, 4] : List Int)) (inner := [.int .i64 2, .int .i64 2, .int .i64 3, .int .i64 4]) (ok := fun _ => True) (okp := fun _ => True) ?hr ?hp (fun _ hk => hk) trivial (Below.refl _ _) (Nat.le_refl _) (by simp) ?_; (case hd => rfl); (case hg => rfl); (case hr => first | (go_simp; done) | (go_simp; rfl)); (case hp => exact (Reps.one (show Kd.M (Kd.int .i64) _ _ _ 2 [.int .i64 2] from rfl) (Reps.one (show Kd.M (Kd.int .i64) _ _ _ 2 [.int .i64 2] from rfl) (Reps.one (show Kd.M (Kd.int .i64) _ _ _ 3 [.int .i64 3] from rfl) (Reps.one (show Kd.M (Kd.int .i64) _ _ _ 4 [.int .i64 4] from rfl) (Reps.none _ _)))))); intro v142 w23 ho24 hb hg_ hnew_; clear hg_ hnew_; (first | rw [← Ny141.out] at ho24 | (simp only [Int.reduceToNat] at ho24; rw [← Ny141.out] at ho24)); have HO143 := Aside0.mk (Kd.R_lower (Kd.R_new' ho24 (Kd.R_lt (kdQ HO140))) (keep_size (w := w) (g := g) (row := none) (zQ00bx7))); replace HO140 := Aside0.mk (Kd.R_elder' (kdQ HO140) (Kd.R_base ho24) hb); replace BK124 := bb BK124 hb; replace HK := Aside0.mk (KeepBut.trans (zQ00bx7) (KeepBut.of_below hb g none) (.inl rfl)); replace HB := Aside0.mk (below_step (zQ00bx6) hb); replace HI0 := Aside0.mk (IsS104.below (zQ00bx5) hb); clear hb ho24; obtain ⟨Ao25, co25, eo25⟩ := Kd.R_slice HO143.out; subst eo25) | ((with_reducible refine gate_callee (f := 126) rfl ?_); refine goesL_ (some 33) rfl rfl Tryd.func126 (by kernel_rfl) rfl #[.pointer (some ⟨g, 0, none⟩), .slice Ao25 y141.length co25] rfl lz ?_; (with_reducible refine (spec_l01Pick.calls g s0_0 x1001_14 x1002_14 _ _ y141 t144 t145 t146 w0 _ ?side1 ?side2 ?side3 ?side4 ?side5 A21.out).mono ?_); (case side1 => exact zQ00bx5); (case side2 => exact zQ00bx6); (case side3 => have q_ := Aside0.mk (Kd.R_reads' HO143.out).2.2; exact cQ q_); (case side4 => exact (Kd.R_reads' HO143.out).2.1); (case side5 => exact far_slice (IsS104.own_ne HI0.out HO143.out (by decide))); rintro e w26 ⟨rfl, hi, hb, hk⟩; refine ⟨_, rfl, ?_⟩; replace BK124 := Aside0.mk (KeepBut.blk hk (g' := gb124) (o := .cells #[.int .i64 0, .slice none 0 0] 26 (0, 0)) (blkQ BK124) NB124_0.out (by simp)); replace HO140 := Aside0.mk (Kd.R_mono (Kd.R_keep (IsS104.apart (show IsS104 w0 _ g s0_0 x1001_14 x1002_14 from zQ00bx5) (kdQ HO140) (by decide)) hk (fun _ h => h.2)) (fun _ h => h.1)); replace HO143 := Aside0.mk (Kd.R_mono (Kd.R_keep (IsS104.apart (show IsS104 w0 _ g s0_0 x1001_14 x1002_14 from zQ00bx5) (kdQ HO143) (by decide)) hk (fun _ h => h.2)) (fun _ h => h.1)); replace HK := Aside0.mk (KeepBut.trans (zQ00bx7) hk (.inl rfl)); replace HB := Aside0.mk (hb); replace HI0 := Aside0.mk (hi); (try clear hb); (try clear hb2); (try clear hk); (try clear hi); (try clear hgw_)) | ((with_reducible refine gate_dst (N := 6) rfl ?_); refine box_event ?hg (N := 6) ?hd (cs := #[.int .i64 0, .slice none 0 0]) (t := 26) ?hr ?_; (case hd => rfl); (case hg => rfl); (case hr => first | (go_simp; done) | (go_simp; rfl)); intro gb147 hg w27 hbox hb; replace HO140 := kb HO140 hb; replace HO143 := kb HO143 hb; replace HB := Aside0.mk (below_step (zQ00bx6) hb); have BK147 := Aside0.mk (hbox); have GW147 := Aside0.mk ((by rw [hg]; exact (keep_size (w := w) (g := g) (row := none) (zQ00bx7)) : w.heap.size ≤ gb147)); have GE147 := Aside0.mk ((Nat.le_trans HW0.out (by rw [hg]; exact (keep_size (w := w) (g := g) (row := none) (zQ00bx7)) : w.heap.size ≤ gb147) : w0.heap.size ≤ gb147)); replace HK := Aside0.mk (KeepBut.trans (zQ00bx7) (KeepBut.of_below hb g none) (.inl rfl)); have NB124_147 := Aside0.mk ((by rw [hg]; exact Nat.ne_of_lt (blk_lt (blkQ BK124)) : gb124 ≠ gb147)); have NB147_124 := Aside0.mk ((by rw [hg]; exact Nat.ne_of_gt (blk_lt (blkQ BK124)) : gb147 ≠ gb124)); replace BK124 := bb BK124 hb; have NB0_147 := Aside0.mk ((by rw [hg]; exact Nat.ne_of_lt (IsS104.lt (show IsS104 w0 _ g s0_0 t145 t146 from zQ00bx5)) : g ≠ gb147)); have NB147_0 := Aside0.mk ((by rw [hg]; exact Nat.ne_of_gt (IsS104.lt (show IsS104 w0 _ g s0_0 t145 t146 from zQ00bx5)) : gb147 ≠ g)); replace HI0 := Aside0.mk (IsS104.below (zQ00bx5) hb); clear hb hbox hg; have hnb28 := NB147_124.out; have hnc28 := NB124_147.out; have hnb29 := NB147_0.out; have hnc29 := NB0_147.out; have hcz30_0 : w27.cell? ⟨gb147, 0, none⟩ = some (.int .i64 0) := bc BK147 0; have hcz30_1 : w27.cell? ⟨gb147, 1, none⟩ = some (.slice none 0 0) := bc BK147 1; have hfz30_0 := blk_frozen BK147.out 0; have hfz30_1 := blk_frozen BK147.out 1; obtain ⟨Ao31, co31, eo31⟩ := Kd.R_slice HO140.out; subst eo31))
      go_loopg [8] kj14 (fun kq v8 w' => ∃ (x8_3 : Int) (x1001_3 : Int) (x1002_3 : Int) (x148001_3 : List Int) (u148001 : Value), v8 = .int .i64 x8_3 ∧ Aside0 (spec_l02Draw.l0 kq x5_14 t144 x8_3 s0_0 x1001_3 x1002_3 t137 x148001_3 = some (r1, r2, r3, r4)) ∧ Aside0 (kq ≤ kj14) ∧ Aside0 (Kd.R (Kd.int .i64) 2 w' w.heap.size (fun _ => True) u148001 x148001_3) ∧ Aside0 (w'.heap[gb124]? = some (.cells #[.int .i64 0, (.slice none 0 0)] 26 (0, 0))) ∧ Aside0 (w'.heap[gb147]? = some (.cells #[.int .i64 t137, u148001] 26 (0, 0))) ∧ Aside0 (IsS104 w0 w' g s0_0 x1001_3 x1002_3) ∧ Aside0 (KeepBut w w' g none) ∧ Aside0 (Below w0.heap.size w0 w'))
      case atStart => exact ⟨(0), (t145), (t146), (t138), (.slice Ao31 t138.length co31), sz, H', ⟨Nat.le_refl _⟩, ⟨by (with_reducible repeat (first | apply Kd.R_alloc | apply Kd.R_drewN | apply Kd.R_drew)); exact Kd.R_mono (Kd.R_far (p := ⟨gb147, 1, none⟩) (Kd.R_far (p := ⟨gb147, 0, none⟩) (Kd.R_types HO140.out BK147.out (by decide)) (fun _ hk => hk.2) (.int .i64 t137)) (fun _ hk => hk.2) (.slice Ao31 t138.length co31)) (fun _ hk => trivial)⟩, ⟨blkF BK124⟩, ⟨by (with_reducible repeat (first | refine blk_drewN ?_ _ | refine blk_drew ?_ | refine blk_alloc ?_ _)); refine blk_put (cs := #[.int .i64 t137, .slice none 0 0]) ?_ 1 _ rfl; (with_reducible repeat (first | refine blk_drewN ?_ _ | refine blk_drew ?_ | refine blk_alloc ?_ _)); refine blk_put (cs := #[.int .i64 0, .slice none 0 0]) ?_ 0 _ rfl; (with_reducible repeat (first | refine blk_drewN ?_ _ | refine blk_drew ?_ | refine blk_alloc ?_ _)); exact BK147.out⟩, ⟨zQ00bx8⟩, ⟨zQ00bx9⟩, ⟨zQ00bx10⟩⟩
      case round =>
       clear H'
       try clear c1
       try clear c2
       try clear p2
       try clear c5
       try clear c5b0
       try clear c6
       try clear p6
       try clear c8
       try clear c10
       try clear c12
       try clear c13
       try clear c17
       try clear c17b0
       try clear c28
       try clear c29
       try clear hcz13_0
       try clear hcz13_1
       try clear hcz30_0
       try clear hcz30_1
       try clear hfz13_0
       try clear hfz13_1
       try clear hfz30_0
       try clear hfz30_1
       try clear p2
       try clear p6
       obtain ⟨x8_3, x1001_3, x1002_3, x148001_3, u148001, rfl, HA, HK3, HO_148001, BK124, BK147, HI0, HK, HB⟩ := hrel
       cases gk with
       | zero => exact absurd HA.out (by simp [spec_l02Draw.l0])
       | succ k3 =>
        have H := HA.out; clear HA
        simp only [spec_l02Draw.l0] at H
        by_cases c32 : x8_3 < x5_14
        ·rw [if_pos c32] at H
         have c32b0 : decide (x8_3 < x5_14) = true := decide_eq_true c32
         clear c32
         have H' := Aside0.mk H
         clear H
         go_wp2
         go_loopg [9] k3 (fun kq v9 w' => ∃ (x9_4 : Int) (x1001_4 : Int) (x1002_4 : Int) (x148001_4 : List Int) (u148001 : Value), v9 = .int .i64 x9_4 ∧ Aside0 (spec_l02Draw.l1 kq x5_14 t144 x8_3 x9_4 s0_0 x1001_4 x1002_4 t137 x148001_4 = some (r1, r2, r3, r4)) ∧ Aside0 (kq ≤ k3) ∧ Aside0 (Kd.R (Kd.int .i64) 2 w' w.heap.size (fun _ => True) u148001 x148001_4) ∧ Aside0 (w'.heap[gb124]? = some (.cells #[.int .i64 0, (.slice none 0 0)] 26 (0, 0))) ∧ Aside0 (w'.heap[gb147]? = some (.cells #[.int .i64 t137, u148001] 26 (0, 0))) ∧ Aside0 (IsS104 w0 w' g s0_0 x1001_4 x1002_4) ∧ Aside0 (KeepBut w w' g none) ∧ Aside0 (Below w0.heap.size w0 w'))
         case atStart => exact ⟨(0), (x1001_3), (x1002_3), (x148001_3), (u148001), sz, H', ⟨Nat.le_refl _⟩, ⟨kdQ HO_148001⟩, ⟨blkQ BK124⟩, ⟨blkQ BK147⟩, ⟨zQ00bx8⟩, ⟨zQ00bx9⟩, ⟨zQ00bx10⟩⟩
         case round =>
          clear H'
          try clear c1
          try clear c2
          try clear p2
          try clear c3
          try clear c5
          try clear c5b0
          try clear c6
          try clear p6
          try clear c8
          try clear c10
          try clear c12
          try clear c13
          try clear c17
          try clear c17b0
          try clear c28
          try clear c29
          try clear c32
          try clear c32b0
          try clear hcz13_0
          try clear hcz13_1
          try clear hcz30_0
          try clear hcz30_1
          try clear hfz13_0
          try clear hfz13_1
          try clear hfz30_0
          try clear hfz30_1
          try clear p2
          try clear p6
          obtain ⟨x9_4, x1001_4, x1002_4, x148001_4, u148001, rfl, HA, HK4, HO_148001, BK124, BK147, HI0, HK, HB⟩ := hrel
          cases gk with
          | zero => exact absurd HA.out (by simp [spec_l02Draw.l1])
          | succ k4 =>
           have H := HA.out; clear HA
           simp only [spec_l02Draw.l1] at H
           by_cases c33 : x9_4 < x8_3
           ·rw [if_pos c33] at H
            have c33b0 : decide (x9_4 < x8_3) = true := decide_eq_true c33
            clear c33; replace H := Option.bind_eq_some_iff.mp H
            obtain ⟨⟨t148, t149, t150⟩, A340, H⟩ := H
            replace H : (if t148 = 0 then ((spec_l02Join.f t137 x148001_4 x8_3 x9_4).bind fun t151 => (spec_l02Draw.l1 k4 x5_14 t144 x8_3 (wrap64 (x9_4 + 1)) s0_0 t149 t150 t137 t151)) else (spec_l02Draw.l1 k4 x5_14 t144 x8_3 (wrap64 (x9_4 + 1)) s0_0 t149 t150 t137 x148001_4)) = some (r1, r2, r3, r4) := H
            have A34 := Aside0.mk A340; clear A340
            by_cases c35 : t148 = 0
            ·rw [if_pos c35] at H
             have c35b0 : (t148 == 0) = true := beq_iff_eq.mpr c35
             have c35b1 : (t148 != 0) = false := bne_eq_false_iff_eq.mpr c35
             clear c35; replace H := Option.bind_eq_some_iff.mp H; obtain ⟨t151, A360, H⟩ := H
             replace H : (spec_l02Draw.l1 k4 x5_14 t144 x8_3 (wrap64 (x9_4 + 1)) s0_0 t149 t150 t137 t151) = some (r1, r2, r3, r4) := H
             have A36 := Aside0.mk A360; clear A360
             have H' := Aside0.mk H
             clear H
             go_wp2_with (first | ((with_reducible refine gate_callee (f := 68) rfl ?_); refine goesL_ (some 46) rfl rfl Tryd.func68 (by kernel_rfl) rfl #[.pointer (some ⟨g, 0, none⟩), .int .i64 t144] rfl lz ?_; (with_reducible refine (spec_l01Next.calls g s0_0 x1001_4 x1002_4 t144 t148 t149 t150 w0 _ ?side1 ?side2 A34.out).mono ?_); (case side1 => exact zQ00bx8); (case side2 => exact zQ00bx10); rintro e w37 ⟨rfl, hi, hb, hk⟩; refine ⟨_, rfl, ?_⟩; replace HO_148001 := Aside0.mk (Kd.R_mono (Kd.R_keep (IsS104.apart (show IsS104 w0 _ g s0_0 x1001_4 x1002_4 from zQ00bx8) (kdQ HO_148001) (by decide)) hk (fun _ h => h.2)) (fun _ h => h.1)); replace BK124 := Aside0.mk (KeepBut.blk hk (g' := gb124) (o := .cells #[.int .i64 0, .slice none 0 0] 26 (0, 0)) (blkQ BK124) NB124_0.out (by simp)); replace BK147 := Aside0.mk (KeepBut.blk hk (g' := gb147) (o := .cells #[.int .i64 t137, u148001] 26 (0, 0)) (blkQ BK147) NB147_0.out (by simp)); replace HK := Aside0.mk (KeepBut.trans (zQ00bx9) hk (.inl rfl)); replace HB := Aside0.mk (hb); replace HI0 := Aside0.mk (hi); (try clear hb); (try clear hb2); (try clear hk); (try clear hi); (try clear hgw_); have hnb38 := NB147_124.out; have hnc38 := NB124_147.out; have hnb39 := NB147_0.out; have hnc39 := NB0_147.out; have hcz40_0 : w37.cell? ⟨gb147, 0, none⟩ = some (.int .i64 t137) := bc BK147 0; have hcz40_1 : w37.cell? ⟨gb147, 1, none⟩ = some (u148001) := bc BK147 1; have hfz40_0 := blk_frozen BK147.out 0; have hfz40_1 := blk_frozen BK147.out 1; obtain ⟨Ao41, co41, eo41⟩ := Kd.R_slice HO_148001.out; subst eo41) | ((with_reducible refine gate_callee (f := 136) rfl ?_); refine goesL_ (some 51) rfl rfl Tryd.func136 (by kernel_rfl) rfl #[.agg #[.int .i64 t137, .slice Ao41 x148001_4.length co41], .int .i64 x8_3, .int .i64 x9_4] rfl lz ?_; (with_reducible refine (spec_l02Join.calls t137 (fun k_ => some k_ = (.slice Ao41 x148001_4.length co41 : Value).ownBlock) (.slice Ao41 x148001_4.length co41) x148001_4 x8_3 x9_4 t151 w0 _ ?side1 ?side2 A36.out).mono ?_); (case side1 => exact zQ00bx10); (case side2 => exact Kd.R_lower (Kd.R_tight rfl HO_148001.out) HL.out); rintro e w42 ⟨rfl, hy0, hb, hkp⟩; refine ⟨_, rfl, ?_⟩; have n0_ := Aside0.mk (Kd.R_reok rfl (Kd.R_raise (d := (Kd.int .i64)) (b := w0.heap.size) (b' := w.heap.size) (fun _ _ _ _ h_ => h_) hy0 (fun k_ e_ => Or.elim (hy0.1 k_ e_) (fun hs_ => (fun e_ => Kd.R_base HO_148001.out k_ e_.symm) hs_) (fun hn_ => Nat.le_trans (keep_size (w := w) (g := g) (row := none) (zQ00bx9)) hn_))) (fun k_ e_ => HO_148001.out.1 k_ e_)); have n1_ := Aside0.mk (blk_kept (blkQ BK124) hkp (fun hs_ => (fun e_ => (Kd.R_ne HO_148001.out BK124.out (by decide)) e_) hs_)); have n2_ := Aside0.mk (blk_kept (blkQ BK147) hkp (fun hs_ => (fun e_ => (Kd.R_ne HO_148001.out BK147.out (by decide)) e_) hs_)); have n3_ := Aside0.mk (IsS104.kept (zQ00bx8) hkp (fun hs_ => (fun e_ => (IsS104.own_ne HI0.out HO_148001.out (by decide)) e_) hs_)); have n4_ := Aside0.mk (Kept.keepG (zQ00bx9) hkp (fun k_ hs_ => (fun e_ => .inr (Kd.R_base HO_148001.out k_ e_.symm)) hs_)); have n5_ := Aside0.mk (hb); clear HO_148001; clear BK124; clear BK147; clear HI0; clear HK; clear HB; have HO_148001 := n0_; have BK124 := n1_; have BK147 := n2_; have HI0 := n3_; have HK := n4_; have HB := n5_; clear n0_ n1_ n2_ n3_ n4_ n5_; (try clear hb); (try clear hkp); (try clear hy0)))
             go_roundg k4
             case measure => have := HJ2.out; have := HJ14.out; have := HK3.out; have := HK4.out; omega
             case rel => exact ⟨(wrap64 (x9_4 + 1)), (t149), (t150), (t151), (.slice Ao41 x148001_4.length co41), sz, H', ⟨by have := HJ2.out; have := HJ14.out; have := HK3.out; have := HK4.out; omega⟩, ⟨kdQ HO_148001⟩, ⟨blkQ BK124⟩, ⟨blkQ BK147⟩, ⟨zQ00bx8⟩, ⟨zQ00bx9⟩, ⟨zQ00bx10⟩⟩
            ·rw [if_neg c35] at H
             have c35b0 : (t148 == 0) = false := beq_eq_false_iff_ne.mpr c35
             have c35b1 : (t148 != 0) = true := bne_iff_ne.mpr c35
             have H' := Aside0.mk H
             clear H
             go_wp2_with (first | ((with_reducible refine gate_callee (f := 68) rfl ?_); refine goesL_ (some 46) rfl rfl Tryd.func68 (by kernel_rfl) rfl #[.pointer (some ⟨g, 0, none⟩), .int .i64 t144] rfl lz ?_; (with_reducible refine (spec_l01Next.calls g s0_0 x1001_4 x1002_4 t144 t148 t149 t150 w0 _ ?side1 ?side2 A34.out).mono ?_); (case side1 => exact zQ00bx8); (case side2 => exact zQ00bx10); rintro e w43 ⟨rfl, hi, hb, hk⟩; refine ⟨_, rfl, ?_⟩; replace HO_148001 := Aside0.mk (Kd.R_mono (Kd.R_keep (IsS104.apart (show IsS104 w0 _ g s0_0 x1001_4 x1002_4 from zQ00bx8) (kdQ HO_148001) (by decide)) hk (fun _ h => h.2)) (fun _ h => h.1)); replace BK124 := Aside0.mk (KeepBut.blk hk (g' := gb124) (o := .cells #[.int .i64 0, .slice none 0 0] 26 (0, 0)) (blkQ BK124) NB124_0.out (by simp)); replace BK147 := Aside0.mk (KeepBut.blk hk (g' := gb147) (o := .cells #[.int .i64 t137, u148001] 26 (0, 0)) (blkQ BK147) NB147_0.out (by simp)); replace HK := Aside0.mk (KeepBut.trans (zQ00bx9) hk (.inl rfl)); replace HB := Aside0.mk (hb); replace HI0 := Aside0.mk (hi); (try clear hb); (try clear hb2); (try clear hk); (try clear hi); (try clear hgw_)))
             go_roundg k4
             case measure => have := HJ2.out; have := HJ14.out; have := HK3.out; have := HK4.out; omega
             case rel => exact ⟨(wrap64 (x9_4 + 1)), (t149), (t150), (x148001_4), (u148001), sz, H', ⟨by have := HJ2.out; have := HJ14.out; have := HK3.out; have := HK4.out; omega⟩, ⟨kdQ HO_148001⟩, ⟨blkQ BK124⟩, ⟨blkQ BK147⟩, ⟨zQ00bx8⟩, ⟨zQ00bx9⟩, ⟨zQ00bx10⟩⟩
           ·rw [if_neg c33] at H
            have c33b0 : decide (x9_4 < x8_3) = false := decide_eq_false c33
            clear c33
            have H' := Aside0.mk H
            clear H
            go_wp2
            go_roundg k4
            case measure => have := HJ2.out; have := HJ14.out; have := HK3.out; have := HK4.out; omega
            case rel => exact ⟨(wrap64 (x8_3 + 1)), (x1001_4), (x1002_4), (x148001_4), (u148001), sz, H', ⟨by have := HJ2.out; have := HJ14.out; have := HK3.out; have := HK4.out; omega⟩, ⟨kdQ HO_148001⟩, ⟨blkQ BK124⟩, ⟨blkQ BK147⟩, ⟨zQ00bx8⟩, ⟨zQ00bx9⟩, ⟨zQ00bx10⟩⟩
        ·rw [if_neg c32] at H
         have c32b0 : decide (x8_3 < x5_14) = false := decide_eq_false c32
         clear c32
         simp only [Option.some.injEq, Prod.mk.injEq] at H
         obtain ⟨rfl, rfl, rfl, rfl⟩ := H; have hnb44 := NB147_124.out; have hnc44 := NB124_147.out; have hnb45 := NB147_0.out; have hnc45 := NB0_147.out
         have hcz46_0 : wr.cell? ⟨gb147, 0, none⟩ = some (.int .i64 t137) := bc BK147 0
         have hcz46_1 : wr.cell? ⟨gb147, 1, none⟩ = some (u148001) := bc BK147 1
         have hfz46_0 := blk_frozen BK147.out 0; have hfz46_1 := blk_frozen BK147.out 1; have hnb47 := NB124_0.out; have hnc47 := NB0_124.out
         have hcz48_0 : wr.cell? ⟨gb124, 0, none⟩ = some (.int .i64 0) := bc BK124 0
         have hcz48_1 : wr.cell? ⟨gb124, 1, none⟩ = some (.slice none 0 0) := bc BK124 1
         have hfz48_0 := blk_frozen BK124.out 0; have hfz48_1 := blk_frozen BK124.out 1; obtain ⟨Ao49, co49, eo49⟩ := Kd.R_slice HO_148001.out; subst eo49
         go_wp2
         refine bodyPost_ret (results_cell_row rfl _ _ gb124 26 #[.int .i64 t137, .slice Ao49 x148001_3.length co49] (0, 0) _ rfl (by (with_reducible repeat (first | refine blk_drewN ?_ _ | refine blk_drew ?_ | refine blk_alloc ?_ _)); refine blk_put (cs := #[.int .i64 t137, .slice none 0 0]) ?_ 1 _ rfl; (with_reducible repeat (first | refine blk_drewN ?_ _ | refine blk_drew ?_ | refine blk_alloc ?_ _)); refine blk_put (cs := #[.int .i64 0, .slice none 0 0]) ?_ 0 _ rfl; (with_reducible repeat (first | refine blk_drewN ?_ _ | refine blk_drew ?_ | refine blk_alloc ?_ _)); exact BK124.out) Tryd.underlying26 rfl (by kernel_rfl)) rfl ?_
         exact ⟨_, rz, by (with_reducible repeat (first | apply Kd.R_alloc | apply Kd.R_drewN | apply Kd.R_drew)); exact Kd.R_mono (Kd.R_far (p := ⟨gb124, 1, none⟩) (Kd.R_far (p := ⟨gb124, 0, none⟩) (Kd.R_types HO_148001.out BK124.out (by decide)) (fun _ hk => hk.2) (.int .i64 t137)) (fun _ hk => hk.2) (.slice Ao49 x148001_3.length co49)) (fun _ hk => trivial), zQ00bx8, zQ00bx10, zQ00bx9⟩
end Go.Proofs.YtleeihpmniabhaaDoor.G
