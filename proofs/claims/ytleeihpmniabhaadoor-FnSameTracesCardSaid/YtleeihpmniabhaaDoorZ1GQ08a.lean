-- A copy, with what one law needs, of a text that print.sh or a program of ours wrote
import Derived.Test.YtleeihpmniabhaaDoorZ1G0
import Derived.Test.YtleeihpmniabhaaDoorZ1GQ00a
import Derived.Test.YtleeihpmniabhaaDoorZ1GQ02a
import Derived.Test.YtleeihpmniabhaaDoorZ1GQ04
import Derived.Test.YtleeihpmniabhaaDoorZ1GQ05
import Derived.Test.YtleeihpmniabhaaDoorZ1GQ07
namespace Go.Proofs.YtleeihpmniabhaaDoor.G
open Go.RowKit Go.Proofs.YtleeihpmniabhaaDoorW.PrintWords Go.Proofs.YtleeihpmniabhaaDoorW.PrintLast Go.Proofs.YtleeihpmniabhaaDoorW.PrintMore
theorem zQ08ax0 {p : Prop} (h : p := by repeat (first | (with_reducible first | exact HK.out | apply KeepBut.set_ | apply keep_drewN | apply keep_drew | apply keep_alloc) | exact HK.out)) : p := h
theorem zQ08ax1 {p : Prop} (h : p := by repeat (first | (with_reducible first | exact HI0.out | apply IsS104.alloc | apply IsS104.drewN | apply IsS104.drew | apply IsS104.set_1 | apply IsS104.set_2) | exact HI0.out)) : p := h
theorem zQ08ax2 {p : Prop} (h : p := by repeat (first | (with_reducible first | exact HK.out | apply KeepBut.set_ | apply keep_drewN | apply keep_drew | apply keep_alloc | refine keep_far ?_ GW529.out _) | exact HK.out)) : p := h
theorem zQ08ax3 {p : Prop} (h : p := by repeat (first | (with_reducible first | exact HB.out | apply below_alloc | apply pw_below_drewN | apply below_drew1 | refine below_set ?_ (IsS104.ge HI0.out) | refine below_set ?_ GE529.out) | exact HB.out)) : p := h
theorem zQ08ax4 {p : Prop} (h : p := by repeat (first | (with_reducible first | exact HI0.out | apply IsS104.alloc | apply IsS104.drewN | apply IsS104.drew | apply IsS104.set_1 | apply IsS104.set_2 | refine IsS104.far ?_ NB0_529.out _) | exact HI0.out)) : p := h
theorem zQ08ax5 {p : Prop} (h : p := by repeat (first | (with_reducible first | exact HB.out | apply below_alloc | apply pw_below_drewN | apply below_drew1 | refine below_set ?_ (IsS104.ge HI550.out) | refine below_set ?_ GE546.out) | exact HB.out)) : p := h
theorem zQ08ax6 {p : Prop} (h : p := by repeat (first | (with_reducible first | exact HI550.out | apply IsS104.alloc | apply IsS104.drewN | apply IsS104.drew | apply IsS104.set_1 | apply IsS104.set_2 | refine IsS104.far ?_ NB550_546.out _) | exact HI550.out)) : p := h
theorem zQ08ax7 {p : Prop} (h : p := by repeat (first | (with_reducible first | exact HB.out | apply below_alloc | apply pw_below_drewN | apply below_drew1 | refine below_set ?_ (IsS104.ge HI550.out) | refine below_set ?_ GE546.out | refine below_set ?_ GE558.out) | exact HB.out)) : p := h
theorem zQ08ax8 {p : Prop} (h : p := by repeat (first | (with_reducible first | exact HI550.out | apply IsS104.alloc | apply IsS104.drewN | apply IsS104.drew | apply IsS104.set_1 | apply IsS104.set_2 | refine IsS104.far ?_ NB550_546.out _ | refine IsS104.far ?_ NB550_558.out _) | exact HI550.out)) : p := h
attribute [local go_sem] max2_int min2_int max_two min_two max_three min_three max_four min_four   -- for this text's walks alone
set_option linter.unusedVariables false
set_option linter.unusedSimpArgs false
mutual
def spec_l03Shuffle.l0 : Nat → List Int → List Int → List Int → Int → Int → Int → List Int → Option (List Int × Int × Int)
 | 0, _, _, _, _, _, _, _ => none
 | k + 1, x7, x8, x1000, x1001, x1002, x530000, x530001 => if (x8.length : Int) > 0 then ((spec_l01Next.f x1000 x1001 x1002 x530000).bind fun bt536 => (spec_l03Shuffle.l1 k x7 x8 bt536.1 0 x1000 bt536.2.1 bt536.2.2 x530000 x530001)) else (some (x7, x1001, x1002))
def spec_l03Shuffle.l1 : Nat → List Int → List Int → Int → Int → List Int → Int → Int → Int → List Int → Option (List Int × Int × Int)
 | 0, _, _, _, _, _, _, _, _, _ => none
 | k + 1, x7, x8, x9, x10, x1000, x1001, x1002, x530000, x530001 => if x10 < x530000 then (if x530000 = 0 then (none) else ((spec_l03First.f k x530000 x530001 x8 (Int.tmod (wrap64 (x9 + x10)) x530000)).bind fun t539 => (if t539 ≥ 0 then (if x7.length < 17592186044416 then ((spec_l03Without.f x8 t539).bind fun t543 => (spec_l03Shuffle.l0 k (x7 ++ [Int.tmod (wrap64 (x9 + x10)) x530000]) t543 x1000 x1001 x1002 x530000 x530001)) else (none)) else (spec_l03Shuffle.l1 k x7 x8 x9 (wrap64 (x10 + 1)) x1000 x1001 x1002 x530000 x530001)))) else (spec_l03Shuffle.l0 k x7 x8 x1000 x1001 x1002 x530000 x530001)
end
def spec_l03Shuffle.f (k : Nat) (s0_0 : List Int) (s0_1 : Int) (s0_2 : Int) (a1_0 : Int) (l1_1 : List Int) (l2 : List Int) : Option (List Int × Int × Int) := (spec_l01Own.f l2).bind fun t533 => (spec_l03Shuffle.l0 k (([] : List Int)) t533 s0_0 s0_1 s0_2 a1_0 l1_1)
set_option maxHeartbeats 8000000 in
set_option maxRecDepth 100000 in
theorem spec_l03Shuffle.calls (k : Nat) (g : Nat) (s0_0 : List Int) (s0_1 : Int) (s0_2 : Int) (a1_0 : Int) (A1_1 : Option Addr) (c1_1 : Nat) (l1_1 : List Int) (A2 : Option Addr) (c2 : Nat) (l2 : List Int) (r1 : List Int) (r2 : Int) (r3 : Int) (w0 w : World) (hI : IsS104 w0 w g s0_0 s0_1 s0_2) (hB : Below w0.heap.size w0 w) (hr1_1 : Kd.C (Kd.int .i64) w A1_1 l1_1.length l1_1) (hc1_1 : l1_1.length ≤ c1_1) (hf1_1 : ∀ ad, A1_1 = some ad → 0 < l1_1.length → ad.block ≠ g) (hr2 : Kd.C (Kd.int .i64) w A2 l2.length l2) (hc2 : l2.length ≤ c2) (hf2 : ∀ ad, A2 = some ad → 0 < l2.length → ad.block ≠ g) (h : spec_l03Shuffle.f k s0_0 s0_1 s0_2 a1_0 l1_1 l2 = some (r1, r2, r3)) :
  Calls Tryd.prog 69 #[.pointer (some ⟨g, 0, none⟩), .agg #[.int .i64 a1_0, .slice A1_1 l1_1.length c1_1], .slice A2 l2.length c2] w fun e w' => ∃ v0_ : Value, e = .returned (v0_) ∧ Kd.R (Kd.int .i64) 2 w' w.heap.size (fun _ => True) v0_ r1 ∧ IsS104 w0 w' g s0_0 r2 r3 ∧ Below w0.heap.size w0 w' ∧ KeepBut w w' g none := by
 have hu26 := Tryd.underlying26; have HR1_1 := Aside0.mk hr1_1; have HC1_1 := Aside0.mk hc1_1; clear hr1_1 hc1_1; have HR2 := Aside0.mk hr2; have HC2 := Aside0.mk hc2; clear hr2 hc2; have HI0 := Aside0.mk hI; have HK := Aside0.mk (KeepBut.refl w g none); have HL := Aside0.mk hB.size; clear hI; have HW0 := Aside0.mk hB.size; have HB := Aside0.mk hB; clear hB
 have H : ((spec_l01Own.f l2).bind fun t533 => (spec_l03Shuffle.l0 k (([] : List Int)) t533 s0_0 s0_1 s0_2 a1_0 l1_1)) = some (r1, r2, r3) := h
 clear h
 obtain ⟨y530, hy530⟩ : ∃ y_ : List Int, y_ = (([] : List Int)) := ⟨_, rfl⟩
 replace H : ((spec_l01Own.f l2).bind fun t533 => (spec_l03Shuffle.l0 k y530 t533 s0_0 s0_1 s0_2 a1_0 l1_1)) = some (r1, r2, r3) := by first | (rw [hy530]; with_reducible exact H) | (have H2_ := (Option.bind_some _ _).symm.trans H; rw [hy530]; with_reducible exact H2_) | (have H2_ := (Option.bind_some _ _).symm.trans H; with_reducible exact H2_) | with_reducible exact H | (rw [hy530]; exact H) | exact H
 have Ny530 := Aside0.mk hy530; clear hy530; replace H := Option.bind_eq_some_iff.mp H; obtain ⟨t533, A40, H⟩ := H
 replace H : (spec_l03Shuffle.l0 k y530 t533 s0_0 s0_1 s0_2 a1_0 l1_1) = some (r1, r2, r3) := H
 have A4 := Aside0.mk A40; clear A40
 have H' := Aside0.mk H
 clear H
 go_enter Tryd.func69, Tryd.ntmps69
 go_wp2_with (first | ((with_reducible refine gate_dst (N := 4) rfl ?_); refine box_event ?hg (N := 4) ?hd (cs := #[.int .i64 a1_0, .slice A1_1 l1_1.length c1_1]) (t := 26) ?hr ?_; (case hd => rfl); (case hg => rfl); (case hr => first | (go_simp; done) | (go_simp; rfl)); intro gb529 hg w5 hbox hb; replace HB := Aside0.mk (below_step (by repeat (first | (with_reducible first | exact HB.out | apply below_alloc | apply pw_below_drewN | apply below_drew1 | refine below_set ?_ (IsS104.ge HI0.out)) | exact HB.out)) hb); have BK529 := Aside0.mk (hbox); have GW529 := Aside0.mk ((by rw [hg]; exact (keep_size (w := w) (g := g) (row := none) (zQ08ax0)) : w.heap.size ≤ gb529)); have GE529 := Aside0.mk ((Nat.le_trans HW0.out (by rw [hg]; exact (keep_size (w := w) (g := g) (row := none) (zQ08ax0)) : w.heap.size ≤ gb529) : w0.heap.size ≤ gb529)); replace HK := Aside0.mk (KeepBut.trans (zQ08ax0) (KeepBut.of_below hb g none) (.inl rfl)); have NB0_529 := Aside0.mk ((by rw [hg]; exact Nat.ne_of_lt (IsS104.lt (show IsS104 w0 _ g s0_0 s0_1 s0_2 from zQ08ax1)) : g ≠ gb529)); have NB529_0 := Aside0.mk ((by rw [hg]; exact Nat.ne_of_gt (IsS104.lt (show IsS104 w0 _ g s0_0 s0_1 s0_2 from zQ08ax1)) : gb529 ≠ g)); replace HI0 := Aside0.mk (IsS104.below (zQ08ax1) hb); clear hb hbox hg) | ((with_reducible refine gate_dst (N := 13) rfl ?_); refine Kd.R_lit (Kd.int .i64) _ 2 ?hg (N := 13) ?hd (xs := ([] : List Int)) (inner := []) (ok := fun _ => True) (okp := fun _ => True) ?hr ?hp (fun _ hk => hk) trivial (Below.refl _ _) (Nat.le_refl _) (by simp) ?_; (case hd => rfl); (case hg => rfl); (case hr => first | (go_simp; done) | (go_simp; rfl)); (case hp => exact (Reps.none _ _)); intro v531 w6 ho7 hb hg_ hnew_; clear hg_ hnew_; (first | rw [← Ny530.out] at ho7 | (simp only [Int.reduceToNat] at ho7; rw [← Ny530.out] at ho7)); have HO532 := Aside0.mk (Kd.R_lower ho7 (keep_size (w := w) (g := g) (row := none) (zQ08ax2))); replace BK529 := bb BK529 hb; replace HK := Aside0.mk (KeepBut.trans (zQ08ax2) (KeepBut.of_below hb g none) (.inl rfl)); replace HB := Aside0.mk (below_step (zQ08ax3) hb); replace HI0 := Aside0.mk (IsS104.below (zQ08ax4) hb); clear hb ho7) | ((with_reducible refine gate_callee (f := 66) rfl ?_); refine goesL_ (some 15) rfl rfl Tryd.func66 (by kernel_rfl) rfl #[.slice A2 l2.length c2] rfl lz ?_; (with_reducible refine (spec_l01Own.calls _ _ l2 t533 _ ?side1 ?side2 A4.out).mono ?_); (case side1 => exact Kd.C_keep 0 HR2.out (zQ08ax2) hf2); (case side2 => exact HC2.out); rintro e w8 ⟨v534, rfl, ho0, hb⟩; refine ⟨_, rfl, ?_⟩; have HO535 := Aside0.mk (Kd.R_lower (Kd.R_new' ho0 (Kd.R_lt (kdQ HO532))) (keep_size (w := w) (g := g) (row := none) (zQ08ax2))); replace HO532 := Aside0.mk (Kd.R_elder' (kdQ HO532) (Kd.R_base ho0) hb); replace BK529 := bb BK529 hb; replace HK := Aside0.mk (KeepBut.trans (zQ08ax2) (KeepBut.of_below hb g none) (.inl rfl)); replace HB := Aside0.mk (below_step (zQ08ax3) hb); replace HI0 := Aside0.mk (IsS104.below (zQ08ax4) hb); (try clear hb); (try clear hb2); (try clear hk); (try clear hi); (try clear hgw_); (try clear ho0)))
 go_loopg [7, 8] k (fun kq v7 v8 w' => ∃ (x7_1 : List Int) (x8_1 : List Int) (x1001_1 : Int) (x1002_1 : Int), Aside0 (spec_l03Shuffle.l0 kq x7_1 x8_1 s0_0 x1001_1 x1002_1 a1_0 l1_1 = some (r1, r2, r3)) ∧ Aside0 (kq ≤ k) ∧ Aside0 (Kd.R (Kd.int .i64) 2 w' w.heap.size (fun k_ => some k_ ≠ (v8 : Value).ownBlock) v7 x7_1) ∧ Aside0 (Kd.R (Kd.int .i64) 2 w' w.heap.size (fun k_ => some k_ ≠ (v7 : Value).ownBlock) v8 x8_1) ∧ Aside0 (w'.heap[gb529]? = some (.cells #[.int .i64 a1_0, (.slice A1_1 l1_1.length c1_1)] 26 (0, 0))) ∧ Aside0 (IsS104 w0 w' g s0_0 x1001_1 x1002_1) ∧ Aside0 (KeepBut w w' g none) ∧ Aside0 (Below w0.heap.size w0 w'))
 case atStart => exact ⟨(y530), (t533), (s0_1), (s0_2), H', ⟨Nat.le_refl _⟩, ⟨by (with_reducible repeat (first | apply Kd.R_alloc | apply Kd.R_drewN | apply Kd.R_drew)); exact Kd.R_mono HO532.out (fun _ hk => hk.2)⟩, ⟨by (with_reducible repeat (first | apply Kd.R_alloc | apply Kd.R_drewN | apply Kd.R_drew)); exact Kd.R_mono HO535.out (fun _ hk => hk.2)⟩, ⟨blkQ BK529⟩, ⟨zQ08ax4⟩, ⟨zQ08ax2⟩, ⟨zQ08ax3⟩⟩
 case round =>
  clear H'
  try clear c1
  try clear c2
  try clear p2
  try clear c6
  obtain ⟨x7_1, x8_1, x1001_1, x1002_1, HA, HK1, HO_7, HO_8, BK529, HI0, HK, HB⟩ := hrel
  cases gk with
  | zero => exact absurd HA.out (by simp [spec_l03Shuffle.l0])
  | succ k1 =>
   have H := HA.out; clear HA
   simp only [spec_l03Shuffle.l0] at H
   by_cases c9 : (x8_1.length : Int) > 0
   ·rw [if_pos c9] at H
    have c9b0 : decide (0 < (x8_1.length : Int)) = true := decide_eq_true c9
    have c9b1 : decide (0 < x8_1.length) = true := decide_eq_true (by omega)
    clear c9; replace H := Option.bind_eq_some_iff.mp H
    obtain ⟨⟨t536, t537, t538⟩, A100, H⟩ := H
    replace H : (spec_l03Shuffle.l1 k1 x7_1 x8_1 t536 0 s0_0 t537 t538 a1_0 l1_1) = some (r1, r2, r3) := H
    have A10 := Aside0.mk A100; clear A100
    have H' := Aside0.mk H
    clear H; obtain ⟨Ao11, co11, eo11⟩ := Kd.R_slice HO_8.out; subst eo11; have hnb12 := NB529_0.out; have hnc12 := NB0_529.out
    have hcz13_0 : wr.cell? ⟨gb529, 0, none⟩ = some (.int .i64 a1_0) := bc BK529 0
    have hcz13_1 : wr.cell? ⟨gb529, 1, none⟩ = some (.slice A1_1 l1_1.length c1_1) := bc BK529 1
    have hfz13_0 := blk_frozen BK529.out 0; have hfz13_1 := blk_frozen BK529.out 1
    go_wp2_with (first | ((with_reducible refine gate_callee (f := 68) rfl ?_); refine goesL_ (some 22) rfl rfl Tryd.func68 (by kernel_rfl) rfl #[.pointer (some ⟨g, 0, none⟩), .int .i64 a1_0] rfl lz ?_; (with_reducible refine (spec_l01Next.calls g s0_0 x1001_1 x1002_1 a1_0 t536 t537 t538 w0 _ ?side1 ?side2 A10.out).mono ?_); (case side1 => exact zQ08ax4); (case side2 => exact zQ08ax3); rintro e w14 ⟨rfl, hi, hb, hk⟩; refine ⟨_, rfl, ?_⟩; replace HO_7 := Aside0.mk (Kd.R_mono (Kd.R_keep (IsS104.apart (show IsS104 w0 _ g s0_0 x1001_1 x1002_1 from zQ08ax4) (kdQ HO_7) (by decide)) hk (fun _ h => h.2)) (fun _ h => h.1)); replace HO_8 := Aside0.mk (Kd.R_mono (Kd.R_keep (IsS104.apart (show IsS104 w0 _ g s0_0 x1001_1 x1002_1 from zQ08ax4) (kdQ HO_8) (by decide)) hk (fun _ h => h.2)) (fun _ h => h.1)); replace BK529 := Aside0.mk (KeepBut.blk hk (g' := gb529) (o := .cells #[.int .i64 a1_0, .slice A1_1 l1_1.length c1_1] 26 (0, 0)) (blkQ BK529) NB529_0.out (by simp)); replace HK := Aside0.mk (KeepBut.trans (zQ08ax2) hk (.inl rfl)); replace HB := Aside0.mk (hb); replace HI0 := Aside0.mk (hi); (try clear hb); (try clear hb2); (try clear hk); (try clear hi); (try clear hgw_)))
    go_loopg [7, 8, 10] k1 (fun kq v7 v8 v10 w' => ∃ (x7_2 : List Int) (x8_2 : List Int) (x10_2 : Int), v10 = .int .i64 x10_2 ∧ Aside0 (spec_l03Shuffle.l1 kq x7_2 x8_2 t536 x10_2 s0_0 t537 t538 a1_0 l1_1 = some (r1, r2, r3)) ∧ Aside0 (kq ≤ k1) ∧ Aside0 (Kd.R (Kd.int .i64) 2 w' w.heap.size (fun k_ => some k_ ≠ (v8 : Value).ownBlock) v7 x7_2) ∧ Aside0 (Kd.R (Kd.int .i64) 2 w' w.heap.size (fun k_ => some k_ ≠ (v7 : Value).ownBlock) v8 x8_2) ∧ Aside0 (w'.heap[gb529]? = some (.cells #[.int .i64 a1_0, (.slice A1_1 l1_1.length c1_1)] 26 (0, 0))) ∧ Aside0 (IsS104 w0 w' g s0_0 t537 t538) ∧ Aside0 (KeepBut w w' g none) ∧ Aside0 (Below w0.heap.size w0 w'))
    case atStart => exact ⟨(x7_1), (x8_1), (0), sz, H', ⟨Nat.le_refl _⟩, ⟨kdQ HO_7⟩, ⟨kdQ HO_8⟩, ⟨blkQ BK529⟩, ⟨zQ08ax4⟩, ⟨zQ08ax2⟩, ⟨zQ08ax3⟩⟩
    case round =>
     clear H'
     try clear c1
     try clear c2
     try clear p2
     try clear c6
     try clear c9
     try clear c9b0
     try clear c9b1
     try clear c12
     try clear hcz13_0
     try clear hcz13_1
     try clear hfz13_0
     try clear hfz13_1
     try clear p2
     obtain ⟨x7_2, x8_2, x10_2, rfl, HA, HK2, HO_7, HO_8, BK529, HI0, HK, HB⟩ := hrel
     cases gk with
     | zero => exact absurd HA.out (by simp [spec_l03Shuffle.l1])
     | succ k2 =>
      have H := HA.out; clear HA
      simp only [spec_l03Shuffle.l1] at H
      by_cases c15 : x10_2 < a1_0
      ·rw [if_pos c15] at H
       have c15b0 : decide (x10_2 < a1_0) = true := decide_eq_true c15
       clear c15
       by_cases c16 : a1_0 = 0
       ·rw [if_pos c16] at H
        exact absurd H (by simp)
       ·rw [if_neg c16] at H
        have c16b0 : (a1_0 == 0) = false := beq_eq_false_iff_ne.mpr c16
        have c16b1 : (a1_0 != 0) = true := bne_iff_ne.mpr c16
        replace H := Option.bind_eq_some_iff.mp H; obtain ⟨t539, A170, H⟩ := H
        replace H : (if t539 ≥ 0 then (if x7_2.length < 17592186044416 then ((spec_l03Without.f x8_2 t539).bind fun t543 => (spec_l03Shuffle.l0 k2 (x7_2 ++ [Int.tmod (wrap64 (t536 + x10_2)) a1_0]) t543 s0_0 t537 t538 a1_0 l1_1)) else (none)) else (spec_l03Shuffle.l1 k2 x7_2 x8_2 t536 (wrap64 (x10_2 + 1)) s0_0 t537 t538 a1_0 l1_1)) = some (r1, r2, r3) := H
        have A17 := Aside0.mk A170; clear A170
        by_cases c18 : t539 ≥ 0
        ·rw [if_pos c18] at H
         have c18b0 : decide (0 ≤ t539) = true := decide_eq_true c18
         clear c18
         by_cases c19 : x7_2.length < 17592186044416
         ·rw [if_pos c19] at H
          have LMc19 := Aside0.mk c19; clear c19
          obtain ⟨y540, hy540⟩ : ∃ y_ : List Int, y_ = (x7_2 ++ [Int.tmod (wrap64 (t536 + x10_2)) a1_0]) := ⟨_, rfl⟩
          replace H : ((spec_l03Without.f x8_2 t539).bind fun t543 => (spec_l03Shuffle.l0 k2 y540 t543 s0_0 t537 t538 a1_0 l1_1)) = some (r1, r2, r3) := by first | (rw [hy540]; with_reducible exact H) | (have H2_ := (Option.bind_some _ _).symm.trans H; rw [hy540]; with_reducible exact H2_) | (have H2_ := (Option.bind_some _ _).symm.trans H; with_reducible exact H2_) | with_reducible exact H | (rw [hy540]; exact H) | exact H
          have Ny540 := Aside0.mk hy540; clear hy540; replace H := Option.bind_eq_some_iff.mp H; obtain ⟨t543, A200, H⟩ := H
          replace H : (spec_l03Shuffle.l0 k2 y540 t543 s0_0 t537 t538 a1_0 l1_1) = some (r1, r2, r3) := H
          have A20 := Aside0.mk A200; clear A200
          have H' := Aside0.mk H
          clear H; have hnb21 := NB529_0.out; have hnc21 := NB0_529.out
          have hcz22_0 : wr.cell? ⟨gb529, 0, none⟩ = some (.int .i64 a1_0) := bc BK529 0
          have hcz22_1 : wr.cell? ⟨gb529, 1, none⟩ = some (.slice A1_1 l1_1.length c1_1) := bc BK529 1
          have hfz22_0 := blk_frozen BK529.out 0; have hfz22_1 := blk_frozen BK529.out 1; obtain ⟨Ao23, co23, eo23⟩ := Kd.R_slice HO_8.out; subst eo23
          go_wp2_with (first | ((with_reducible refine gate_callee (f := 115) rfl ?_); refine goesL_ (some 38) rfl rfl Tryd.func115 (by kernel_rfl) rfl #[.agg #[.int .i64 a1_0, .slice A1_1 l1_1.length c1_1], .slice Ao23 x8_2.length co23, .int .i64 (Int.tmod (wrap64 (t536 + x10_2)) a1_0)] rfl lz ?_; (with_reducible refine (spec_l03First.calls k2 a1_0 _ _ l1_1 _ _ x8_2 (Int.tmod (wrap64 (t536 + x10_2)) a1_0) t539 _ ?side1 ?side2 ?side3 ?side4 A17.out).mono ?_); (case side1 => exact Kd.C_keep 0 HR1_1.out (zQ08ax2) hf1_1); (case side2 => exact HC1_1.out); (case side3 => have q_ := Aside0.mk (Kd.R_reads' HO_8.out).2.2; exact cQ q_); (case side4 => exact (Kd.R_reads' HO_8.out).2.1); rintro e w24 ⟨rfl, hb⟩; refine ⟨_, rfl, ?_⟩; replace HO_7 := kb HO_7 hb; replace HO_8 := kb HO_8 hb; replace BK529 := bb BK529 hb; replace HK := Aside0.mk (KeepBut.trans (zQ08ax2) (KeepBut.of_below hb g none) (.inl rfl)); replace HB := Aside0.mk (below_step (zQ08ax3) hb); replace HI0 := Aside0.mk (IsS104.below (zQ08ax4) hb); (try clear hb); (try clear hb2); (try clear hk); (try clear hi); (try clear hgw_)) | ((with_reducible refine gate_builtin (b := .append) (xs := #[.tmp 41, .tmp 43]) rfl ?_); at_builtin; refine Kd.R_append (Kd.int .i64) w.heap.size rfl (.tmp 41) (.tmp 43) 24 2 (.int .i64 0) 8 rfl Tryd.underlying24 info2 rfl (by decide) (by omega) u7 x7_2 (Int.tmod (wrap64 (t536 + x10_2)) a1_0) [.int .i64 (Int.tmod (wrap64 (t536 + x10_2)) a1_0)] (fun k_ => some k_ ≠ (.slice Ao23 x8_2.length co23 : Value).ownBlock) (fun _ => False) rfl rfl ?aP (fun _ hk => hk.elim) ?aF ?aO (Below.refl _ _) ?aS ?aL ?_; (case aP => exact rfl); (case aF => exact (fun k_ hk => Kd.fresh' (Kd.R_lt (kdQ HO_8)) k_ hk)); (case aO => exact (kdQ HO_7)); (case aS => exact (keep_size (w := w) (g := g) (row := none) (zQ08ax2))); (case aL => have := LMc19.out; omega); intro v541 w25 ho hb hg hat; rw [← Ny540.out] at ho; have n0_ := Aside0.mk (Kd.R_after (ok := (fun _ => True)) (by (with_reducible repeat (first | apply Kd.R_alloc | apply Kd.R_drewN | apply Kd.R_drew)); exact Kd.R_mono HO_8.out (fun _ hk => ⟨trivial, hk⟩)) hg hat); have n1_ := Aside0.mk (blk_grown (g := gb529) (o := .cells #[.int .i64 a1_0, .slice A1_1 l1_1.length c1_1] 26 (0, 0)) (blkQ BK529) hg (Kd.R_ne HO_7.out BK529.out (by decide))); have n2_ := Aside0.mk (IsS104.grown (zQ08ax4) hg (IsS104.own_ne HI0.out HO_7.out (by decide))); have n3_ := Aside0.mk (below_weaken (zQ08ax3) HL.out hb); have n4_ := Aside0.mk (KeepBut.trans (zQ08ax2) (KeepBut.of_grown hg g) (Kd.R_base2 HO_7.out)); have n5_ := Aside0.mk (ho); clear HO_8; clear BK529; clear HI0; clear HB; clear HK; clear HO_7; have HO_8 := n0_; have BK529 := n1_; have HI0 := n2_; have HB := n3_; have HK := n4_; have HO542 := n5_; clear n0_ n1_ n2_ n3_ n4_ n5_; clear ho hb hg hat) | ((with_reducible refine gate_callee (f := 116) rfl ?_); refine goesL_ (some 47) rfl rfl Tryd.func116 (by kernel_rfl) rfl #[.slice Ao23 x8_2.length co23, .int .i64 t539] rfl lz ?_; (with_reducible refine (spec_l03Without.calls _ _ x8_2 t539 t543 _ ?side1 ?side2 A20.out).mono ?_); (case side1 => have q_ := Aside0.mk (Kd.R_reads' HO_8.out).2.2; exact cQ q_); (case side2 => exact (Kd.R_reads' HO_8.out).2.1); rintro e w26 ⟨v544, rfl, ho0, hb⟩; refine ⟨_, rfl, ?_⟩; have HO545 := Aside0.mk (Kd.R_lower (Kd.R_new' (Kd.R_new' ho0 (Kd.R_lt (kdQ HO_8))) (Kd.R_lt (kdQ HO542))) (keep_size (w := w) (g := g) (row := none) (zQ08ax2))); replace HO_8 := Aside0.mk (Kd.R_elder' (kdQ HO_8) (Kd.R_base ho0) hb); replace HO542 := Aside0.mk (Kd.R_elder' (kdQ HO542) (Kd.R_base ho0) hb); replace BK529 := bb BK529 hb; replace HK := Aside0.mk (KeepBut.trans (zQ08ax2) (KeepBut.of_below hb g none) (.inl rfl)); replace HB := Aside0.mk (below_step (zQ08ax3) hb); replace HI0 := Aside0.mk (IsS104.below (zQ08ax4) hb); (try clear hb); (try clear hb2); (try clear hk); (try clear hi); (try clear hgw_); (try clear ho0)))
          go_roundg k2
          case measure => have := HK1.out; have := HK2.out; omega
          case rel => exact ⟨(y540), (t543), (t537), (t538), H', ⟨by have := HK1.out; have := HK2.out; omega⟩, ⟨by (with_reducible repeat (first | apply Kd.R_alloc | apply Kd.R_drewN | apply Kd.R_drew)); exact Kd.R_mono HO542.out (fun _ hk => hk.2)⟩, ⟨by (with_reducible repeat (first | apply Kd.R_alloc | apply Kd.R_drewN | apply Kd.R_drew)); exact Kd.R_mono HO545.out (fun _ hk => hk.2)⟩, ⟨blkQ BK529⟩, ⟨zQ08ax4⟩, ⟨zQ08ax2⟩, ⟨zQ08ax3⟩⟩
         ·rw [if_neg c19] at H
          exact absurd H (by simp)
        ·rw [if_neg c18] at H
         have c18b0 : decide (0 ≤ t539) = false := decide_eq_false c18
         clear c18
         have H' := Aside0.mk H
         clear H; have hnb27 := NB529_0.out; have hnc27 := NB0_529.out
         have hcz28_0 : wr.cell? ⟨gb529, 0, none⟩ = some (.int .i64 a1_0) := bc BK529 0
         have hcz28_1 : wr.cell? ⟨gb529, 1, none⟩ = some (.slice A1_1 l1_1.length c1_1) := bc BK529 1
         have hfz28_0 := blk_frozen BK529.out 0; have hfz28_1 := blk_frozen BK529.out 1; obtain ⟨Ao29, co29, eo29⟩ := Kd.R_slice HO_8.out; subst eo29
         go_wp2_with (first | ((with_reducible refine gate_callee (f := 115) rfl ?_); refine goesL_ (some 38) rfl rfl Tryd.func115 (by kernel_rfl) rfl #[.agg #[.int .i64 a1_0, .slice A1_1 l1_1.length c1_1], .slice Ao29 x8_2.length co29, .int .i64 (Int.tmod (wrap64 (t536 + x10_2)) a1_0)] rfl lz ?_; (with_reducible refine (spec_l03First.calls k2 a1_0 _ _ l1_1 _ _ x8_2 (Int.tmod (wrap64 (t536 + x10_2)) a1_0) t539 _ ?side1 ?side2 ?side3 ?side4 A17.out).mono ?_); (case side1 => exact Kd.C_keep 0 HR1_1.out (zQ08ax2) hf1_1); (case side2 => exact HC1_1.out); (case side3 => have q_ := Aside0.mk (Kd.R_reads' HO_8.out).2.2; exact cQ q_); (case side4 => exact (Kd.R_reads' HO_8.out).2.1); rintro e w30 ⟨rfl, hb⟩; refine ⟨_, rfl, ?_⟩; replace HO_7 := kb HO_7 hb; replace HO_8 := kb HO_8 hb; replace BK529 := bb BK529 hb; replace HK := Aside0.mk (KeepBut.trans (zQ08ax2) (KeepBut.of_below hb g none) (.inl rfl)); replace HB := Aside0.mk (below_step (zQ08ax3) hb); replace HI0 := Aside0.mk (IsS104.below (zQ08ax4) hb); (try clear hb); (try clear hb2); (try clear hk); (try clear hi); (try clear hgw_)))
         go_roundg k2
         case measure => have := HK1.out; have := HK2.out; omega
         case rel => exact ⟨(x7_2), (x8_2), (wrap64 (x10_2 + 1)), sz, H', ⟨by have := HK1.out; have := HK2.out; omega⟩, ⟨kdQ HO_7⟩, ⟨kdQ HO_8⟩, ⟨blkQ BK529⟩, ⟨zQ08ax4⟩, ⟨zQ08ax2⟩, ⟨zQ08ax3⟩⟩
      ·rw [if_neg c15] at H
       have c15b0 : decide (x10_2 < a1_0) = false := decide_eq_false c15
       clear c15
       have H' := Aside0.mk H
       clear H; have hnb31 := NB529_0.out; have hnc31 := NB0_529.out
       have hcz32_0 : wr.cell? ⟨gb529, 0, none⟩ = some (.int .i64 a1_0) := bc BK529 0
       have hcz32_1 : wr.cell? ⟨gb529, 1, none⟩ = some (.slice A1_1 l1_1.length c1_1) := bc BK529 1
       have hfz32_0 := blk_frozen BK529.out 0; have hfz32_1 := blk_frozen BK529.out 1
       go_wp2
       go_roundg k2
       case measure => have := HK1.out; have := HK2.out; omega
       case rel => exact ⟨(x7_2), (x8_2), (t537), (t538), H', ⟨by have := HK1.out; have := HK2.out; omega⟩, ⟨kdQ HO_7⟩, ⟨kdQ HO_8⟩, ⟨blkQ BK529⟩, ⟨zQ08ax4⟩, ⟨zQ08ax2⟩, ⟨zQ08ax3⟩⟩
   ·rw [if_neg c9] at H
    have c9b0 : decide (0 < (x8_1.length : Int)) = false := decide_eq_false c9
    have c9b1 : decide (0 < x8_1.length) = false := decide_eq_false (by omega)
    clear c9
    simp only [Option.some.injEq, Prod.mk.injEq] at H
    obtain ⟨rfl, rfl, rfl⟩ := H; obtain ⟨Ao33, co33, eo33⟩ := Kd.R_slice HO_8.out; subst eo33
    go_wp2
    go_ret
    exact ⟨_, rz, by (with_reducible repeat (first | apply Kd.R_alloc | apply Kd.R_drewN | apply Kd.R_drew)); exact Kd.R_mono HO_7.out (fun _ hk => trivial), zQ08ax4, zQ08ax3, zQ08ax2⟩
mutual
def spec_DrawAreSameTrace.j0 : Nat → List Int → List Int → Bool → List Int → Int → Int → Int → List Int → Option (Int × List Int × List Int × List Int)
 | 0, _, _, _, _, _, _, _, _ => none
 | k + 1, x7, x8, x26, x551000, x551001, x551002, x559000, x559001 => if x26 = true then ((spec_l03Shuffle.f k x551000 x551001 x551002 x559000 x559001 x7).bind fun bt566 => (spec_DrawAreSameTrace.j1 k x7 bt566.1 x551000 bt566.2.1 bt566.2.2 x559000 x559001)) else (spec_DrawAreSameTrace.j1 k x7 x8 x551000 x551001 x551002 x559000 x559001)
def spec_DrawAreSameTrace.j1 : Nat → List Int → List Int → List Int → Int → Int → Int → List Int → Option (Int × List Int × List Int × List Int)
 | 0, _, _, _, _, _, _, _ => none
 | k + 1, x7, x8, x551000, x551001, x551002, x559000, x559001 => if (x8.length : Int) > 1 then ((spec_l01Next.f x551000 x551001 x551002 3).bind fun bt571 => (if bt571.1 = 0 then ((spec_l01Next.f x551000 bt571.2.1 bt571.2.2 (wrap64 ((x8.length : Int) - 1))).bind fun bt574 => (if 0 ≤ bt574.1 then (if bt574.1 < (x8.length : Int) then (if 0 ≤ (wrap64 (bt574.1 + 1)) then (if (wrap64 (bt574.1 + 1)) < (x8.length : Int) then (some (x559000, x559001, x7, ((x8.set (bt574.1 : Int).toNat (rd x8 (wrap64 (bt574.1 + 1)))).set ((wrap64 (bt574.1 + 1)) : Int).toNat (rd x8 bt574.1)))) else (none)) else (none)) else (none)) else (none))) else (some (x559000, x559001, x7, x8)))) else (some (x559000, x559001, x7, x8))
end
def spec_DrawAreSameTrace.f (k : Nat) (l0 : List Int) : Option (Int × List Int × List Int × List Int) := (spec_l03Pair.f k l0 6 14).bind fun bt551 => ((spec_l01Own.f bt551.2.2.1).bind fun t559 => ((spec_l03Is.f k bt551.1 bt551.2.1 bt551.2.2.1).bind fun t562 => (if t562 = true then ((spec_l01Next.f bt551.2.2.2.1 bt551.2.2.2.2.1 bt551.2.2.2.2.2 4).bind fun bt563 => (spec_DrawAreSameTrace.j0 k bt551.2.2.1 t559 (decide (bt563.1 > 0)) bt551.2.2.2.1 bt563.2.1 bt563.2.2 bt551.1 bt551.2.1)) else (spec_DrawAreSameTrace.j0 k bt551.2.2.1 t559 false bt551.2.2.2.1 bt551.2.2.2.2.1 bt551.2.2.2.2.2 bt551.1 bt551.2.1))))
set_option maxHeartbeats 8000000 in
set_option maxRecDepth 100000 in
theorem spec_DrawAreSameTrace.calls (k : Nat) (A0 : Option Addr) (c0 : Nat) (l0 : List Int) (r1 : Int) (r2 : List Int) (r3 : List Int) (r4 : List Int) (w : World) (hr0 : Kd.C (Kd.int .u8) w A0 l0.length l0) (hc0 : l0.length ≤ c0) (h : spec_DrawAreSameTrace.f k l0 = some (r1, r2, r3, r4)) :
  Calls Tryd.prog 21 #[.slice A0 l0.length c0] w fun e w' => ∃ v1_ v2_ v3_ : Value, e = .returned (.tuple #[.agg #[.int .i64 r1, v1_], v2_, v3_]) ∧ Kd.R (Kd.int .i64) 2 w' w.heap.size (fun k_ => some k_ ≠ (v2_ : Value).ownBlock ∧ some k_ ≠ (v3_ : Value).ownBlock) v1_ r2 ∧ Kd.R (Kd.int .i64) 2 w' w.heap.size (fun k_ => some k_ ≠ (v1_ : Value).ownBlock ∧ some k_ ≠ (v3_ : Value).ownBlock) v2_ r3 ∧ Kd.R (Kd.int .i64) 2 w' w.heap.size (fun k_ => some k_ ≠ (v1_ : Value).ownBlock ∧ some k_ ≠ (v2_ : Value).ownBlock) v3_ r4 ∧ Below w.heap.size w w' := by
 have hu26 := Tryd.underlying26; have HR0 := Aside0.mk hr0; have HC0 := Aside0.mk hc0; clear hr0 hc0; have HB := Aside0.mk (Below.refl w.heap.size w)
 have H : ((spec_l03Pair.f k l0 6 14).bind fun bt551 => ((spec_l01Own.f bt551.2.2.1).bind fun t559 => ((spec_l03Is.f k bt551.1 bt551.2.1 bt551.2.2.1).bind fun t562 => (if t562 = true then ((spec_l01Next.f bt551.2.2.2.1 bt551.2.2.2.2.1 bt551.2.2.2.2.2 4).bind fun bt563 => (spec_DrawAreSameTrace.j0 k bt551.2.2.1 t559 (decide (bt563.1 > 0)) bt551.2.2.2.1 bt563.2.1 bt563.2.2 bt551.1 bt551.2.1)) else (spec_DrawAreSameTrace.j0 k bt551.2.2.1 t559 false bt551.2.2.2.1 bt551.2.2.2.2.1 bt551.2.2.2.2.2 bt551.1 bt551.2.1))))) = some (r1, r2, r3, r4) := h
 clear h; replace H := Option.bind_eq_some_iff.mp H
 obtain ⟨⟨t551, t552, t555, t547, t548, t549⟩, A20, H⟩ := H
 replace H : ((spec_l01Own.f t555).bind fun t559 => ((spec_l03Is.f k t551 t552 t555).bind fun t562 => (if t562 = true then ((spec_l01Next.f t547 t548 t549 4).bind fun bt563 => (spec_DrawAreSameTrace.j0 k t555 t559 (decide (bt563.1 > 0)) t547 bt563.2.1 bt563.2.2 t551 t552)) else (spec_DrawAreSameTrace.j0 k t555 t559 false t547 t548 t549 t551 t552)))) = some (r1, r2, r3, r4) := H
 have A2 := Aside0.mk A20; clear A20; replace H := Option.bind_eq_some_iff.mp H; obtain ⟨t559, A30, H⟩ := H
 replace H : ((spec_l03Is.f k t551 t552 t555).bind fun t562 => (if t562 = true then ((spec_l01Next.f t547 t548 t549 4).bind fun bt563 => (spec_DrawAreSameTrace.j0 k t555 t559 (decide (bt563.1 > 0)) t547 bt563.2.1 bt563.2.2 t551 t552)) else (spec_DrawAreSameTrace.j0 k t555 t559 false t547 t548 t549 t551 t552))) = some (r1, r2, r3, r4) := H
 have A3 := Aside0.mk A30; clear A30; have HC4 := Aside0.mk H; clear H
 go_enter Tryd.func21, Tryd.ntmps21
 go_upto_region 3 with (first | ((with_reducible refine gate_dst (N := 2) rfl ?_); refine box_event ?hg (N := 2) ?hd (cs := #[.int .i64 0, .slice none 0 0]) (t := 26) ?hr ?_; (case hd => rfl); (case hg => rfl); (case hr => first | (go_simp; done) | (go_simp; rfl)); intro gb546 hg w5 hbox hb; have BK546 := Aside0.mk (hbox); have GW546 := Aside0.mk ((by rw [hg]; exact (below_size (beQ HB)) : w.heap.size ≤ gb546)); have GE546 := Aside0.mk ((by rw [hg]; exact (below_size (beQ HB)) : w.heap.size ≤ gb546)); replace HB := Aside0.mk (below_step (beQ HB) hb); clear hb hbox hg) | ((with_reducible refine gate_callee (f := 56) rfl ?_); refine goesL_ (some 13) rfl rfl Tryd.func56 (by kernel_rfl) rfl #[.slice A0 l0.length c0, .int .i64 6, .int .i64 14] rfl lz ?_; (with_reducible refine (spec_l03Pair.calls k _ _ l0 6 14 t551 t552 t555 t547 t548 t549 w _ ?side1 ?side2 ?side3 A2.out).mono ?_); (case side1 => repeat (first | (with_reducible first | exact HB.out | apply below_alloc | apply pw_below_drewN | apply below_drew1 | refine below_set ?_ GE546.out) | exact HB.out)); (case side2 => exact HR0.out); (case side3 => exact HC0.out); rintro e w6 ⟨v553, v556, g550, rfl, ho0, ho1, hi, hb, hb2⟩; refine ⟨_, rfl, ?_⟩; have HO554 := Aside0.mk (Kd.R_lower ho0 (below_size (beQ HB))); have HO557 := Aside0.mk (Kd.R_lower ho1 (below_size (beQ HB))); replace HB := Aside0.mk (hb); have HI550 := Aside0.mk (hi); have NB550_546 := Aside0.mk (IsS104.ne_blk hi (blk_below (blkQ BK546) hb2) (by decide)); have NB546_550 := Aside0.mk (Ne.symm (IsS104.ne_blk hi (blk_below (blkQ BK546) hb2) (by decide))); replace BK546 := Aside0.mk (blk_below (blkQ BK546) hb2); (try clear hb); (try clear hb2); (try clear hk); (try clear hi); (try clear hgw_); (try clear ho0); (try clear ho1)) | ((with_reducible refine gate_dst (N := 6) rfl ?_); refine box_event ?hg (N := 6) ?hd (cs := #[.int .i64 0, .slice none 0 0]) (t := 26) ?hr ?_; (case hd => rfl); (case hg => rfl); (case hr => first | (go_simp; done) | (go_simp; rfl)); intro gb558 hg w7 hbox hb; replace HO554 := kb HO554 hb; replace HO557 := kb HO557 hb; have BK558 := Aside0.mk (hbox); have GW558 := Aside0.mk ((by rw [hg]; exact (below_size (zQ08ax5)) : w.heap.size ≤ gb558)); have GE558 := Aside0.mk ((by rw [hg]; exact (below_size (zQ08ax5)) : w.heap.size ≤ gb558)); replace HB := Aside0.mk (below_step (zQ08ax5) hb); have NB546_558 := Aside0.mk ((by rw [hg]; exact Nat.ne_of_lt (blk_lt (blkQ BK546)) : gb546 ≠ gb558)); have NB558_546 := Aside0.mk ((by rw [hg]; exact Nat.ne_of_gt (blk_lt (blkQ BK546)) : gb558 ≠ gb546)); replace BK546 := bb BK546 hb; have NB550_558 := Aside0.mk ((by rw [hg]; exact Nat.ne_of_lt (IsS104.lt (show IsS104 w _ g550 t547 t548 t549 from zQ08ax6)) : g550 ≠ gb558)); have NB558_550 := Aside0.mk ((by rw [hg]; exact Nat.ne_of_gt (IsS104.lt (show IsS104 w _ g550 t547 t548 t549 from zQ08ax6)) : gb558 ≠ g550)); replace HI550 := Aside0.mk (IsS104.below (zQ08ax6) hb); clear hb hbox hg; have hnb8 := NB558_546.out; have hnc8 := NB546_558.out; have hnb9 := NB558_550.out; have hnc9 := NB550_558.out; have hcz10_0 : w7.cell? ⟨gb558, 0, none⟩ = some (.int .i64 0) := bc BK558 0; have hcz10_1 : w7.cell? ⟨gb558, 1, none⟩ = some (.slice none 0 0) := bc BK558 1; have hfz10_0 := blk_frozen BK558.out 0; have hfz10_1 := blk_frozen BK558.out 1; obtain ⟨Ao11, co11, eo11⟩ := Kd.R_slice HO554.out; subst eo11; obtain ⟨Ao12, co12, eo12⟩ := Kd.R_slice HO557.out; subst eo12) | ((with_reducible refine gate_callee (f := 66) rfl ?_); refine goesL_ (some 18) rfl rfl Tryd.func66 (by kernel_rfl) rfl #[.slice Ao12 t555.length co12] rfl lz ?_; (with_reducible refine (spec_l01Own.calls _ _ t555 t559 _ ?side1 ?side2 A3.out).mono ?_); (case side1 => refine (Kd.R_reads' (e := 2) (base := w.heap.size) (ok := fun k_ => some k_ ≠ (.slice Ao11 t552.length co11 : Value).ownBlock) (n := t555.length) (c := co12) ?_).2.2; exact (by (with_reducible repeat (first | apply Kd.R_alloc | apply Kd.R_drewN | apply Kd.R_drew)); exact (Kd.R_mono (Kd.R_far (p := ⟨gb558, 1, none⟩) (Kd.R_far (p := ⟨gb558, 0, none⟩) (Kd.R_types HO557.out BK558.out (by decide)) (fun _ hk => hk.2) (.int .i64 t551)) (fun _ hk => hk.2) (.slice Ao11 t552.length co11)) (fun _ h_ => h_.1)))); (case side2 => exact (Kd.R_reads' HO557.out).2.1); rintro e w13 ⟨v560, rfl, ho0, hb⟩; refine ⟨_, rfl, ?_⟩; have HO561 := Aside0.mk (Kd.R_lower (Kd.R_new' (Kd.R_new' ho0 (Kd.R_lt (by (with_reducible repeat (first | apply Kd.R_alloc | apply Kd.R_drewN | apply Kd.R_drew)); exact (Kd.R_mono (Kd.R_far (p := ⟨gb558, 1, none⟩) (Kd.R_far (p := ⟨gb558, 0, none⟩) (Kd.R_types HO554.out BK558.out (by decide)) (fun _ hk => hk.2) (.int .i64 t551)) (fun _ hk => hk.2) (.slice Ao11 t552.length co11)) (fun _ h_ => h_.1))))) (Kd.R_lt (by (with_reducible repeat (first | apply Kd.R_alloc | apply Kd.R_drewN | apply Kd.R_drew)); exact (Kd.R_mono (Kd.R_far (p := ⟨gb558, 1, none⟩) (Kd.R_far (p := ⟨gb558, 0, none⟩) (Kd.R_types HO557.out BK558.out (by decide)) (fun _ hk => hk.2) (.int .i64 t551)) (fun _ hk => hk.2) (.slice Ao11 t552.length co11)) (fun _ h_ => h_.1))))) (below_size (zQ08ax7))); replace HO554 := Aside0.mk (Kd.R_elder' (by (with_reducible repeat (first | apply Kd.R_alloc | apply Kd.R_drewN | apply Kd.R_drew)); exact (Kd.R_mono (Kd.R_far (p := ⟨gb558, 1, none⟩) (Kd.R_far (p := ⟨gb558, 0, none⟩) (Kd.R_types HO554.out BK558.out (by decide)) (fun _ hk => hk.2) (.int .i64 t551)) (fun _ hk => hk.2) (.slice Ao11 t552.length co11)) (fun _ h_ => h_.1))) (Kd.R_base ho0) hb); replace HO557 := Aside0.mk (Kd.R_elder' (by (with_reducible repeat (first | apply Kd.R_alloc | apply Kd.R_drewN | apply Kd.R_drew)); exact (Kd.R_mono (Kd.R_far (p := ⟨gb558, 1, none⟩) (Kd.R_far (p := ⟨gb558, 0, none⟩) (Kd.R_types HO557.out BK558.out (by decide)) (fun _ hk => hk.2) (.int .i64 t551)) (fun _ hk => hk.2) (.slice Ao11 t552.length co11)) (fun _ h_ => h_.1))) (Kd.R_base ho0) hb); replace BK546 := Aside0.mk (blk_below (blkF BK546) hb); replace BK558 := Aside0.mk (blk_below (g := gb558) (o := .cells #[.int .i64 t551, .slice Ao11 t552.length co11] 26 (0, 0)) (by (with_reducible repeat (first | refine blk_drewN ?_ _ | refine blk_drew ?_ | refine blk_alloc ?_ _)); refine blk_put (cs := #[.int .i64 t551, .slice none 0 0]) ?_ 1 _ rfl; (with_reducible repeat (first | refine blk_drewN ?_ _ | refine blk_drew ?_ | refine blk_alloc ?_ _)); refine blk_put (cs := #[.int .i64 0, .slice none 0 0]) ?_ 0 _ rfl; (with_reducible repeat (first | refine blk_drewN ?_ _ | refine blk_drew ?_ | refine blk_alloc ?_ _)); exact BK558.out) hb); replace HB := Aside0.mk (below_step (zQ08ax7) hb); replace HI550 := Aside0.mk (IsS104.below (show IsS104 w ((w7.setCell ⟨gb558, 0, none⟩ (.int .i64 t551)).setCell ⟨gb558, 1, none⟩ (.slice Ao11 t552.length co11)) g550 t547 t548 t549 from zQ08ax8) hb); (try clear hb); (try clear hb2); (try clear hk); (try clear hi); (try clear hgw_); (try clear ho0)))
 (try simp only [Act.put, List.setIfInBounds_toArray, List.set_cons_zero, List.set_cons_succ])
 go_cut [26] (fun v26 wc => ∃ (kq : Nat) (x26_3 : Bool) (x551001_3 : Int) (x551002_3 : Int), v26 = .bool x26_3 ∧ Aside0 (spec_DrawAreSameTrace.j0 kq t555 t559 x26_3 t547 x551001_3 x551002_3 t551 t552 = some (r1, r2, r3, r4)) ∧ Aside0 (kq ≤ k) ∧ Aside0 (Kd.R (Kd.int .i64) 2 wc w.heap.size (fun k_ => some k_ ≠ (v560 : Value).ownBlock ∧ some k_ ≠ ((.slice Ao11 t552.length co11) : Value).ownBlock) (.slice Ao12 t555.length co12) t555) ∧ Aside0 (Kd.R (Kd.int .i64) 2 wc w.heap.size (fun k_ => some k_ ≠ ((.slice Ao12 t555.length co12) : Value).ownBlock ∧ some k_ ≠ ((.slice Ao11 t552.length co11) : Value).ownBlock) v560 t559) ∧ Aside0 (Kd.R (Kd.int .i64) 2 wc w.heap.size (fun k_ => some k_ ≠ ((.slice Ao12 t555.length co12) : Value).ownBlock ∧ some k_ ≠ (v560 : Value).ownBlock) (.slice Ao11 t552.length co11) t552) ∧ Aside0 (wc.heap[gb546]? = some (.cells #[.int .i64 0, (.slice none 0 0)] 26 (0, 0))) ∧ Aside0 (wc.heap[gb558]? = some (.cells #[.int .i64 t551, (.slice Ao11 t552.length co11)] 26 (0, 0))) ∧ Aside0 (IsS104 w wc g550 t547 x551001_3 x551002_3) ∧ Aside0 (Below w.heap.size w wc))
 case first =>
  have H := HC4.out; clear HC4; replace H := Option.bind_eq_some_iff.mp H; obtain ⟨t562, A140, H⟩ := H
  replace H : (if t562 = true then ((spec_l01Next.f t547 t548 t549 4).bind fun bt563 => (spec_DrawAreSameTrace.j0 k t555 t559 (decide (bt563.1 > 0)) t547 bt563.2.1 bt563.2.2 t551 t552)) else (spec_DrawAreSameTrace.j0 k t555 t559 false t547 t548 t549 t551 t552)) = some (r1, r2, r3, r4) := H
  have A14 := Aside0.mk A140; clear A140
  by_cases c15 : t562 = true
  ·subst c15
   have H1 : ((spec_l01Next.f t547 t548 t549 4).bind fun bt563 => (spec_DrawAreSameTrace.j0 k t555 t559 (decide (bt563.1 > 0)) t547 bt563.2.1 bt563.2.2 t551 t552)) = some (r1, r2, r3, r4) := by rw [if_pos rfl] at H; exact H
   clear H; have H := H1; clear H1; replace H := Option.bind_eq_some_iff.mp H
   obtain ⟨⟨t563, t564, t565⟩, A160, H⟩ := H
   replace H : (spec_DrawAreSameTrace.j0 k t555 t559 (decide (t563 > 0)) t547 t564 t565 t551 t552) = some (r1, r2, r3, r4) := H
   have A16 := Aside0.mk A160; clear A160
   have H' := Aside0.mk H
   clear H; have hnb17 := NB558_546.out; have hnc17 := NB546_558.out; have hnb18 := NB558_550.out; have hnc18 := NB550_558.out
   have hcz19_0 : w13.cell? ⟨gb558, 0, none⟩ = some (.int .i64 t551) := bc BK558 0
   have hcz19_1 : w13.cell? ⟨gb558, 1, none⟩ = some (.slice Ao11 t552.length co11) := bc BK558 1
   have hfz19_0 := blk_frozen BK558.out 0; have hfz19_1 := blk_frozen BK558.out 1
   go_wp2_with (first | ((with_reducible refine gate_callee (f := 67) rfl ?_); refine goesL_ (some 21) rfl rfl Tryd.func67 (by kernel_rfl) rfl #[.agg #[.int .i64 t551, .slice Ao11 t552.length co11], .slice Ao12 t555.length co12] rfl lz ?_; (with_reducible refine (spec_l03Is.calls k t551 _ _ t552 _ _ t555 true _ ?side1 ?side2 ?side3 ?side4 A14.out).mono ?_); (case side1 => have q_ := Aside0.mk (Kd.R_reads' HO554.out).2.2; exact cQ q_); (case side2 => exact (Kd.R_reads' HO554.out).2.1); (case side3 => have q_ := Aside0.mk (Kd.R_reads' HO557.out).2.2; exact cQ q_); (case side4 => exact (Kd.R_reads' HO557.out).2.1); rintro e w20 ⟨rfl, hb⟩; refine ⟨_, rfl, ?_⟩; replace HO554 := kb HO554 hb; replace HO557 := kb HO557 hb; replace HO561 := kb HO561 hb; replace BK546 := bb BK546 hb; replace BK558 := bb BK558 hb; replace HB := Aside0.mk (below_step (zQ08ax7) hb); replace HI550 := Aside0.mk (IsS104.below (zQ08ax8) hb); (try clear hb); (try clear hb2); (try clear hk); (try clear hi); (try clear hgw_)) | (go_at_call 68; (with_reducible refine (spec_l01Next.calls g550 t547 t548 t549 4 t563 t564 t565 w _ ?side1 ?side2 A16.out).mono ?_); (case side1 => exact zQ08ax8); (case side2 => exact zQ08ax7); rintro e w21 ⟨rfl, hi, hb, hk⟩; replace BK546 := Aside0.mk (KeepBut.blk hk (g' := gb546) (o := .cells #[.int .i64 0, .slice none 0 0] 26 (0, 0)) (blkQ BK546) NB546_550.out (by simp)); replace HO554 := Aside0.mk (Kd.R_mono (Kd.R_keep (IsS104.apart (show IsS104 w _ g550 t547 t548 t549 from zQ08ax8) (kdQ HO554) (by decide)) hk (fun _ h => h.2)) (fun _ h => h.1)); replace HO557 := Aside0.mk (Kd.R_mono (Kd.R_keep (IsS104.apart (show IsS104 w _ g550 t547 t548 t549 from zQ08ax8) (kdQ HO557) (by decide)) hk (fun _ h => h.2)) (fun _ h => h.1)); replace BK558 := Aside0.mk (KeepBut.blk hk (g' := gb558) (o := .cells #[.int .i64 t551, .slice Ao11 t552.length co11] 26 (0, 0)) (blkQ BK558) NB558_550.out (by simp)); replace HO561 := Aside0.mk (Kd.R_mono (Kd.R_keep (IsS104.apart (show IsS104 w _ g550 t547 t548 t549 from zQ08ax8) (kdQ HO561) (by decide)) hk (fun _ h => h.2)) (fun _ h => h.1)); replace HB := Aside0.mk (hb); replace HI550 := Aside0.mk (hi); (try clear hb); (try clear hb2); (try clear hk); (try clear hi); (try clear hgw_)))
   go_meet
   case rel => exact ⟨_, (decide (t563 > 0)), (t564), (t565), sz, H', ⟨by first | omega | exact Nat.le_refl _⟩, ⟨by (with_reducible repeat (first | apply Kd.R_alloc | apply Kd.R_drewN | apply Kd.R_drew)); exact Kd.R_mono HO557.out (fun _ hk => ⟨hk.2, hk.1⟩)⟩, ⟨by (with_reducible repeat (first | apply Kd.R_alloc | apply Kd.R_drewN | apply Kd.R_drew)); exact Kd.R_mono HO561.out (fun _ hk => ⟨hk.2, hk.1.2⟩)⟩, ⟨kdQ HO554⟩, ⟨blkQ BK546⟩, ⟨blkQ BK558⟩, ⟨zQ08ax8⟩, ⟨zQ08ax7⟩⟩
  ·replace c15 := Bool.eq_false_iff.mpr c15
   subst c15
   have H1 : (spec_DrawAreSameTrace.j0 k t555 t559 false t547 t548 t549 t551 t552) = some (r1, r2, r3, r4) := by rw [if_neg (show ¬ (false = true) by decide)] at H; exact H
   clear H; have H := H1; clear H1
   have H' := Aside0.mk H
   clear H; have hnb22 := NB558_546.out; have hnc22 := NB546_558.out; have hnb23 := NB558_550.out; have hnc23 := NB550_558.out
   have hcz24_0 : w13.cell? ⟨gb558, 0, none⟩ = some (.int .i64 t551) := bc BK558 0
   have hcz24_1 : w13.cell? ⟨gb558, 1, none⟩ = some (.slice Ao11 t552.length co11) := bc BK558 1
   have hfz24_0 := blk_frozen BK558.out 0; have hfz24_1 := blk_frozen BK558.out 1
   go_wp2_with (first | ((with_reducible refine gate_callee (f := 67) rfl ?_); refine goesL_ (some 21) rfl rfl Tryd.func67 (by kernel_rfl) rfl #[.agg #[.int .i64 t551, .slice Ao11 t552.length co11], .slice Ao12 t555.length co12] rfl lz ?_; (with_reducible refine (spec_l03Is.calls k t551 _ _ t552 _ _ t555 false _ ?side1 ?side2 ?side3 ?side4 A14.out).mono ?_); (case side1 => have q_ := Aside0.mk (Kd.R_reads' HO554.out).2.2; exact cQ q_); (case side2 => exact (Kd.R_reads' HO554.out).2.1); (case side3 => have q_ := Aside0.mk (Kd.R_reads' HO557.out).2.2; exact cQ q_); (case side4 => exact (Kd.R_reads' HO557.out).2.1); rintro e w25 ⟨rfl, hb⟩; refine ⟨_, rfl, ?_⟩; replace HO554 := kb HO554 hb; replace HO557 := kb HO557 hb; replace HO561 := kb HO561 hb; replace BK546 := bb BK546 hb; replace BK558 := bb BK558 hb; replace HB := Aside0.mk (below_step (zQ08ax7) hb); replace HI550 := Aside0.mk (IsS104.below (zQ08ax8) hb); (try clear hb); (try clear hb2); (try clear hk); (try clear hi); (try clear hgw_)))
   go_meet
   case rel => exact ⟨_, (false), (t548), (t549), sz, H', ⟨by first | omega | exact Nat.le_refl _⟩, ⟨by (with_reducible repeat (first | apply Kd.R_alloc | apply Kd.R_drewN | apply Kd.R_drew)); exact Kd.R_mono HO557.out (fun _ hk => ⟨hk.2, hk.1⟩)⟩, ⟨by (with_reducible repeat (first | apply Kd.R_alloc | apply Kd.R_drewN | apply Kd.R_drew)); exact Kd.R_mono HO561.out (fun _ hk => ⟨hk.2, hk.1.2⟩)⟩, ⟨kdQ HO554⟩, ⟨blkQ BK546⟩, ⟨blkQ BK558⟩, ⟨zQ08ax8⟩, ⟨zQ08ax7⟩⟩
 case rest =>
  clear HC4
  try clear c1
  try clear c2
  try clear p2
  try clear c5
  try clear c6
  try clear c8
  try clear c9
  try clear c15
  try clear c17
  try clear c18
  try clear c21
  try clear c22
  try clear c23
  try clear hcz10_0
  try clear hcz10_1
  try clear hcz19_0
  try clear hcz19_1
  try clear hcz24_0
  try clear hcz24_1
  try clear hfz10_0
  try clear hfz10_1
  try clear hfz19_0
  try clear hfz19_1
  try clear hfz24_0
  try clear hfz24_1
  obtain ⟨kq, x26_3, x551001_3, x551002_3, rfl, HA, HJ3, HO_7, HO_8, HO_559001, BK546, BK558, HI550, HB⟩ := hcut
  cases kq with
  | zero => exact absurd HA.out (by simp [spec_DrawAreSameTrace.j0])
  | succ kj3 =>
   have H := HA.out; clear HA
   simp only [spec_DrawAreSameTrace.j0] at H
   have HC26 := Aside0.mk H; clear H
   go_upto_if 26 with (fail)
   go_cut [8] (fun v8 wc => ∃ (kq : Nat) (x8_25 : List Int) (x551001_25 : Int) (x551002_25 : Int), Aside0 (spec_DrawAreSameTrace.j1 kq t555 x8_25 t547 x551001_25 x551002_25 t551 t552 = some (r1, r2, r3, r4)) ∧ Aside0 (kq ≤ kj3) ∧ Aside0 (Kd.R (Kd.int .i64) 2 wc w.heap.size (fun k_ => some k_ ≠ (v8 : Value).ownBlock ∧ some k_ ≠ ((.slice Ao11 t552.length co11) : Value).ownBlock) (.slice Ao12 t555.length co12) t555) ∧ Aside0 (Kd.R (Kd.int .i64) 2 wc w.heap.size (fun k_ => some k_ ≠ ((.slice Ao12 t555.length co12) : Value).ownBlock ∧ some k_ ≠ ((.slice Ao11 t552.length co11) : Value).ownBlock) v8 x8_25) ∧ Aside0 (Kd.R (Kd.int .i64) 2 wc w.heap.size (fun k_ => some k_ ≠ ((.slice Ao12 t555.length co12) : Value).ownBlock ∧ some k_ ≠ (v8 : Value).ownBlock) (.slice Ao11 t552.length co11) t552) ∧ Aside0 (wc.heap[gb546]? = some (.cells #[.int .i64 0, (.slice none 0 0)] 26 (0, 0))) ∧ Aside0 (wc.heap[gb558]? = some (.cells #[.int .i64 t551, (.slice Ao11 t552.length co11)] 26 (0, 0))) ∧ Aside0 (IsS104 w wc g550 t547 x551001_25 x551002_25) ∧ Aside0 (Below w.heap.size w wc))
   case first =>
    have H := HC26.out; clear HC26
    by_cases c27 : x26_3 = true
    ·subst c27
     have H1 : ((spec_l03Shuffle.f kj3 t547 x551001_3 x551002_3 t551 t552 t555).bind fun bt566 => (spec_DrawAreSameTrace.j1 kj3 t555 bt566.1 t547 bt566.2.1 bt566.2.2 t551 t552)) = some (r1, r2, r3, r4) := by rw [if_pos rfl] at H; exact H
     clear H; have H := H1; clear H1; replace H := Option.bind_eq_some_iff.mp H
     obtain ⟨⟨t566, t569, t570⟩, A280, H⟩ := H
     replace H : (spec_DrawAreSameTrace.j1 kj3 t555 t566 t547 t569 t570 t551 t552) = some (r1, r2, r3, r4) := H
     have A28 := Aside0.mk A280; clear A280
     have H' := Aside0.mk H
     clear H; have hnb29 := NB558_546.out; have hnc29 := NB546_558.out; have hnb30 := NB558_550.out; have hnc30 := NB550_558.out
     have hcz31_0 : wc.cell? ⟨gb558, 0, none⟩ = some (.int .i64 t551) := bc BK558 0
     have hcz31_1 : wc.cell? ⟨gb558, 1, none⟩ = some (.slice Ao11 t552.length co11) := bc BK558 1
     have hfz31_0 := blk_frozen BK558.out 0; have hfz31_1 := blk_frozen BK558.out 1
     go_wp2_with (first | ((with_reducible refine gate_callee (f := 69) rfl ?_); refine goesL_ (some 30) rfl rfl Tryd.func69 (by kernel_rfl) rfl #[.pointer (some ⟨g550, 0, none⟩), .agg #[.int .i64 t551, .slice Ao11 t552.length co11], .slice Ao12 t555.length co12] rfl lz ?_; (with_reducible refine (spec_l03Shuffle.calls kj3 g550 t547 x551001_3 x551002_3 t551 _ _ t552 _ _ t555 t566 t569 t570 w _ ?side1 ?side2 ?side3 ?side4 ?side5 ?side6 ?side7 ?side8 A28.out).mono ?_); (case side1 => exact zQ08ax8); (case side2 => exact zQ08ax7); (case side3 => have q_ := Aside0.mk (Kd.R_reads' HO_559001.out).2.2; exact cQ q_); (case side4 => exact (Kd.R_reads' HO_559001.out).2.1); (case side5 => exact far_slice (IsS104.own_ne HI550.out HO_559001.out (by decide))); (case side6 => have q_ := Aside0.mk (Kd.R_reads' HO_7.out).2.2; exact cQ q_); (case side7 => exact (Kd.R_reads' HO_7.out).2.1); (case side8 => exact far_slice (IsS104.own_ne HI550.out HO_7.out (by decide))); rintro e w32 ⟨v567, rfl, ho0, hi, hb, hk⟩; refine ⟨_, rfl, ?_⟩; replace BK546 := Aside0.mk (KeepBut.blk hk (g' := gb546) (o := .cells #[.int .i64 0, .slice none 0 0] 26 (0, 0)) (blkQ BK546) NB546_550.out (by simp)); replace BK558 := Aside0.mk (KeepBut.blk hk (g' := gb558) (o := .cells #[.int .i64 t551, .slice Ao11 t552.length co11] 26 (0, 0)) (blkQ BK558) NB558_550.out (by simp)); have HO568 := Aside0.mk (Kd.R_lower (Kd.R_new' (Kd.R_new' (Kd.R_new' ho0 (Kd.R_lt (kdQ HO_7))) (Kd.R_lt (kdQ HO_8))) (Kd.R_lt (kdQ HO_559001))) (below_size (zQ08ax7))); replace HO_7 := Aside0.mk (Kd.R_mono (Kd.R_told (Kd.R_oldK (IsS104.apart (show IsS104 w _ g550 t547 x551001_3 x551002_3 from zQ08ax8) (kdQ HO_7) (by decide)) hk) (Kd.R_base ho0)) (fun _ h_ => h_.1)); replace HO_8 := Aside0.mk (Kd.R_mono (Kd.R_told (Kd.R_oldK (IsS104.apart (show IsS104 w _ g550 t547 x551001_3 x551002_3 from zQ08ax8) (kdQ HO_8) (by decide)) hk) (Kd.R_base ho0)) (fun _ h_ => h_.1)); replace HO_559001 := Aside0.mk (Kd.R_mono (Kd.R_told (Kd.R_oldK (IsS104.apart (show IsS104 w _ g550 t547 x551001_3 x551002_3 from zQ08ax8) (kdQ HO_559001) (by decide)) hk) (Kd.R_base ho0)) (fun _ h_ => h_.1)); replace HB := Aside0.mk (hb); replace HI550 := Aside0.mk (hi); (try clear hb); (try clear hb2); (try clear hk); (try clear hi); (try clear hgw_); (try clear ho0)))
     go_meet
     case rel => exact ⟨_, (t566), (t569), (t570), H', ⟨by have := HJ3.out; first | omega | exact Nat.le_refl _⟩, ⟨by (with_reducible repeat (first | apply Kd.R_alloc | apply Kd.R_drewN | apply Kd.R_drew)); exact Kd.R_mono HO_7.out (fun _ hk => ⟨hk.2, hk.1.2⟩)⟩, ⟨by (with_reducible repeat (first | apply Kd.R_alloc | apply Kd.R_drewN | apply Kd.R_drew)); exact Kd.R_mono HO568.out (fun _ hk => ⟨hk.1.1.2, hk.2⟩)⟩, ⟨by (with_reducible repeat (first | apply Kd.R_alloc | apply Kd.R_drewN | apply Kd.R_drew)); exact Kd.R_mono HO_559001.out (fun _ hk => ⟨hk.1.1, hk.2⟩)⟩, ⟨blkQ BK546⟩, ⟨blkQ BK558⟩, ⟨zQ08ax8⟩, ⟨zQ08ax7⟩⟩
    ·replace c27 := Bool.eq_false_iff.mpr c27
     subst c27
     have H1 : (spec_DrawAreSameTrace.j1 kj3 t555 t559 t547 x551001_3 x551002_3 t551 t552) = some (r1, r2, r3, r4) := by rw [if_neg (show ¬ (false = true) by decide)] at H; exact H
     clear H; have H := H1; clear H1
     have H' := Aside0.mk H
     clear H
     go_wp2
     go_meet
     case rel => exact ⟨_, (t559), (x551001_3), (x551002_3), H', ⟨by have := HJ3.out; first | omega | exact Nat.le_refl _⟩, ⟨kdQ HO_7⟩, ⟨kdQ HO_8⟩, ⟨kdQ HO_559001⟩, ⟨blkQ BK546⟩, ⟨blkQ BK558⟩, ⟨zQ08ax8⟩, ⟨zQ08ax7⟩⟩
   case rest =>
    clear HC26
    try clear c1
    try clear c2
    try clear p2
    try clear c3
    try clear c5
    try clear c6
    try clear c8
    try clear c9
    try clear c15
    try clear c17
    try clear c18
    try clear c21
    try clear c22
    try clear c23
    try clear c27
    try clear c29
    try clear c30
    try clear hcz10_0
    try clear hcz10_1
    try clear hcz19_0
    try clear hcz19_1
    try clear hcz24_0
    try clear hcz24_1
    try clear hcz31_0
    try clear hcz31_1
    try clear hfz10_0
    try clear hfz10_1
    try clear hfz19_0
    try clear hfz19_1
    try clear hfz24_0
    try clear hfz24_1
    try clear hfz31_0
    try clear hfz31_1
    try clear p2
    obtain ⟨kq, x8_25, x551001_25, x551002_25, HA, HJ25, HO_7, HO_8, HO_559001, BK546, BK558, HI550, HB⟩ := hcut
    cases kq with
    | zero => exact absurd HA.out (by simp [spec_DrawAreSameTrace.j1])
    | succ kj25 =>
     have H := HA.out; clear HA
     simp only [spec_DrawAreSameTrace.j1] at H
     by_cases c33 : (x8_25.length : Int) > 1
     ·rw [if_pos c33] at H
      have c33b0 : decide (1 < (x8_25.length : Int)) = true := decide_eq_true c33
      have c33b1 : decide (1 < x8_25.length) = true := decide_eq_true (by omega)
      clear c33; replace H := Option.bind_eq_some_iff.mp H
      obtain ⟨⟨t571, t572, t573⟩, A340, H⟩ := H
      replace H : (if t571 = 0 then ((spec_l01Next.f t547 t572 t573 (wrap64 ((x8_25.length : Int) - 1))).bind fun bt574 => (if 0 ≤ bt574.1 then (if bt574.1 < (x8_25.length : Int) then (if 0 ≤ (wrap64 (bt574.1 + 1)) then (if (wrap64 (bt574.1 + 1)) < (x8_25.length : Int) then (some (t551, t552, t555, ((x8_25.set (bt574.1 : Int).toNat (rd x8_25 (wrap64 (bt574.1 + 1)))).set ((wrap64 (bt574.1 + 1)) : Int).toNat (rd x8_25 bt574.1)))) else (none)) else (none)) else (none)) else (none))) else (some (t551, t552, t555, x8_25))) = some (r1, r2, r3, r4) := H
      have A34 := Aside0.mk A340; clear A340
      by_cases c35 : t571 = 0
      ·rw [if_pos c35] at H
       have c35b0 : (t571 == 0) = true := beq_iff_eq.mpr c35
       have c35b1 : (t571 != 0) = false := bne_eq_false_iff_eq.mpr c35
       clear c35; replace H := Option.bind_eq_some_iff.mp H
       obtain ⟨⟨t574, t575, t576⟩, A360, H⟩ := H
       replace H : (if 0 ≤ t574 then (if t574 < (x8_25.length : Int) then (if 0 ≤ (wrap64 (t574 + 1)) then (if (wrap64 (t574 + 1)) < (x8_25.length : Int) then (some (t551, t552, t555, ((x8_25.set (t574 : Int).toNat (rd x8_25 (wrap64 (t574 + 1)))).set ((wrap64 (t574 + 1)) : Int).toNat (rd x8_25 t574)))) else (none)) else (none)) else (none)) else (none)) = some (r1, r2, r3, r4) := H
       have A36 := Aside0.mk A360; clear A360
       by_cases c37 : 0 ≤ t574
       ·rw [if_pos c37] at H
        have c37b0 : decide (0 ≤ t574) = true := decide_eq_true c37
        clear c37
        by_cases c38 : t574 < (x8_25.length : Int)
        ·rw [if_pos c38] at H
         have c38b0 : decide (t574 < (x8_25.length : Int)) = true := decide_eq_true c38
         clear c38
         obtain ⟨ji39, hji39⟩ : ∃ j_ : Int, (wrap64 (t574 + 1)) = j_ := ⟨_, rfl⟩
         replace H : (if 0 ≤ (ji39) then (if (ji39) < (x8_25.length : Int) then (some (t551, t552, t555, ((x8_25.set (t574 : Int).toNat (rd x8_25 (ji39))).set ((ji39) : Int).toNat (rd x8_25 t574)))) else (none)) else (none)) = some (r1, r2, r3, r4) := by first | (rw [hji39] at H; exact H) | (simp only [hji39] at H ⊢; exact H)
         (try rw [hji39] at A34)
         (try rw [hji39] at A36)
         have hji39w : (IntKind.i64.wrap (t574 + 1)) = ji39 := (i64_w _).trans hji39
         by_cases c40 : 0 ≤ (ji39)
         ·rw [if_pos c40] at H
          have c40b0 : decide (0 ≤ (ji39)) = true := decide_eq_true c40
          clear c40
          by_cases c41 : (ji39) < (x8_25.length : Int)
          ·rw [if_pos c41] at H
           have c41b0 : decide ((ji39) < (x8_25.length : Int)) = true := decide_eq_true c41
           clear c41
           obtain ⟨y579, hy579⟩ : ∃ y_ : List Int, y_ = (x8_25.set (t574 : Int).toNat (rd x8_25 (ji39))) := ⟨_, rfl⟩
           replace H : (some (t551, t552, t555, (y579.set ((ji39) : Int).toNat (rd x8_25 t574)))) = some (r1, r2, r3, r4) := by first | (rw [hy579]; with_reducible exact H) | (have H2_ := (Option.bind_some _ _).symm.trans H; rw [hy579]; with_reducible exact H2_) | (have H2_ := (Option.bind_some _ _).symm.trans H; with_reducible exact H2_) | with_reducible exact H | (rw [hy579]; exact H) | exact H
           have Ny579 := Aside0.mk hy579; clear hy579
           obtain ⟨y580, hy580⟩ : ∃ y_ : List Int, y_ = (y579.set ((ji39) : Int).toNat (rd x8_25 t574)) := ⟨_, rfl⟩
           replace H : (some (t551, t552, t555, y580)) = some (r1, r2, r3, r4) := by first | (rw [hy580]; with_reducible exact H) | (have H2_ := (Option.bind_some _ _).symm.trans H; rw [hy580]; with_reducible exact H2_) | (have H2_ := (Option.bind_some _ _).symm.trans H; with_reducible exact H2_) | with_reducible exact H | (rw [hy580]; exact H) | exact H
           have Ny580 := Aside0.mk hy580; clear hy580
           simp only [Option.some.injEq, Prod.mk.injEq] at H
           obtain ⟨rfl, rfl, rfl, rfl⟩ := H; obtain ⟨Ao44, co44, eo44⟩ := Kd.R_slice HO_8.out; subst eo44
           go_wp2_with (first | (go_at_call 68; (with_reducible refine (spec_l01Next.calls g550 t547 x551001_25 x551002_25 3 t571 t572 t573 w _ ?side1 ?side2 A34.out).mono ?_); (case side1 => exact zQ08ax8); (case side2 => exact zQ08ax7); rintro e w45 ⟨rfl, hi, hb, hk⟩; replace HO_7 := Aside0.mk (Kd.R_mono (Kd.R_keep (IsS104.apart (show IsS104 w _ g550 t547 x551001_25 x551002_25 from zQ08ax8) (kdQ HO_7) (by decide)) hk (fun _ h => h.2)) (fun _ h => h.1)); replace HO_8 := Aside0.mk (Kd.R_mono (Kd.R_keep (IsS104.apart (show IsS104 w _ g550 t547 x551001_25 x551002_25 from zQ08ax8) (kdQ HO_8) (by decide)) hk (fun _ h => h.2)) (fun _ h => h.1)); replace HO_559001 := Aside0.mk (Kd.R_mono (Kd.R_keep (IsS104.apart (show IsS104 w _ g550 t547 x551001_25 x551002_25 from zQ08ax8) (kdQ HO_559001) (by decide)) hk (fun _ h => h.2)) (fun _ h => h.1)); replace BK546 := Aside0.mk (KeepBut.blk hk (g' := gb546) (o := .cells #[.int .i64 0, .slice none 0 0] 26 (0, 0)) (blkQ BK546) NB546_550.out (by simp)); replace BK558 := Aside0.mk (KeepBut.blk hk (g' := gb558) (o := .cells #[.int .i64 t551, .slice Ao11 t552.length co11] 26 (0, 0)) (blkQ BK558) NB558_550.out (by simp)); replace HB := Aside0.mk (hb); replace HI550 := Aside0.mk (hi); (try clear hb); (try clear hb2); (try clear hk); (try clear hi); (try clear hgw_)) | ((with_reducible refine gate_callee (f := 68) rfl ?_); refine goesL_ (some 43) rfl rfl Tryd.func68 (by kernel_rfl) rfl #[.pointer (some ⟨g550, 0, none⟩), .int .i64 (wrap64 ((x8_25.length : Int) - 1))] rfl lz ?_; (with_reducible refine (spec_l01Next.calls g550 t547 t572 t573 (wrap64 ((x8_25.length : Int) - 1)) t574 t575 t576 w _ ?side1 ?side2 A36.out).mono ?_); (case side1 => exact zQ08ax8); (case side2 => exact zQ08ax7); rintro e w46 ⟨rfl, hi, hb, hk⟩; refine ⟨_, rfl, ?_⟩; replace HO_7 := Aside0.mk (Kd.R_mono (Kd.R_keep (IsS104.apart (show IsS104 w _ g550 t547 t572 t573 from zQ08ax8) (kdQ HO_7) (by decide)) hk (fun _ h => h.2)) (fun _ h => h.1)); replace HO_8 := Aside0.mk (Kd.R_mono (Kd.R_keep (IsS104.apart (show IsS104 w _ g550 t547 t572 t573 from zQ08ax8) (kdQ HO_8) (by decide)) hk (fun _ h => h.2)) (fun _ h => h.1)); replace HO_559001 := Aside0.mk (Kd.R_mono (Kd.R_keep (IsS104.apart (show IsS104 w _ g550 t547 t572 t573 from zQ08ax8) (kdQ HO_559001) (by decide)) hk (fun _ h => h.2)) (fun _ h => h.1)); replace BK546 := Aside0.mk (KeepBut.blk hk (g' := gb546) (o := .cells #[.int .i64 0, .slice none 0 0] 26 (0, 0)) (blkQ BK546) NB546_550.out (by simp)); replace BK558 := Aside0.mk (KeepBut.blk hk (g' := gb558) (o := .cells #[.int .i64 t551, .slice Ao11 t552.length co11] 26 (0, 0)) (blkQ BK558) NB558_550.out (by simp)); replace HB := Aside0.mk (hb); replace HI550 := Aside0.mk (hi); (try clear hb); (try clear hb2); (try clear hk); (try clear hi); (try clear hgw_); have p577 : 0 ≤ (t574 : Int) := of_decide_eq_true (by first | (with_reducible assumption) | assumption); have q577 : t574 < (x8_25.length : Int) := of_decide_eq_true (by first | (with_reducible assumption) | assumption); obtain ⟨ad577, e577, hx577_0⟩ := Kd.at_int (Kd.R_reads' HO_8.out).2.2 t574 p577 q577; cases e577; replace p577 := eq_true p577; replace q577 := eq_true q577; have p578 : 0 ≤ ((ji39) : Int) := of_decide_eq_true (by first | (with_reducible assumption) | assumption); have q578 : (ji39) < (x8_25.length : Int) := of_decide_eq_true (by first | (with_reducible assumption) | assumption); obtain ⟨ad578, e578, hx578_0⟩ := Kd.at_int (Kd.R_reads' HO_8.out).2.2 (ji39) p578 q578; obtain rfl : ad577 = ad578 := (by injection e578); replace p578 := eq_true p578; replace q578 := eq_true q578; have p42 : 0 ≤ (t574 : Int) := of_decide_eq_true (by first | (with_reducible assumption) | assumption); have q42 : (t574 : Int) < ((x8_25.length : Int) : Int) := of_decide_eq_true (by first | (with_reducible assumption) | assumption); obtain ⟨go42, co42, eo42, gb42, gl42, cl42, HG42⟩ := Kd.R_form HO_8.out (by omega); (first | cases eo42 | (injection eo42 with ea_ en_ ec_; (first | subst ea_ | (injection ea_ with ea_; subst ea_)); subst ec_; clear en_)); have GB42 := Aside0.mk gb42; have GG42 := Aside0.mk HG42; clear gb42 gl42 HG42; (first | simp only [add_plain] at hx577_0 | skip); (first | simp only [add_plain] at hx578_0 | skip); obtain ⟨hx42_0, hf42_0⟩ := Kd.R_celln 0 HO_8.out (t574 : Int) p42 q42; replace p42 := eq_true p42; replace q42 := eq_true q42; obtain ⟨hy47_, hz47_⟩ := Kd.R_celln 0 HO_8.out (t574 : Int) (of_decide_eq_true (by first | (with_reducible assumption) | assumption)) (of_decide_eq_true (by first | (with_reducible assumption) | assumption)); have HP47 := Kd.R_putg HO_8.out (t574 : Int) (rd x8_25 (ji39))) | ((with_reducible refine gate_store (t := 2) (p := 55) rfl ?_); refine store_event (t := 2) (p := 55) (v := ?vo_w48) (w1 := (w46.setCell ⟨go42, (t574 : Int).toNat, none⟩ (.int .i64 (rd x8_25 (ji39))))) ?hg ?ho ?hn ?hr ?_; (case ho => rfl); (case hg => rfl); (case hn => rfl); (case hr => first | (go_simp; done) | (go_simp; rfl)); intro w48 hw; have hg : w46.grownBy w48 (some go42) := (by rw [hw]; exact HP47.2); have hp_ : Kd.R (Kd.int .i64) 2 w48 w.heap.size (fun k_ => some k_ ≠ (.slice Ao12 t555.length co12 : Value).ownBlock ∧ some k_ ≠ (.slice Ao11 t552.length co11 : Value).ownBlock) (.slice (some ⟨go42, 0, none⟩) x8_25.length co44) y579 := (by rw [hw, Ny579.out]; exact HP47.1); clear HP47; replace HO_7 := Aside0.mk (Kd.R_after (v := (.slice (some ⟨go42, 0, none⟩) x8_25.length co44)) (v1 := (.slice (some ⟨go42, 0, none⟩) x8_25.length co44)) (ok := (fun k_ => some k_ ≠ (.slice Ao11 t552.length co11 : Value).ownBlock)) (by (with_reducible repeat (first | apply Kd.R_alloc | apply Kd.R_drewN | apply Kd.R_drew)); exact Kd.R_mono HO_7.out (fun _ hk => ⟨hk.2, hk.1⟩)) hg (.inl rfl)); replace HO_559001 := Aside0.mk (Kd.R_after (v := (.slice (some ⟨go42, 0, none⟩) x8_25.length co44)) (v1 := (.slice (some ⟨go42, 0, none⟩) x8_25.length co44)) (ok := (fun k_ => some k_ ≠ (.slice Ao12 t555.length co12 : Value).ownBlock)) (kdQ HO_559001) hg (.inl rfl)); replace BK546 := Aside0.mk (blk_grown (g := gb546) (o := .cells #[.int .i64 0, .slice none 0 0] 26 (0, 0)) (blkQ BK546) hg (Kd.R_ne HO_8.out BK546.out (by decide))); replace BK558 := Aside0.mk (blk_grown (g := gb558) (o := .cells #[.int .i64 t551, .slice Ao11 t552.length co11] 26 (0, 0)) (blkQ BK558) hg (Kd.R_ne HO_8.out BK558.out (by decide))); replace HI550 := Aside0.mk (IsS104.grown (zQ08ax8) hg (IsS104.own_ne HI550.out HO_8.out (by decide))); replace HO_8 := Aside0.mk (hp_); replace HB := Aside0.mk ((by rw [hw]; exact below_set (HB.out) GB42.out : Below w.heap.size w w48)); clear hg hw hp_; have p43 : 0 ≤ ((ji39) : Int) := of_decide_eq_true (by first | (with_reducible assumption) | assumption); have q43 : ((ji39) : Int) < ((x8_25.length : Int) : Int) := of_decide_eq_true (by first | (with_reducible assumption) | assumption); obtain ⟨hx43_0, hf43_0⟩ := Kd.R_celln 0 HO_8.out ((ji39) : Int) p43 q43; replace p43 := eq_true p43; replace q43 := eq_true q43; obtain ⟨hy49_, hz49_⟩ := Kd.R_celln 0 HO_8.out ((ji39) : Int) (of_decide_eq_true (by first | (with_reducible assumption) | assumption)) (of_decide_eq_true (by first | (with_reducible assumption) | assumption)); have HP49 := Kd.R_putg HO_8.out ((ji39) : Int) (rd x8_25 t574)) | ((with_reducible refine gate_store (t := 2) (p := 60) rfl ?_); refine store_event (t := 2) (p := 60) (v := ?vo_w50) (w1 := (w48.setCell ⟨go42, ((ji39) : Int).toNat, none⟩ (.int .i64 (rd x8_25 t574)))) ?hg ?ho ?hn ?hr ?_; (case ho => rfl); (case hg => rfl); (case hn => rfl); (case hr => first | (go_simp; done) | (go_simp; rfl)); intro w50 hw; have hg : w48.grownBy w50 (some go42) := (by rw [hw]; exact HP49.2); have hp_ : Kd.R (Kd.int .i64) 2 w50 w.heap.size (fun k_ => some k_ ≠ (.slice Ao12 t555.length co12 : Value).ownBlock ∧ some k_ ≠ (.slice Ao11 t552.length co11 : Value).ownBlock) (.slice (some ⟨go42, 0, none⟩) x8_25.length co44) y580 := (by rw [hw, Ny580.out]; exact HP49.1); clear HP49; replace HO_7 := Aside0.mk (Kd.R_after (v := (.slice (some ⟨go42, 0, none⟩) x8_25.length co44)) (v1 := (.slice (some ⟨go42, 0, none⟩) x8_25.length co44)) (ok := (fun k_ => some k_ ≠ (.slice Ao11 t552.length co11 : Value).ownBlock)) (kdQ HO_7) hg (.inl rfl)); replace HO_559001 := Aside0.mk (Kd.R_after (v := (.slice (some ⟨go42, 0, none⟩) x8_25.length co44)) (v1 := (.slice (some ⟨go42, 0, none⟩) x8_25.length co44)) (ok := (fun k_ => some k_ ≠ (.slice Ao12 t555.length co12 : Value).ownBlock)) (kdQ HO_559001) hg (.inl rfl)); replace BK546 := Aside0.mk (blk_grown (g := gb546) (o := .cells #[.int .i64 0, .slice none 0 0] 26 (0, 0)) (blkQ BK546) hg (Kd.R_ne HO_8.out BK546.out (by decide))); replace BK558 := Aside0.mk (blk_grown (g := gb558) (o := .cells #[.int .i64 t551, .slice Ao11 t552.length co11] 26 (0, 0)) (blkQ BK558) hg (Kd.R_ne HO_8.out BK558.out (by decide))); replace HI550 := Aside0.mk (IsS104.grown (zQ08ax8) hg (IsS104.own_ne HI550.out HO_8.out (by decide))); replace HO_8 := Aside0.mk (hp_); replace HB := Aside0.mk ((by rw [hw]; exact below_set (HB.out) GB42.out : Below w.heap.size w w50)); clear hg hw hp_; have hnb51 := NB558_546.out; have hnc51 := NB546_558.out; have hnb52 := NB558_550.out; have hnc52 := NB550_558.out; have hcz53_0 : w50.cell? ⟨gb558, 0, none⟩ = some (.int .i64 t551) := bc BK558 0; have hcz53_1 : w50.cell? ⟨gb558, 1, none⟩ = some (.slice Ao11 t552.length co11) := bc BK558 1; have hfz53_0 := blk_frozen BK558.out 0; have hfz53_1 := blk_frozen BK558.out 1; have hnb54 := NB546_550.out; have hnc54 := NB550_546.out; have hcz55_0 : w50.cell? ⟨gb546, 0, none⟩ = some (.int .i64 0) := bc BK546 0; have hcz55_1 : w50.cell? ⟨gb546, 1, none⟩ = some (.slice none 0 0) := bc BK546 1; have hfz55_0 := blk_frozen BK546.out 0; have hfz55_1 := blk_frozen BK546.out 1))
           refine bodyPost_ret (results_ctt rfl _ _ gb546 26 #[.int .i64 t551, .slice Ao11 t552.length co11] (0, 0) _ rfl (by (with_reducible repeat (first | refine blk_drewN ?_ _ | refine blk_drew ?_ | refine blk_alloc ?_ _)); refine blk_put (cs := #[.int .i64 t551, .slice none 0 0]) ?_ 1 _ rfl; (with_reducible repeat (first | refine blk_drewN ?_ _ | refine blk_drew ?_ | refine blk_alloc ?_ _)); refine blk_put (cs := #[.int .i64 0, .slice none 0 0]) ?_ 0 _ rfl; (with_reducible repeat (first | refine blk_drewN ?_ _ | refine blk_drew ?_ | refine blk_alloc ?_ _)); exact BK546.out) Tryd.underlying26 rfl (by kernel_rfl)) rfl ?_
           exact ⟨_, _, _, by first | rfl | (simp [errW_none, errW_some] <;> rfl) | (simp only [← hji39]; first | rfl | (simp [errW_none, errW_some] <;> rfl)) | (simp [*, errW_none, errW_some] <;> rfl), by (with_reducible repeat (first | apply Kd.R_alloc | apply Kd.R_drewN | apply Kd.R_drew)); exact Kd.R_mono (Kd.R_far (p := ⟨gb546, 1, none⟩) (Kd.R_far (p := ⟨gb546, 0, none⟩) (Kd.R_types HO_559001.out BK546.out (by decide)) (fun _ hk => hk.2) (.int .i64 t551)) (fun _ hk => hk.2) (.slice Ao11 t552.length co11)) (fun _ hk => ⟨hk.1.1, hk.1.2⟩), by (with_reducible repeat (first | apply Kd.R_alloc | apply Kd.R_drewN | apply Kd.R_drew)); exact Kd.R_mono (Kd.R_far (p := ⟨gb546, 1, none⟩) (Kd.R_far (p := ⟨gb546, 0, none⟩) (Kd.R_types HO_7.out BK546.out (by decide)) (fun _ hk => hk.2) (.int .i64 t551)) (fun _ hk => hk.2) (.slice Ao11 t552.length co11)) (fun _ hk => ⟨hk.1.1, hk.1.2⟩), by (with_reducible repeat (first | apply Kd.R_alloc | apply Kd.R_drewN | apply Kd.R_drew)); exact Kd.R_mono (Kd.R_far (p := ⟨gb546, 1, none⟩) (Kd.R_far (p := ⟨gb546, 0, none⟩) (Kd.R_types HO_8.out BK546.out (by decide)) (fun _ hk => hk.2) (.int .i64 t551)) (fun _ hk => hk.2) (.slice Ao11 t552.length co11)) (fun _ hk => ⟨hk.1.2, hk.1.1⟩), zQ08ax7⟩
          ·rw [if_neg c41] at H
           exact absurd H (by simp)
         ·rw [if_neg c40] at H
          exact absurd H (by simp)
        ·rw [if_neg c38] at H
         exact absurd H (by simp)
       ·rw [if_neg c37] at H
        exact absurd H (by simp)
      ·rw [if_neg c35] at H
       have c35b0 : (t571 == 0) = false := beq_eq_false_iff_ne.mpr c35
       have c35b1 : (t571 != 0) = true := bne_iff_ne.mpr c35
       simp only [Option.some.injEq, Prod.mk.injEq] at H
       obtain ⟨rfl, rfl, rfl, rfl⟩ := H; obtain ⟨Ao56, co56, eo56⟩ := Kd.R_slice HO_8.out; subst eo56
       go_wp2_with (first | (go_at_call 68; (with_reducible refine (spec_l01Next.calls g550 t547 x551001_25 x551002_25 3 t571 t572 t573 w _ ?side1 ?side2 A34.out).mono ?_); (case side1 => exact zQ08ax8); (case side2 => exact zQ08ax7); rintro e w57 ⟨rfl, hi, hb, hk⟩; replace HO_7 := Aside0.mk (Kd.R_mono (Kd.R_keep (IsS104.apart (show IsS104 w _ g550 t547 x551001_25 x551002_25 from zQ08ax8) (kdQ HO_7) (by decide)) hk (fun _ h => h.2)) (fun _ h => h.1)); replace HO_8 := Aside0.mk (Kd.R_mono (Kd.R_keep (IsS104.apart (show IsS104 w _ g550 t547 x551001_25 x551002_25 from zQ08ax8) (kdQ HO_8) (by decide)) hk (fun _ h => h.2)) (fun _ h => h.1)); replace HO_559001 := Aside0.mk (Kd.R_mono (Kd.R_keep (IsS104.apart (show IsS104 w _ g550 t547 x551001_25 x551002_25 from zQ08ax8) (kdQ HO_559001) (by decide)) hk (fun _ h => h.2)) (fun _ h => h.1)); replace BK546 := Aside0.mk (KeepBut.blk hk (g' := gb546) (o := .cells #[.int .i64 0, .slice none 0 0] 26 (0, 0)) (blkQ BK546) NB546_550.out (by simp)); replace BK558 := Aside0.mk (KeepBut.blk hk (g' := gb558) (o := .cells #[.int .i64 t551, .slice Ao11 t552.length co11] 26 (0, 0)) (blkQ BK558) NB558_550.out (by simp)); replace HB := Aside0.mk (hb); replace HI550 := Aside0.mk (hi); (try clear hb); (try clear hb2); (try clear hk); (try clear hi); (try clear hgw_); have hnb58 := NB558_546.out; have hnc58 := NB546_558.out; have hnb59 := NB558_550.out; have hnc59 := NB550_558.out; have hcz60_0 : w57.cell? ⟨gb558, 0, none⟩ = some (.int .i64 t551) := bc BK558 0; have hcz60_1 : w57.cell? ⟨gb558, 1, none⟩ = some (.slice Ao11 t552.length co11) := bc BK558 1; have hfz60_0 := blk_frozen BK558.out 0; have hfz60_1 := blk_frozen BK558.out 1; have hnb61 := NB546_550.out; have hnc61 := NB550_546.out; have hcz62_0 : w57.cell? ⟨gb546, 0, none⟩ = some (.int .i64 0) := bc BK546 0; have hcz62_1 : w57.cell? ⟨gb546, 1, none⟩ = some (.slice none 0 0) := bc BK546 1; have hfz62_0 := blk_frozen BK546.out 0; have hfz62_1 := blk_frozen BK546.out 1))
       refine bodyPost_ret (results_ctt rfl _ _ gb546 26 #[.int .i64 t551, .slice Ao11 t552.length co11] (0, 0) _ rfl (by (with_reducible repeat (first | refine blk_drewN ?_ _ | refine blk_drew ?_ | refine blk_alloc ?_ _)); refine blk_put (cs := #[.int .i64 t551, .slice none 0 0]) ?_ 1 _ rfl; (with_reducible repeat (first | refine blk_drewN ?_ _ | refine blk_drew ?_ | refine blk_alloc ?_ _)); refine blk_put (cs := #[.int .i64 0, .slice none 0 0]) ?_ 0 _ rfl; (with_reducible repeat (first | refine blk_drewN ?_ _ | refine blk_drew ?_ | refine blk_alloc ?_ _)); exact BK546.out) Tryd.underlying26 rfl (by kernel_rfl)) rfl ?_
       exact ⟨_, _, _, rz, by (with_reducible repeat (first | apply Kd.R_alloc | apply Kd.R_drewN | apply Kd.R_drew)); exact Kd.R_mono (Kd.R_far (p := ⟨gb546, 1, none⟩) (Kd.R_far (p := ⟨gb546, 0, none⟩) (Kd.R_types HO_559001.out BK546.out (by decide)) (fun _ hk => hk.2) (.int .i64 t551)) (fun _ hk => hk.2) (.slice Ao11 t552.length co11)) (fun _ hk => ⟨hk.1.1, hk.1.2⟩), by (with_reducible repeat (first | apply Kd.R_alloc | apply Kd.R_drewN | apply Kd.R_drew)); exact Kd.R_mono (Kd.R_far (p := ⟨gb546, 1, none⟩) (Kd.R_far (p := ⟨gb546, 0, none⟩) (Kd.R_types HO_7.out BK546.out (by decide)) (fun _ hk => hk.2) (.int .i64 t551)) (fun _ hk => hk.2) (.slice Ao11 t552.length co11)) (fun _ hk => ⟨hk.1.2, hk.1.1⟩), by (with_reducible repeat (first | apply Kd.R_alloc | apply Kd.R_drewN | apply Kd.R_drew)); exact Kd.R_mono (Kd.R_far (p := ⟨gb546, 1, none⟩) (Kd.R_far (p := ⟨gb546, 0, none⟩) (Kd.R_types HO_8.out BK546.out (by decide)) (fun _ hk => hk.2) (.int .i64 t551)) (fun _ hk => hk.2) (.slice Ao11 t552.length co11)) (fun _ hk => ⟨hk.1.2, hk.1.1⟩), zQ08ax7⟩
     ·rw [if_neg c33] at H
      have c33b0 : decide (1 < (x8_25.length : Int)) = false := decide_eq_false c33
      have c33b1 : decide (1 < x8_25.length) = false := decide_eq_false (by omega)
      clear c33
      simp only [Option.some.injEq, Prod.mk.injEq] at H
      obtain ⟨rfl, rfl, rfl, rfl⟩ := H; obtain ⟨Ao63, co63, eo63⟩ := Kd.R_slice HO_8.out; subst eo63; have hnb64 := NB558_546.out; have hnc64 := NB546_558.out; have hnb65 := NB558_550.out; have hnc65 := NB550_558.out
      have hcz66_0 : wc.cell? ⟨gb558, 0, none⟩ = some (.int .i64 t551) := bc BK558 0
      have hcz66_1 : wc.cell? ⟨gb558, 1, none⟩ = some (.slice Ao11 t552.length co11) := bc BK558 1
      have hfz66_0 := blk_frozen BK558.out 0; have hfz66_1 := blk_frozen BK558.out 1; have hnb67 := NB546_550.out; have hnc67 := NB550_546.out
      have hcz68_0 : wc.cell? ⟨gb546, 0, none⟩ = some (.int .i64 0) := bc BK546 0
      have hcz68_1 : wc.cell? ⟨gb546, 1, none⟩ = some (.slice none 0 0) := bc BK546 1
      have hfz68_0 := blk_frozen BK546.out 0; have hfz68_1 := blk_frozen BK546.out 1
      go_wp2
      refine bodyPost_ret (results_ctt rfl _ _ gb546 26 #[.int .i64 t551, .slice Ao11 t552.length co11] (0, 0) _ rfl (by (with_reducible repeat (first | refine blk_drewN ?_ _ | refine blk_drew ?_ | refine blk_alloc ?_ _)); refine blk_put (cs := #[.int .i64 t551, .slice none 0 0]) ?_ 1 _ rfl; (with_reducible repeat (first | refine blk_drewN ?_ _ | refine blk_drew ?_ | refine blk_alloc ?_ _)); refine blk_put (cs := #[.int .i64 0, .slice none 0 0]) ?_ 0 _ rfl; (with_reducible repeat (first | refine blk_drewN ?_ _ | refine blk_drew ?_ | refine blk_alloc ?_ _)); exact BK546.out) Tryd.underlying26 rfl (by kernel_rfl)) rfl ?_
      exact ⟨_, _, _, rz, by (with_reducible repeat (first | apply Kd.R_alloc | apply Kd.R_drewN | apply Kd.R_drew)); exact Kd.R_mono (Kd.R_far (p := ⟨gb546, 1, none⟩) (Kd.R_far (p := ⟨gb546, 0, none⟩) (Kd.R_types HO_559001.out BK546.out (by decide)) (fun _ hk => hk.2) (.int .i64 t551)) (fun _ hk => hk.2) (.slice Ao11 t552.length co11)) (fun _ hk => ⟨hk.1.1, hk.1.2⟩), by (with_reducible repeat (first | apply Kd.R_alloc | apply Kd.R_drewN | apply Kd.R_drew)); exact Kd.R_mono (Kd.R_far (p := ⟨gb546, 1, none⟩) (Kd.R_far (p := ⟨gb546, 0, none⟩) (Kd.R_types HO_7.out BK546.out (by decide)) (fun _ hk => hk.2) (.int .i64 t551)) (fun _ hk => hk.2) (.slice Ao11 t552.length co11)) (fun _ hk => ⟨hk.1.2, hk.1.1⟩), by (with_reducible repeat (first | apply Kd.R_alloc | apply Kd.R_drewN | apply Kd.R_drew)); exact Kd.R_mono (Kd.R_far (p := ⟨gb546, 1, none⟩) (Kd.R_far (p := ⟨gb546, 0, none⟩) (Kd.R_types HO_8.out BK546.out (by decide)) (fun _ hk => hk.2) (.int .i64 t551)) (fun _ hk => hk.2) (.slice Ao11 t552.length co11)) (fun _ hk => ⟨hk.1.2, hk.1.1⟩), zQ08ax7⟩
end Go.Proofs.YtleeihpmniabhaaDoor.G
