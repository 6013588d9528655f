-- A copy, with what one law needs, of a text that print.sh or a program of ours wrote
import Derived.Test.YtbhkpfkkjknmlaaDoorZ1G0
import Derived.Test.YtbhkpfkkjknmlaaDoorZ1GQ01a
namespace Go.Proofs.YtbhkpfkkjknmlaaDoor.G
open Go.RowKit Go.Proofs.YtbhkpfkkjknmlaaDoorW.PrintWords Go.Proofs.YtbhkpfkkjknmlaaDoorW.PrintLast Go.Proofs.YtbhkpfkkjknmlaaDoorW.PrintMore
theorem zQ04cx0 {p : Prop} (h : p := by repeat (first | (with_reducible first | exact HK.out | apply Kept.alloc | apply Kept.drewN | apply Kept.drew) | exact HK.out)) : p := h
theorem zQ04cx1 {p : Prop} (h : p := by repeat (first | (with_reducible first | exact HK.out | apply Kept.alloc | apply Kept.drewN | apply Kept.drew | refine Kept.setCell ?_ HMgo7.out _ | refine Kept.setCell ?_ (.inr GW292.out) _) | exact HK.out)) : p := h
theorem zQ04cx2 {p : Prop} (h : p := by repeat (first | (with_reducible first | exact HB.out | apply below_alloc | apply pw_below_drewN | apply below_drew1 | refine below_set ?_ GB7.out | refine below_set ?_ GE292.out) | exact HB.out)) : p := h
attribute [local go_sem] max2_int min2_int max_two min_two max_three min_three max_four min_four   -- for this text's walks alone
set_option linter.unusedVariables false
set_option linter.unusedSimpArgs false
def impl_loose.l0 : Nat → Int → Int → Int → List Int → Option (Int × List Int)
 | 0, _, _, _, _ => none
 | k + 1, x7, x8, x284000, x284001 => if x8 < x7 then ((impl_one.f x8).bind fun t284 => (if x284001.length < 17592186044416 then (impl_loose.l0 k x7 (wrap64 (x8 + 1)) x284000 (x284001 ++ [t284])) else (none))) else (some (x284000, x284001))
def impl_loose.f (k : Nat) (a0 : Int) : Option (Int × List Int) := impl_loose.l0 k a0 0 a0 ([] : List Int)
def impl_loose.T5 : Bool × List (List Nat × List Nat) := (true, [([], []), ([0], [0]), ([], []), ([2], [2]), ([3], [3]), ([1, 4, 3], [1, 4]), ([0, 1, 2, 3, 4, 5], []), ([6, 5, 5, 0, 1, 2, 3, 4, 5], [5, 6])])
def impl_loose.B5 : List Nat := [0, 1, 0, 4, 12, 31, 63, 127]
theorem impl_loose.tab5 : rtab .any (opsOf Tryd.f30 5) = impl_loose.T5 := by kernel_rfl
theorem impl_loose.bits5 : waitsOk impl_loose.T5.2 impl_loose.B5 = true := by kernel_rfl
set_option maxHeartbeats 8000000 in
set_option maxRecDepth 100000 in
theorem impl_loose.calls (k : Nat) (a0 : Int) (r1 : Int) (r2 : List Int) (w : World) (h : impl_loose.f k a0 = some (r1, r2)) :
  Calls Tryd.prog 30 #[.int .i64 a0] w fun e w' => ∃ v1_ : Value, e = .returned (.agg #[.int .i64 r1, v1_]) ∧ Kd.R (Kd.int .i64) 2 w' w.heap.size (fun _ => True) v1_ r2 ∧ Below w.heap.size w w' := by
 have hu28 := Tryd.underlying28; have HB := Aside0.mk (Below.refl w.heap.size w)
 have H : (impl_loose.l0 k a0 0 a0 ([] : List Int)) = some (r1, r2) := h
 clear h
 have H' := Aside0.mk H
 clear H
 go_enter Tryd.func30, Tryd.ntmps30
 go_wp2_with (first | ((with_reducible refine gate_dst (N := 2) rfl ?_); refine box_event ?hg (N := 2) ?hd (cs := #[.int .i64 0, .slice none 0 0]) (t := 28) ?hr ?_; (case hd => rfl); (case hg => rfl); (case hr => first | (go_simp; done) | (go_simp; rfl)); intro gb282 hg w2 hbox hb; have BK282 := Aside0.mk (hbox); have GW282 := Aside0.mk ((by rw [hg]; exact (below_size (beQ HB)) : w.heap.size ≤ gb282)); have GE282 := Aside0.mk ((by rw [hg]; exact (below_size (beQ HB)) : w.heap.size ≤ gb282)); replace HB := Aside0.mk (below_step (beQ HB) hb); clear hb hbox hg) | ((with_reducible refine gate_dst (N := 3) rfl ?_); refine box_event ?hg (N := 3) ?hd (cs := #[.int .i64 0, .slice none 0 0]) (t := 28) ?hr ?_; (case hd => rfl); (case hg => rfl); (case hr => first | (go_simp; done) | (go_simp; rfl)); intro gb283 hg w3 hbox hb; have BK283 := Aside0.mk (hbox); have GW283 := Aside0.mk ((by rw [hg]; exact (below_size (beQ HB)) : w.heap.size ≤ gb283)); have GE283 := Aside0.mk ((by rw [hg]; exact (below_size (beQ HB)) : w.heap.size ≤ gb283)); replace HB := Aside0.mk (below_step (beQ HB) hb); have NB282_283 := Aside0.mk ((by rw [hg]; exact Nat.ne_of_lt (blk_lt (blkQ BK282)) : gb282 ≠ gb283)); have NB283_282 := Aside0.mk ((by rw [hg]; exact Nat.ne_of_gt (blk_lt (blkQ BK282)) : gb283 ≠ gb282)); replace BK282 := bb BK282 hb; clear hb hbox hg; have hnb4 := NB283_282.out; have hnc4 := NB282_283.out; have hcz5_0 : w3.cell? ⟨gb283, 0, none⟩ = some (.int .i64 0) := bc BK283 0; have hcz5_1 : w3.cell? ⟨gb283, 1, none⟩ = some (.slice none 0 0) := bc BK283 1; have hfz5_0 := blk_frozen BK283.out 0; have hfz5_1 := blk_frozen BK283.out 1))
 go_loopg [8] k (fun kq v8 w' => ∃ (x8_1 : Int) (x284001_1 : List Int) (u284001 : Value), v8 = .int .i64 x8_1 ∧ Aside0 (impl_loose.l0 kq a0 x8_1 a0 x284001_1 = some (r1, r2)) ∧ Aside0 (kq ≤ k) ∧ Aside0 (Kd.R (Kd.int .i64) 2 w' w.heap.size (fun _ => True) u284001 x284001_1) ∧ Aside0 (w'.heap[gb282]? = some (.cells #[.int .i64 0, (.slice none 0 0)] 28 (0, 0))) ∧ Aside0 (w'.heap[gb283]? = some (.cells #[.int .i64 a0, u284001] 28 (0, 0))) ∧ Aside0 (Below w.heap.size w w'))
 case atStart => exact ⟨(0), (([] : List Int)), (.slice none 0 0), sz, H', ⟨Nat.le_refl _⟩, ⟨by first | exact Kd.R_nil _ _ _ _ _ | exact Kd.N_nil _ _ _ _ _ | exact Kd.V_nil _ _ _ _ _ | exact Kd.Q_nil _ _ _ _ _ | exact Kd.S_nil _ _ _ _ _⟩, ⟨blkF BK282⟩, ⟨by (with_reducible repeat (first | refine blk_drewN ?_ _ | refine blk_drew ?_ | refine blk_alloc ?_ _)); refine blk_put (cs := #[.int .i64 a0, .slice none 0 0]) ?_ 1 _ rfl; (with_reducible repeat (first | refine blk_drewN ?_ _ | refine blk_drew ?_ | refine blk_alloc ?_ _)); refine blk_put (cs := #[.int .i64 0, .slice none 0 0]) ?_ 0 _ rfl; (with_reducible repeat (first | refine blk_drewN ?_ _ | refine blk_drew ?_ | refine blk_alloc ?_ _)); exact BK283.out⟩, ⟨beQ HB⟩⟩
 case round =>
  clear H'
  try clear p2
  try clear c3
  try clear c4
  try clear hcz5_0
  try clear hcz5_1
  try clear hfz5_0
  try clear hfz5_1
  obtain ⟨x8_1, x284001_1, u284001, rfl, HA, HK1, HO_284001, BK282, BK283, HB⟩ := hrel
  cases gk with
  | zero => exact absurd HA.out (by simp [impl_loose.l0])
  | succ k1 =>
   have H := HA.out; clear HA
   simp only [impl_loose.l0] at H
   by_cases c6 : x8_1 < a0
   ·rw [if_pos c6] at H
    have c6b0 : decide (x8_1 < a0) = true := decide_eq_true c6
    clear c6; replace H := Option.bind_eq_some_iff.mp H; obtain ⟨t284, A70, H⟩ := H
    replace H : (if x284001_1.length < 17592186044416 then (impl_loose.l0 k1 a0 (wrap64 (x8_1 + 1)) a0 (x284001_1 ++ [t284])) else (none)) = some (r1, r2) := H
    have A7 := Aside0.mk A70; clear A70
    by_cases c8 : x284001_1.length < 17592186044416
    ·rw [if_pos c8] at H
     have LMc8 := Aside0.mk c8; clear c8
     obtain ⟨y285, hy285⟩ : ∃ y_ : List Int, y_ = (x284001_1 ++ [t284]) := ⟨_, rfl⟩
     replace H : (impl_loose.l0 k1 a0 (wrap64 (x8_1 + 1)) a0 y285) = some (r1, r2) := by first | (rw [hy285]; with_reducible exact H) | (have H2_ := (Option.bind_some _ _).symm.trans H; rw [hy285]; with_reducible exact H2_) | (have H2_ := (Option.bind_some _ _).symm.trans H; with_reducible exact H2_) | with_reducible exact H | (rw [hy285]; exact H) | exact H
     have Ny285 := Aside0.mk hy285; clear hy285
     have H' := Aside0.mk H
     clear H
     try go_wp2
     replace HO_284001 := Aside0.mk (Kd.R_drew HO_284001.out); replace BK282 := Aside0.mk (blk_drew BK282.out); replace BK283 := Aside0.mk (blk_drew BK283.out); replace HB := Aside0.mk (below_drew1 HB.out)
     refine start_ (n := 8) (S := fun w' => w'.cell? ⟨gb283, 0, none⟩ = some (.int .i64 a0) ∧ w'.cell? ⟨gb283, 1, none⟩ = some (u284001)) (ds := [7]) #[false, false, false, false, false, false, false, false] (by kernel_rfl) rfl rfl ⟨bc BK283 0, bc BK283 1⟩ (fun hHeld => ?_); refine with_tabW impl_loose.tab5 impl_loose.bits5 (fun HT_ HW_ => ?_)
     generalize wr.drew = w9 at HO_284001 BK282 BK283 HB hHeld ⊢
     refine pure_ (i := 0) (N := some 11) (v := ?_) (a' := ?_) #[true, false, false, false, false, false, false, false] rfl rfl (any_of HT_.out (by kernel_rfl)) (fun _ _ _ h => h) (Or.inl ⟨by rfl, ?_⟩) ?_ ?_
     rotate_left
     ·intro w'
      go_simp
      with_reducible rfl
     rotate_left
     ·simp only [Act.put, s1, s2, s3, i64_w, i32_w]
      rfl
     refine pure_ (i := 2) (N := some 13) (v := ?_) (a' := ?_) #[true, false, true, false, false, false, false, false] rfl rfl (any_of HT_.out (by kernel_rfl)) (fun _ _ _ h => h) (Or.inl ⟨by rfl, ?_⟩) ?_ ?_
     rotate_left
     ·intro w'
      go_simp
      with_reducible rfl
     rotate_left
     ·simp only [Act.put, s1, s2, s3, i64_w, i32_w]
      rfl
     refine take_ (i := 1) (N := some 12) (v := ?_) (a' := ?_) #[true, true, true, false, false, false, false, false] rfl rfl (take_ofW HT_.out HW_.out (by kernel_rfl)) (fun _ _ _ h => h) (Or.inl ⟨by rfl, ?_⟩) hHeld ?_ ?_
     rotate_left
     ·rintro w' ⟨s0, s1⟩
      go_simp
      with_reducible rfl
     rotate_left
     ·simp only [Act.put, s1, s2, s3, i64_w, i32_w]
      rfl
     refine one_ (i := 3) (N := some 14) #[true, true, true, true, false, false, false, false] rfl rfl (one_of HT_.out (by kernel_rfl)) (by decide) (fun K hK => ?_)
     refine goes_ Tryd.func56 (by kernel_rfl) rfl #[.int .i64 x8_1] (by rfl) rfl rfl lz ?_
     with_reducible refine (impl_one.calls x8_1 t284 _ A7.out).mono ?_
     rintro e w' ⟨rfl, ⟨nd, rfl⟩⟩
     refine ⟨_, rfl, ?_⟩
     refine hK.out _ _ ⟨bc BK283 0, bc BK283 1⟩ (fun hHeld => ?_)
     clear hK K
     refine norm_ (a' := ?_) ?_ ?_
     rotate_left
     ·show Act.put _ (some 14) _ = _
      simp only [Act.put, s1, s2, s3, i64_w, i32_w]
      rfl
     refine one_ (i := 4) (N := some 15) #[true, true, true, true, true, false, false, false] rfl rfl (one_of HT_.out (by kernel_rfl)) (by decide) (fun K hK => ?_)
     refine value_ (w1 := ?_) (v := ?_) (by rfl) rfl ?_ ?_
     rotate_left 2
     ·go_simp
      constructor
      ·rfl
      ·rfl
     refine hK.out _ _ ⟨(blk_cell (blk_alloc BK283.out _) 0).trans rfl, (blk_cell (blk_alloc BK283.out _) 1).trans rfl⟩ (fun hHeld => ?_)
     clear hK K
     refine norm_ (a' := ?_) ?_ ?_
     rotate_left
     ·show Act.put _ (some 15) _ = _
      simp only [Act.put, s1, s2, s3, i64_w, i32_w]
      rfl
     refine one_ (i := 5) (N := some 16) #[true, true, true, true, true, true, false, false] rfl rfl (one_of HT_.out (by kernel_rfl)) (by decide) (fun K hK => ?_)
     refine Kd.R_append_step (Kd.int .i64) (w0 := w) w.heap.size (by rfl) (.tmp 12) (.tmp 15) 22 2 (.int .i64 0) 8 rfl Tryd.underlying22 info2 rfl (by decide) (by omega) u284001 x284001_1 t284 [.int .i64 t284] (fun _ => True) (fun _ => False) rfl rfl ?aP (fun _ hk => hk.elim) ?aF ?aO ?aB ?aS ?aL ?_
     (case aP => exact rfl)
     (case aB => exact (beQ HB))
     (case aF => exact (fun _ _ => trivial))
     (case aO => exact (kdQ HO_284001))
     (case aS => exact (below_size (beQ HB)))
     (case aL => have := LMc8.out; omega)
     intro v286 w10 ho hb hg hat
     rw [← Ny285.out] at ho
     have n0_ := Aside0.mk (blk_grown (g := gb282) (o := .cells #[.int .i64 0, .slice none 0 0] 28 (0, 0)) (blkQ BK282) hg (Kd.R_ne HO_284001.out BK282.out (by decide)))
     have n1_ := Aside0.mk (blk_grown (g := gb283) (o := .cells #[.int .i64 a0, u284001] 28 (0, 0)) (blkQ BK283) hg (Kd.R_ne HO_284001.out BK283.out (by decide)))
     have n2_ := Aside0.mk (hb); have n3_ := Aside0.mk (ho); clear BK282; clear BK283; clear HB; clear HO_284001; have BK282 := n0_; have BK283 := n1_; have HB := n2_; have HO287 := n3_; clear n0_ n1_ n2_ n3_; clear ho hb hg hat; obtain ⟨Ao11, co11, eo11⟩ := Kd.R_slice HO287.out
     (first | subst eo11 | (injection eo11 with f1_ f2_ f3_; have f4_ := f1_.symm; have f5_ := f3_.symm; clear f1_ f2_ f3_; subst f4_; subst f5_))
     refine hK.out _ _ ⟨bc BK283 0, bc BK283 1⟩ (fun hHeld => ?_)
     clear hK K
     refine norm_ (a' := ?_) ?_ ?_
     rotate_left
     ·show Act.put _ (some 16) _ = _
      simp only [Act.put, s1, s2, s3, i64_w, i32_w]
      rfl
     refine pure_ (i := 6) (N := some 17) (v := ?_) (a' := ?_) #[true, true, true, true, true, true, true, false] rfl rfl (any_of HT_.out (by kernel_rfl)) (fun _ _ _ h => h) (Or.inl ⟨by rfl, ?_⟩) ?_ ?_
     rotate_left
     ·intro w'
      go_simp
      with_reducible rfl
     rotate_left
     ·simp only [Act.put, s1, s2, s3, i64_w, i32_w]
      rfl
     refine last_ (i := 7) (N := none) #[true, true, true, true, true, true, true, true] rfl rfl (one_of HT_.out (by kernel_rfl)) (by decide) (fun K hK => ?_)
     have hs12 : w10.cell? ⟨gb283, 1, none⟩ = some (u284001) := bc BK283 1
     have hfs12 := blk_frozen BK283.out 1; have hns12_0 := NB282_283.out; have hms12_0 := NB283_282.out
     refine skip_ (w1 := ?_) (by rfl) rfl ?_ ?_
     rotate_left
     ·go_simp
      rfl
     refine hK.out _ _ ?_
     clear hK K
     refine done_ (done_of HT_.out (by kernel_rfl)) ?_
     try go_wp2
     go_roundg k1
     case measure => have := HK1.out; omega
     case rel => exact ⟨(wrap64 (x8_1 + 1)), (y285), (.slice Ao11 y285.length co11), sz, H', ⟨by have := HK1.out; omega⟩, ⟨by (with_reducible repeat (first | apply Kd.R_alloc | apply Kd.R_drewN | apply Kd.R_drew)); exact Kd.R_mono (Kd.R_far (p := ⟨gb283, 1, none⟩) (Kd.R_types HO287.out BK283.out (by decide)) (fun _ hk => hk.2) (.slice Ao11 y285.length co11)) (fun _ hk => trivial)⟩, ⟨blkF BK282⟩, ⟨by (with_reducible repeat (first | refine blk_drewN ?_ _ | refine blk_drew ?_ | refine blk_alloc ?_ _)); refine blk_put (cs := #[.int .i64 a0, u284001]) ?_ 1 _ rfl; (with_reducible repeat (first | refine blk_drewN ?_ _ | refine blk_drew ?_ | refine blk_alloc ?_ _)); exact BK283.out⟩, ⟨beQ HB⟩⟩
    ·rw [if_neg c8] at H
     exact absurd H (by simp)
   ·rw [if_neg c6] at H
    have c6b0 : decide (x8_1 < a0) = false := decide_eq_false c6
    clear c6
    simp only [Option.some.injEq, Prod.mk.injEq] at H
    obtain ⟨rfl, rfl⟩ := H; have hnb13 := NB283_282.out; have hnc13 := NB282_283.out
    have hcz14_0 : wr.cell? ⟨gb283, 0, none⟩ = some (.int .i64 a0) := bc BK283 0
    have hcz14_1 : wr.cell? ⟨gb283, 1, none⟩ = some (u284001) := bc BK283 1
    have hfz14_0 := blk_frozen BK283.out 0; have hfz14_1 := blk_frozen BK283.out 1
    have hcz15_0 : wr.cell? ⟨gb282, 0, none⟩ = some (.int .i64 0) := bc BK282 0
    have hcz15_1 : wr.cell? ⟨gb282, 1, none⟩ = some (.slice none 0 0) := bc BK282 1
    have hfz15_0 := blk_frozen BK282.out 0; have hfz15_1 := blk_frozen BK282.out 1; obtain ⟨Ao16, co16, eo16⟩ := Kd.R_slice HO_284001.out; subst eo16
    go_wp2
    refine bodyPost_ret (results_cell_row rfl _ _ gb282 28 #[.int .i64 a0, .slice Ao16 x284001_1.length co16] (0, 0) _ rfl (by (with_reducible repeat (first | refine blk_drewN ?_ _ | refine blk_drew ?_ | refine blk_alloc ?_ _)); refine blk_put (cs := #[.int .i64 a0, .slice none 0 0]) ?_ 1 _ rfl; (with_reducible repeat (first | refine blk_drewN ?_ _ | refine blk_drew ?_ | refine blk_alloc ?_ _)); refine blk_put (cs := #[.int .i64 0, .slice none 0 0]) ?_ 0 _ rfl; (with_reducible repeat (first | refine blk_drewN ?_ _ | refine blk_drew ?_ | refine blk_alloc ?_ _)); exact BK282.out) Tryd.underlying28 rfl (by kernel_rfl)) rfl ?_
    exact ⟨_, rz, by (with_reducible repeat (first | apply Kd.R_alloc | apply Kd.R_drewN | apply Kd.R_drew)); exact Kd.R_mono (Kd.R_far (p := ⟨gb282, 1, none⟩) (Kd.R_far (p := ⟨gb282, 0, none⟩) (Kd.R_types HO_284001.out BK282.out (by decide)) (fun _ hk => hk.2) (.int .i64 a0)) (fun _ hk => hk.2) (.slice Ao16 x284001_1.length co16)) (fun _ hk => trivial), beQ HB⟩
def strings_Split.f (s : ByteArray) (sep : ByteArray) : Option (List ByteArray) := if sep.data = #[32] ∧ s.size < 4294967281 then some (Lib.splitB ⟨#[32]⟩ 0 (Lib.countB s ⟨#[32]⟩) s) else none
set_option maxHeartbeats 1000000 in
theorem strings_Split.calls (a0 : ByteArray) (a1 : ByteArray) (r : List ByteArray) (w : World) (h : strings_Split.f a0 a1 = some r) :
    Calls Tryd.prog 31 #[.string a0, .string a1] w fun e w' => ∃ v0_ : Value, e = .returned (v0_) ∧ Kd.R Kd.string 9 w' w.heap.size (fun _ => True) v0_ r ∧ Below w.heap.size w w' := by
  unfold strings_Split.f at h
  split at h
  · rename_i c
    obtain ⟨c1, hs⟩ := c
    obtain ⟨sep⟩ := a1
    simp only at c1
    subst c1
    injection h with h
    have L := Tryd.lays146
    have h1 : 1 ≤ (⟨#[32]⟩ : ByteArray).size := by decide
    have hle := Lib.countB_le ⟨#[32]⟩ h1 a0.size a0 (Nat.le_refl _)
    have hlen := Lib.splitB_all ⟨#[32]⟩ h1 0 _ a0 rfl
    have hix : ∀ (x : ByteArray) (w : World), Calls Tryd.prog (Tryd.lays146_ren.f 143) #[.string x, .string ⟨#[32]⟩] w fun e w' => e = .returned (.int .i64 (Lib.indexB x ⟨#[32]⟩)) ∧ w' = w := fun x w => by
      refine (Go.Proofs.Any.strings_Index_one (P := Tryd.prog) (ρ := Tryd.lays146_ren) { L with } x 32 w).mono fun e w' ⟨he, hw⟩ => ⟨?_, hw⟩
      rw [he]
      show _ = Ending.returned (Value.int .i64 (Lib.index x.data.toList [32]))
      rw [Lib.index_one]
    have hct : Calls Tryd.prog (Tryd.lays146_ren.f 138) #[.string a0, .string ⟨#[32]⟩] w fun e w' => e = .returned (.int .i64 (Lib.countB a0 ⟨#[32]⟩)) ∧ w' = w := by
      refine (Go.Proofs.Any.strings_Count_one (P := Tryd.prog) (ρ := Tryd.lays146_ren) { L with } a0 32 w).mono fun e w' ⟨he, hw⟩ => ⟨?_, hw⟩
      rw [he]
      show _ = Ending.returned (Value.int .i64 ((Lib.count a0.data.toList [32] : Nat) : Int))
      rw [Lib.count_one]
      rfl
    have c := Go.Proofs.Any.strings_genSplit_core (P := Tryd.prog) (ρ := Tryd.lays146_ren) { L with } (by kernel_rfl) a0 ⟨#[32]⟩ 0 (-1) (Lib.countB a0 ⟨#[32]⟩ + 1) w hs h1 (Nat.zero_le _) (fun x c _ => hix x _) hct (by decide) (by decide) (by rw [if_pos (by decide)]; omega)
    rw [Nat.add_sub_cancel, hlen] at c
    have e2 : Lib.cellsOf (Lib.splitB ⟨#[32]⟩ 0 (Lib.countB a0 ⟨#[32]⟩) a0) (Lib.countB a0 ⟨#[32]⟩ + 1) = ((Lib.splitB ⟨#[32]⟩ 0 (Lib.countB a0 ⟨#[32]⟩) a0).map Value.string).toArray := by rw [← hlen]; exact Lib.cellsOf_full _
    rw [e2, h] at c
    have HC := Aside0.mk c
    have hl2 : r.length = Lib.countB a0 ⟨#[32]⟩ + 1 := by rw [← h]; exact hlen
    have hmx : r.length ≤ maxLen := by unfold maxLen; omega
    rw [← hl2] at HC
    clear c hct hix e2 hlen hle
    go_enter Tryd.func31, Tryd.ntmps31
    go_wp2_with (go_at_call 57; refine HC.out.mono ?_; rintro e w' ⟨rfl, hw⟩; have HW := Aside0.mk hw; clear hw)
    go_ret
    refine ⟨_, rfl, ?_, ?_⟩
    · rw [HW.out]
      refine Kd.R_of_own ?_ (fun _ _ => trivial)
      have h2 := World.ownsRow_lit (base := w.heap.size) (e := 9) (size := 1) w (r.map Value.string).toArray r.length (Nat.le_refl _) hmx (by simp)
      rw [← hl2]
      exact h2
    · rw [HW.out]
      exact below_alloc (Below.refl _ _) _
  · cases h
def impl_isLetter.f (a0_0 : Int) (l0_1 : List Int) (a1 : Int) : Option (Bool) := (impl_inRange.f a1 0 (wrap64 (a0_0 - 1))).bind fun t291 => (some t291)
set_option maxHeartbeats 8000000 in
set_option maxRecDepth 100000 in
theorem impl_isLetter.calls (a0_0 : Int) (A0_1 : Option Addr) (c0_1 : Nat) (l0_1 : List Int) (a1 : Int) (r : Bool) (w : World) (hr0_1 : Kd.C (Kd.int .i64) w A0_1 l0_1.length l0_1) (hc0_1 : l0_1.length ≤ c0_1) (h : impl_isLetter.f a0_0 l0_1 a1 = some r) :
  Calls Tryd.prog 32 #[.agg #[.int .i64 a0_0, .slice A0_1 l0_1.length c0_1], .int .i64 a1] w fun e w' => e = .returned (.bool r) ∧ Below w.heap.size w w' := by
 have hu28 := Tryd.underlying28; have HR0_1 := Aside0.mk hr0_1; have HC0_1 := Aside0.mk hc0_1; clear hr0_1 hc0_1; have HB := Aside0.mk (Below.refl w.heap.size w)
 have H : ((impl_inRange.f a1 0 (wrap64 (a0_0 - 1))).bind fun t291 => (some t291)) = some r := h
 clear h; replace H := Option.bind_eq_some_iff.mp H; obtain ⟨t291, A30, H⟩ := H
 replace H : (some t291) = some r := H
 have A3 := Aside0.mk A30; clear A30
 obtain rfl := Option.some.inj H
 go_enter Tryd.func32, Tryd.ntmps32
 go_wp2_with (first | ((with_reducible refine gate_dst (N := 2) rfl ?_); refine box_event ?hg (N := 2) ?hd (cs := #[.int .i64 a0_0, .slice A0_1 l0_1.length c0_1]) (t := 28) ?hr ?_; (case hd => rfl); (case hg => rfl); (case hr => first | (go_simp; done) | (go_simp; rfl)); intro gb290 hg w4 hbox hb; have BK290 := Aside0.mk (hbox); have GW290 := Aside0.mk ((by rw [hg]; exact (below_size (beQ HB)) : w.heap.size ≤ gb290)); have GE290 := Aside0.mk ((by rw [hg]; exact (below_size (beQ HB)) : w.heap.size ≤ gb290)); replace HB := Aside0.mk (below_step (beQ HB) hb); clear hb hbox hg; have hcz5_0 : w4.cell? ⟨gb290, 0, none⟩ = some (.int .i64 a0_0) := bc BK290 0; have hcz5_1 : w4.cell? ⟨gb290, 1, none⟩ = some (.slice A0_1 l0_1.length c0_1) := bc BK290 1; have hfz5_0 := blk_frozen BK290.out 0; have hfz5_1 := blk_frozen BK290.out 1) | ((with_reducible refine gate_callee (f := 38) rfl ?_); refine goesL_ (some 9) rfl rfl Tryd.func38 (by kernel_rfl) rfl #[.int .i64 a1, .int .i64 0, .int .i64 (wrap64 (a0_0 - 1))] rfl lz ?_; (with_reducible refine (impl_inRange.calls a1 0 (wrap64 (a0_0 - 1)) t291 _ A3.out).mono ?_); rintro e w' ⟨rfl, ⟨nd, rfl⟩⟩; refine ⟨_, rfl, ?_⟩))
 go_ret
 exact ⟨rz, beQ HB⟩
def impl_Alphabet_tie.f (a0_0 : Int) (l0_1 : List Int) (a1 : Int) (a2 : Int) : Option (List Int) := if 0 ≤ a1 then (if a1 < (l0_1.length : Int) then ((impl_one.f a2).bind fun t294 => ((some (l0_1.set (a1 : Int).toNat (Go.bits .or .i64 (rd l0_1 a1) t294) : List Int)).bind fun y295 => (if 0 ≤ a2 then (if a2 < (l0_1.length : Int) then ((impl_one.f a1).bind fun t297 => (some (y295.set (a2 : Int).toNat (Go.bits .or .i64 (rd y295 a2) t297)))) else (none)) else (none)))) else (none)) else (none)
def impl_Alphabet_tie.T1 : Bool × List (List Nat × List Nat) := (true, [([], []), ([0], [0]), ([], []), ([1, 2], [1, 2]), ([3], [3]), ([], []), ([5], [5]), ([4, 6], [4, 6]), ([1, 2, 0, 1, 2, 3, 4, 5, 6, 7], [1, 2]), ([8, 7, 6, 0, 1, 2, 3, 4, 5, 6, 7], [7, 8])])
def impl_Alphabet_tie.B1 : List Nat := [0, 1, 0, 7, 15, 0, 32, 127, 255, 511]
theorem impl_Alphabet_tie.tab1 : rtab .any (opsOf Tryd.f33 1) = impl_Alphabet_tie.T1 := by kernel_rfl
theorem impl_Alphabet_tie.bits1 : waitsOk impl_Alphabet_tie.T1.2 impl_Alphabet_tie.B1 = true := by kernel_rfl
def impl_Alphabet_tie.T2 : Bool × List (List Nat × List Nat) := (true, [([], []), ([0], [0]), ([], []), ([1, 2], [1, 2]), ([3], [3]), ([], []), ([5], [5]), ([4, 6], [4, 6]), ([1, 2, 0, 1, 2, 3, 4, 5, 6, 7], [1, 2]), ([8, 7, 6, 0, 1, 2, 3, 4, 5, 6, 7], [7, 8])])
def impl_Alphabet_tie.B2 : List Nat := [0, 1, 0, 7, 15, 0, 32, 127, 255, 511]
theorem impl_Alphabet_tie.tab2 : rtab .any (opsOf Tryd.f33 2) = impl_Alphabet_tie.T2 := by kernel_rfl
theorem impl_Alphabet_tie.bits2 : waitsOk impl_Alphabet_tie.T2.2 impl_Alphabet_tie.B2 = true := by kernel_rfl
set_option maxHeartbeats 8000000 in
set_option maxRecDepth 100000 in
theorem impl_Alphabet_tie.calls (a0_0 : Int) (P0_1_ : Nat → Prop) (u9000_ : Value) (l0_1 : List Int) (a1 : Int) (a2 : Int) (r : List Int) (w0 w : World) (hB : Below w0.heap.size w0 w) (ho0_1 : Kd.R (Kd.int .i64) 2 w w0.heap.size P0_1_ u9000_ l0_1) (h : impl_Alphabet_tie.f a0_0 l0_1 a1 a2 = some r) :
  Calls Tryd.prog 33 #[.agg #[.int .i64 a0_0, u9000_], .int .i64 a1, .int .i64 a2] w fun e w' => e = .returned (.tuple #[]) ∧ Kd.R (Kd.int .i64) 2 w' w0.heap.size (fun k_ => (P0_1_ k_ ∨ w.heap.size ≤ k_)) u9000_ r ∧ Below w0.heap.size w0 w' ∧ Kept w w' (fun k_ => P0_1_ k_) := by
 have hu28 := Tryd.underlying28; have HO0_1 := Aside0.mk (show Kd.R (Kd.int .i64) 2 w w0.heap.size (fun k_ => (P0_1_ k_ ∨ w.heap.size ≤ k_)) u9000_ l0_1 from Kd.R_mono ho0_1 (fun k_ hk => (.inl hk))); have HK := Aside0.mk (Kept.refl w (fun k_ => P0_1_ k_)); have HW0 := Aside0.mk hB.size; have HB := Aside0.mk hB; clear hB
 have H : (if 0 ≤ a1 then (if a1 < (l0_1.length : Int) then ((impl_one.f a2).bind fun t294 => ((some (l0_1.set (a1 : Int).toNat (Go.bits .or .i64 (rd l0_1 a1) t294) : List Int)).bind fun y295 => (if 0 ≤ a2 then (if a2 < (l0_1.length : Int) then ((impl_one.f a1).bind fun t297 => (some (y295.set (a2 : Int).toNat (Go.bits .or .i64 (rd y295 a2) t297)))) else (none)) else (none)))) else (none)) else (none)) = some r := h
 clear h
 by_cases c4 : 0 ≤ a1
 ·rw [if_pos c4] at H
  have c4b0 : decide (0 ≤ a1) = true := decide_eq_true c4
  clear c4
  by_cases c5 : a1 < (l0_1.length : Int)
  ·rw [if_pos c5] at H
   have c5b0 : decide (a1 < (l0_1.length : Int)) = true := decide_eq_true c5
   clear c5; replace H := Option.bind_eq_some_iff.mp H; obtain ⟨t294, A60, H⟩ := H
   replace H : ((some (l0_1.set (a1 : Int).toNat (Go.bits .or .i64 (rd l0_1 a1) t294) : List Int)).bind fun y295 => (if 0 ≤ a2 then (if a2 < (l0_1.length : Int) then ((impl_one.f a1).bind fun t297 => (some (y295.set (a2 : Int).toNat (Go.bits .or .i64 (rd y295 a2) t297)))) else (none)) else (none))) = some r := H
   have A6 := Aside0.mk A60; clear A60
   obtain ⟨y295, hy295⟩ : ∃ y_ : List Int, y_ = (l0_1.set (a1 : Int).toNat (Go.bits .or .i64 (rd l0_1 a1) t294)) := ⟨_, rfl⟩
   replace H : (if 0 ≤ a2 then (if a2 < (l0_1.length : Int) then ((impl_one.f a1).bind fun t297 => (some (y295.set (a2 : Int).toNat (Go.bits .or .i64 (rd y295 a2) t297)))) else (none)) else (none)) = some r := by first | (rw [hy295]; with_reducible exact H) | (have H2_ := (Option.bind_some _ _).symm.trans H; rw [hy295]; with_reducible exact H2_) | (have H2_ := (Option.bind_some _ _).symm.trans H; with_reducible exact H2_) | with_reducible exact H | (rw [hy295]; exact H) | exact H
   have Ny295 := Aside0.mk hy295; clear hy295
   by_cases c8 : 0 ≤ a2
   ·rw [if_pos c8] at H
    have c8b0 : decide (0 ≤ a2) = true := decide_eq_true c8
    clear c8
    by_cases c9 : a2 < (l0_1.length : Int)
    ·rw [if_pos c9] at H
     have c9b0 : decide (a2 < (l0_1.length : Int)) = true := decide_eq_true c9
     clear c9; replace H := Option.bind_eq_some_iff.mp H; obtain ⟨t297, A100, H⟩ := H
     replace H : (some (y295.set (a2 : Int).toNat (Go.bits .or .i64 (rd y295 a2) t297))) = some r := H
     have A10 := Aside0.mk A100; clear A100
     obtain ⟨y298, hy298⟩ : ∃ y_ : List Int, y_ = (y295.set (a2 : Int).toNat (Go.bits .or .i64 (rd y295 a2) t297)) := ⟨_, rfl⟩
     replace H : (some y298) = some r := by first | (rw [hy298]; with_reducible exact H) | (have H2_ := (Option.bind_some _ _).symm.trans H; rw [hy298]; with_reducible exact H2_) | (have H2_ := (Option.bind_some _ _).symm.trans H; with_reducible exact H2_) | with_reducible exact H | (rw [hy298]; exact H) | exact H
     have Ny298 := Aside0.mk hy298; clear hy298
     obtain rfl := Option.some.inj H
     obtain ⟨Ao12, co12, eo12⟩ := Kd.R_slice HO0_1.out; subst eo12
     go_enter Tryd.func33, Tryd.ntmps33
     try go_wp2_with (first | ((with_reducible refine gate_dst (N := 3) rfl ?_); refine box_event ?hg (N := 3) ?hd (cs := #[.int .i64 a0_0, .slice Ao12 l0_1.length co12]) (t := 28) ?hr ?_; (case hd => rfl); (case hg => rfl); (case hr => first | (go_simp; done) | (go_simp; rfl)); intro gb292 hg w13 hbox hb; replace HO0_1 := Aside0.mk (Kd.R_below (by (with_reducible repeat (first | apply Kd.R_alloc | apply Kd.R_drewN | apply Kd.R_drew)); exact HO0_1.out) hb); have BK292 := Aside0.mk (hbox); have GW292 := Aside0.mk ((by rw [hg]; exact (by first | exact HK.out.1 | exact (show Kept w _ (fun k_ => P0_1_ k_) from zQ04cx0).1) : w.heap.size ≤ gb292)); replace HK := Aside0.mk (Kept.below (S := (fun k_ => P0_1_ k_)) (zQ04cx0) hb); have GE292 := Aside0.mk ((by rw [hg]; exact (below_size (beQ HB)) : w0.heap.size ≤ gb292)); replace HB := Aside0.mk (below_step (beQ HB) hb); clear hb hbox hg))
     replace HO0_1 := Aside0.mk (Kd.R_drew HO0_1.out); replace BK292 := Aside0.mk (blk_drew BK292.out); replace HK := Aside0.mk (Kept.drew HK.out); replace HB := Aside0.mk (below_drew1 HB.out)
     have p293 : 0 ≤ (a1 : Int) := of_decide_eq_true (by first | (with_reducible assumption) | assumption)
     have q293 : a1 < (l0_1.length : Int) := of_decide_eq_true (by first | (with_reducible assumption) | assumption)
     obtain ⟨ad293, e293, hx293_0⟩ := Kd.at_int (Kd.R_reads' HO0_1.out).2.2 a1 p293 q293; cases e293; replace p293 := eq_true p293; replace q293 := eq_true q293
     refine start_ (n := 10) (S := fun w' => w'.cell? ⟨gb292, 0, none⟩ = some (.int .i64 a0_0) ∧ w'.cell? ⟨gb292, 1, none⟩ = some (.slice (some ad293) l0_1.length co12) ∧ w'.cell? (ad293.add (a1).toNat) = some (.int .i64 (rd l0_1 a1))) (ds := [9]) #[false, false, false, false, false, false, false, false, false, false] (by kernel_rfl) rfl rfl ⟨bc BK292 0, bc BK292 1, hx293_0⟩ (fun hHeld => ?_); refine with_tabW impl_Alphabet_tie.tab1 impl_Alphabet_tie.bits1 (fun HT_ HW_ => ?_)
     generalize w13.drew = w14 at HO0_1 BK292 HK HB hx293_0 hHeld ⊢
     refine pure_ (i := 0) (N := some 6) (v := ?_) (a' := ?_) #[true, false, false, false, false, false, false, false, false, false] rfl rfl (any_of HT_.out (by kernel_rfl)) (fun _ _ _ h => h) (Or.inl ⟨by rfl, ?_⟩) ?_ ?_
     rotate_left
     ·intro w'
      go_simp
      with_reducible rfl
     rotate_left
     ·simp only [Act.put, s1, s2, s3, i64_w, i32_w]
      rfl
     refine pure_ (i := 2) (N := some 8) (v := ?_) (a' := ?_) #[true, false, true, false, false, false, false, false, false, false] rfl rfl (any_of HT_.out (by kernel_rfl)) (fun _ _ _ h => h) (Or.inl ⟨by rfl, ?_⟩) ?_ ?_
     rotate_left
     ·intro w'
      go_simp
      with_reducible rfl
     rotate_left
     ·simp only [Act.put, s1, s2, s3, i64_w, i32_w]
      rfl
     refine pure_ (i := 5) (N := some 11) (v := ?_) (a' := ?_) #[true, false, true, false, false, true, false, false, false, false] rfl rfl (any_of HT_.out (by kernel_rfl)) (fun _ _ _ h => h) (Or.inl ⟨by rfl, ?_⟩) ?_ ?_
     rotate_left
     ·intro w'
      go_simp
      with_reducible rfl
     rotate_left
     ·simp only [Act.put, s1, s2, s3, i64_w, i32_w]
      rfl
     refine take_ (i := 1) (N := some 7) (v := ?_) (a' := ?_) #[true, true, true, false, false, true, false, false, false, false] rfl rfl (take_ofW HT_.out HW_.out (by kernel_rfl)) (fun _ _ _ h => h) (Or.inl ⟨by rfl, ?_⟩) hHeld ?_ ?_
     rotate_left
     ·rintro w' ⟨s0, s1, s2⟩
      go_simp
      with_reducible rfl
     rotate_left
     ·simp only [Act.put, s1, s2, s3, i64_w, i32_w]
      rfl
     refine pure_ (i := 3) (N := some 9) (v := ?_) (a' := ?_) #[true, true, true, true, false, true, false, false, false, false] rfl rfl (any_of HT_.out (by kernel_rfl)) (fun _ _ _ h => h) (Or.inl ⟨by rfl, ?_⟩) ?_ ?_
     rotate_left
     ·intro w'
      go_simp
      with_reducible rfl
     rotate_left
     ·simp only [Act.put, s1, s2, s3, i64_w, i32_w]
      rfl
     refine take_ (i := 4) (N := some 10) (v := ?_) (a' := ?_) #[true, true, true, true, true, true, false, false, false, false] rfl rfl (take_ofW HT_.out HW_.out (by kernel_rfl)) (fun _ _ _ h => h) (Or.inl ⟨by rfl, ?_⟩) hHeld ?_ ?_
     rotate_left
     ·rintro w' ⟨s0, s1, s2⟩
      go_simp
      with_reducible rfl
     rotate_left
     ·simp only [Act.put, s1, s2, s3, i64_w, i32_w]
      rfl
     refine one_ (i := 6) (N := some 12) #[true, true, true, true, true, true, true, false, false, false] rfl rfl (one_of HT_.out (by kernel_rfl)) (by decide) (fun K hK => ?_)
     refine goes_ Tryd.func56 (by kernel_rfl) rfl #[.int .i64 a2] (by rfl) rfl rfl lz ?_
     with_reducible refine (impl_one.calls a2 t294 _ A6.out).mono ?_
     rintro e w' ⟨rfl, ⟨nd, rfl⟩⟩
     refine ⟨_, rfl, ?_⟩
     have p7 : 0 ≤ (a1 : Int) := of_decide_eq_true (by first | (with_reducible assumption) | assumption)
     have q7 : (a1 : Int) < ((l0_1.length : Int) : Int) := of_decide_eq_true (by first | (with_reducible assumption) | assumption)
     obtain ⟨go7, co7, eo7, gb7, gl7, cl7, HG7⟩ := Kd.R_form HO0_1.out (by omega)
     (first | cases eo7 | (injection eo7 with ea_ en_ ec_; (first | subst ea_ | (injection ea_ with ea_; subst ea_)); subst ec_; clear en_))
     have GB7 := Aside0.mk gb7; have GG7 := Aside0.mk HG7; clear gb7 gl7 HG7; have HMgo7 := Aside0.mk (show (P0_1_ go7 ∨ w.heap.size ≤ go7) from (HO0_1.out.1 _ rfl))
     (first | simp only [add_plain] at hx293_0 | skip)
     obtain ⟨hx7_0, hf7_0⟩ := Kd.R_celln 0 HO0_1.out (a1 : Int) p7 q7; replace p7 := eq_true p7; replace q7 := eq_true q7; have HP15 := Kd.R_putn HO0_1.out (a1 : Int) (Go.bits .or .i64 (rd l0_1 a1) t294); rw [← Ny295.out] at HP15; have HQ15 := Aside0.mk HP15; clear HP15
     refine hK.out _ _ ⟨bc BK292 0, bc BK292 1, hHeld.2.2⟩ (fun hHeld => ?_)
     clear hK K
     refine norm_ (a' := ?_) ?_ ?_
     rotate_left
     ·show Act.put _ (some 12) _ = _
      simp only [Act.put, s1, s2, s3, i64_w, i32_w]
      rfl
     refine pure_ (i := 7) (N := some 13) (v := ?_) (a' := ?_) #[true, true, true, true, true, true, true, true, false, false] rfl rfl (any_of HT_.out (by kernel_rfl)) (fun _ _ _ h => h) (Or.inl ⟨by rfl, ?_⟩) ?_ ?_
     rotate_left
     ·intro w'
      go_simp
      with_reducible rfl
     rotate_left
     ·simp only [Act.put, s1, s2, s3, i64_w, i32_w]
      rfl
     refine pure_ (i := 8) (N := some 14) (v := ?_) (a' := ?_) #[true, true, true, true, true, true, true, true, true, false] rfl rfl (any_of HT_.out (by kernel_rfl)) (fun _ _ _ h => h) (Or.inl ⟨by rfl, ?_⟩) ?_ ?_
     rotate_left
     ·intro w'
      go_simp
      with_reducible rfl
     rotate_left
     ·simp only [Act.put, s1, s2, s3, i64_w, i32_w]
      rfl
     refine last_ (i := 9) (N := none) #[true, true, true, true, true, true, true, true, true, true] rfl rfl (one_of HT_.out (by kernel_rfl)) (by decide) (fun K hK => ?_)
     refine skip_ (w1 := ?_) (by rfl) rfl ?_ ?_
     rotate_left
     ·go_simp
      rfl
     refine hK.out _ _ ?_
     clear hK K
     refine done_ (done_of HT_.out (by kernel_rfl)) ?_
     try go_wp2
     have n0_ : Aside0 (Kd.R (Kd.int .i64) 2 (w14.setCell ⟨go7, (a1 : Int).toNat, none⟩ (.int .i64 (Go.bits .or .i64 (rd l0_1 a1) t294))) w0.heap.size (fun k_ => (P0_1_ k_ ∨ w.heap.size ≤ k_)) (.slice (some ⟨go7, 0, none⟩) l0_1.length co12) y295) := ⟨by (with_reducible repeat (first | apply Kd.R_alloc | apply Kd.R_drewN | apply Kd.R_drew)); exact HQ15.out⟩
     have n1_ : Aside0 ((w14.setCell ⟨go7, (a1 : Int).toNat, none⟩ (.int .i64 (Go.bits .or .i64 (rd l0_1 a1) t294))).heap[gb292]? = some (.cells #[.int .i64 a0_0, .slice (some ⟨go7, 0, none⟩) l0_1.length co12] 28 (0, 0))) := ⟨by (with_reducible repeat (first | refine blk_drewN ?_ _ | refine blk_drew ?_ | refine blk_alloc ?_ _)); refine blk_far ?_ (by have h_ := Kd.R_ne HO0_1.out BK292.out (by decide); intro e_; exact h_ (by rw [e_]; rfl)) _; (with_reducible repeat (first | refine blk_drewN ?_ _ | refine blk_drew ?_ | refine blk_alloc ?_ _)); exact BK292.out⟩
     have n2_ : Aside0 (Kept w (w14.setCell ⟨go7, (a1 : Int).toNat, none⟩ (.int .i64 (Go.bits .or .i64 (rd l0_1 a1) t294))) (fun k_ => P0_1_ k_)) := ⟨zQ04cx1⟩
     have n3_ : Aside0 (Below w0.heap.size w0 (w14.setCell ⟨go7, (a1 : Int).toNat, none⟩ (.int .i64 (Go.bits .or .i64 (rd l0_1 a1) t294)))) := ⟨zQ04cx2⟩
     (try clear HO0_1)
     (try clear BK292)
     (try clear HK)
     (try clear HB)
     (try simp only [drewN_set])
     generalize (w14.setCell ⟨go7, (a1 : Int).toNat, none⟩ (.int .i64 (Go.bits .or .i64 (rd l0_1 a1) t294))) = w16 at n0_ n1_ n2_ n3_ ⊢
     have HO0_1 := n0_; have BK292 := n1_; have HK := n2_; have HB := n3_; clear n0_ n1_ n2_ n3_
     (try (rw [drewN_self w16]; generalize hq_ : World.drewN w16 _ = w16; have n0_ : Aside0 (Kd.R (Kd.int .i64) 2 w16 w0.heap.size (fun k_ => (P0_1_ k_ ∨ w.heap.size ≤ k_)) (.slice (some ⟨go7, 0, none⟩) l0_1.length co12) y295) := ⟨by rw [← hq_]; exact (by (with_reducible repeat (first | apply Kd.R_alloc | apply Kd.R_drewN | apply Kd.R_drew)); exact HO0_1.out)⟩; have n1_ : Aside0 (w16.heap[gb292]? = some (.cells #[.int .i64 a0_0, .slice (some ⟨go7, 0, none⟩) l0_1.length co12] 28 (0, 0))) := ⟨by rw [← hq_]; exact (blkQ BK292)⟩; have n2_ : Aside0 (Kept w w16 (fun k_ => P0_1_ k_)) := ⟨by rw [← hq_]; exact (by repeat (first | (with_reducible first | exact HK.out | apply Kept.alloc | apply Kept.drewN | apply Kept.drew | refine Kept.setCell ?_ (.inr GW292.out) _) | exact HK.out))⟩; have n3_ : Aside0 (Below w0.heap.size w0 w16) := ⟨by rw [← hq_]; exact (beQ HB)⟩; clear HO0_1 BK292 HK HB hq_; have HO0_1 := n0_; have BK292 := n1_; have HK := n2_; have HB := n3_; clear n0_ n1_ n2_ n3_))
     replace HO0_1 := Aside0.mk (Kd.R_drew HO0_1.out); replace BK292 := Aside0.mk (blk_drew BK292.out); replace HK := Aside0.mk (Kept.drew HK.out); replace HB := Aside0.mk (below_drew1 HB.out)
     have p296 : 0 ≤ (a2 : Int) := of_decide_eq_true (by first | (with_reducible assumption) | assumption)
     have q296 : a2 < (y295.length : Int) := (by have h_ : (a2 : Int) < ((l0_1.length : Int) : Int) := of_decide_eq_true (by first | (with_reducible assumption) | assumption); first | (have e_ := (Kd.R_reads' HO0_1.out).1; omega) | simpa only [Ny295.out, List.length_set] using h_)
     have ql296 : ((a2 : Int) < ((l0_1.length : Int) : Int)) = True := eq_true (of_decide_eq_true (by first | (with_reducible assumption) | assumption))
     obtain ⟨ad296, e296, hx296_0⟩ := Kd.at_int (Kd.R_reads' HO0_1.out).2.2 a2 p296 q296
     obtain rfl : (⟨go7, 0, none⟩ : Addr) = ad296 := (by injection e296)
     (first | simp only [add_plain] at hx296_0 | simp only [add_at] at hx296_0 | simp only [Addr.add, Nat.zero_add] at hx296_0 | skip)
     replace p296 := eq_true p296; replace q296 := eq_true q296
     refine start_ (n := 10) (S := fun w' => w'.cell? ⟨gb292, 0, none⟩ = some (.int .i64 a0_0) ∧ w'.cell? ⟨gb292, 1, none⟩ = some (.slice (some ⟨go7, 0, none⟩) l0_1.length co12) ∧ w'.cell? ⟨go7, (a2).toNat, none⟩ = some (.int .i64 (rd y295 a2))) (ds := [9]) #[false, false, false, false, false, false, false, false, false, false] (by kernel_rfl) rfl rfl ⟨bc BK292 0, bc BK292 1, hx296_0⟩ (fun hHeld => ?_); refine with_tabW impl_Alphabet_tie.tab2 impl_Alphabet_tie.bits2 (fun HT_ HW_ => ?_)
     generalize w16.drew = w17 at HO0_1 BK292 HK HB HQ15 hx296_0 hHeld ⊢
     refine pure_ (i := 0) (N := some 15) (v := ?_) (a' := ?_) #[true, false, false, false, false, false, false, false, false, false] rfl rfl (any_of HT_.out (by kernel_rfl)) (fun _ _ _ h => h) (Or.inl ⟨by rfl, ?_⟩) ?_ ?_
     rotate_left
     ·intro w'
      go_simp
      with_reducible rfl
     rotate_left
     ·simp only [Act.put, s1, s2, s3, i64_w, i32_w]
      rfl
     refine pure_ (i := 2) (N := some 17) (v := ?_) (a' := ?_) #[true, false, true, false, false, false, false, false, false, false] rfl rfl (any_of HT_.out (by kernel_rfl)) (fun _ _ _ h => h) (Or.inl ⟨by rfl, ?_⟩) ?_ ?_
     rotate_left
     ·intro w'
      go_simp
      with_reducible rfl
     rotate_left
     ·simp only [Act.put, s1, s2, s3, i64_w, i32_w]
      rfl
     refine pure_ (i := 5) (N := some 20) (v := ?_) (a' := ?_) #[true, false, true, false, false, true, false, false, false, false] rfl rfl (any_of HT_.out (by kernel_rfl)) (fun _ _ _ h => h) (Or.inl ⟨by rfl, ?_⟩) ?_ ?_
     rotate_left
     ·intro w'
      go_simp
      with_reducible rfl
     rotate_left
     ·simp only [Act.put, s1, s2, s3, i64_w, i32_w]
      rfl
     refine take_ (i := 1) (N := some 16) (v := ?_) (a' := ?_) #[true, true, true, false, false, true, false, false, false, false] rfl rfl (take_ofW HT_.out HW_.out (by kernel_rfl)) (fun _ _ _ h => h) (Or.inl ⟨by rfl, ?_⟩) hHeld ?_ ?_
     rotate_left
     ·rintro w' ⟨s0, s1, s2⟩
      go_simp
      with_reducible rfl
     rotate_left
     ·simp only [Act.put, s1, s2, s3, i64_w, i32_w]
      rfl
     refine pure_ (i := 3) (N := some 18) (v := ?_) (a' := ?_) #[true, true, true, true, false, true, false, false, false, false] rfl rfl (any_of HT_.out (by kernel_rfl)) (fun _ _ _ h => h) (Or.inl ⟨by rfl, ?_⟩) ?_ ?_
     rotate_left
     ·intro w'
      go_simp
      with_reducible rfl
     rotate_left
     ·simp only [Act.put, s1, s2, s3, i64_w, i32_w]
      rfl
     refine take_ (i := 4) (N := some 19) (v := ?_) (a' := ?_) #[true, true, true, true, true, true, false, false, false, false] rfl rfl (take_ofW HT_.out HW_.out (by kernel_rfl)) (fun _ _ _ h => h) (Or.inl ⟨by rfl, ?_⟩) hHeld ?_ ?_
     rotate_left
     ·rintro w' ⟨s0, s1, s2⟩
      go_simp
      with_reducible rfl
     rotate_left
     ·simp only [Act.put, s1, s2, s3, i64_w, i32_w]
      rfl
     refine one_ (i := 6) (N := some 21) #[true, true, true, true, true, true, true, false, false, false] rfl rfl (one_of HT_.out (by kernel_rfl)) (by decide) (fun K hK => ?_)
     refine goes_ Tryd.func56 (by kernel_rfl) rfl #[.int .i64 a1] (by rfl) rfl rfl lz ?_
     with_reducible refine (impl_one.calls a1 t297 _ A10.out).mono ?_
     rintro e w' ⟨rfl, ⟨nd, rfl⟩⟩
     refine ⟨_, rfl, ?_⟩
     have p11 : 0 ≤ (a2 : Int) := of_decide_eq_true (by first | (with_reducible assumption) | assumption)
     have q11 : (a2 : Int) < ((l0_1.length : Int) : Int) := of_decide_eq_true (by first | (with_reducible assumption) | assumption)
     obtain ⟨hx11_0, hf11_0⟩ := Kd.R_celln 0 HO0_1.out (a2 : Int) p11 q11; replace p11 := eq_true p11; replace q11 := eq_true q11; have HP18 := Kd.R_putn HO0_1.out (a2 : Int) (Go.bits .or .i64 (rd y295 a2) t297); rw [← Ny298.out] at HP18; have HQ18 := Aside0.mk HP18; clear HP18
     refine hK.out _ _ ⟨bc BK292 0, bc BK292 1, hHeld.2.2⟩ (fun hHeld => ?_)
     clear hK K
     refine norm_ (a' := ?_) ?_ ?_
     rotate_left
     ·show Act.put _ (some 21) _ = _
      simp only [Act.put, s1, s2, s3, i64_w, i32_w]
      rfl
     refine pure_ (i := 7) (N := some 22) (v := ?_) (a' := ?_) #[true, true, true, true, true, true, true, true, false, false] rfl rfl (any_of HT_.out (by kernel_rfl)) (fun _ _ _ h => h) (Or.inl ⟨by rfl, ?_⟩) ?_ ?_
     rotate_left
     ·intro w'
      go_simp
      with_reducible rfl
     rotate_left
     ·simp only [Act.put, s1, s2, s3, i64_w, i32_w]
      rfl
     refine pure_ (i := 8) (N := some 23) (v := ?_) (a' := ?_) #[true, true, true, true, true, true, true, true, true, false] rfl rfl (any_of HT_.out (by kernel_rfl)) (fun _ _ _ h => h) (Or.inl ⟨by rfl, ?_⟩) ?_ ?_
     rotate_left
     ·intro w'
      go_simp
      with_reducible rfl
     rotate_left
     ·simp only [Act.put, s1, s2, s3, i64_w, i32_w]
      rfl
     refine last_ (i := 9) (N := none) #[true, true, true, true, true, true, true, true, true, true] rfl rfl (one_of HT_.out (by kernel_rfl)) (by decide) (fun K hK => ?_)
     refine skip_ (w1 := ?_) (by rfl) rfl ?_ ?_
     rotate_left
     ·go_simp
      rfl
     refine hK.out _ _ ?_
     clear hK K
     refine done_ (done_of HT_.out (by kernel_rfl)) ?_
     try go_wp2
     first | go_end0 | ((try simp only [Exit.inBlock, Exit.then]); refine bodyPost_ret (results_none rfl _ _ _) rfl ?_)
     exact ⟨rz, by (with_reducible repeat (first | apply Kd.R_alloc | apply Kd.R_drewN | apply Kd.R_drew)); exact HQ18.out, zQ04cx2, zQ04cx1⟩
    ·rw [if_neg c9] at H
     exact absurd H (by simp)
   ·rw [if_neg c8] at H
    exact absurd H (by simp)
  ·rw [if_neg c5] at H
   exact absurd H (by simp)
 ·rw [if_neg c4] at H
  exact absurd H (by simp)
end Go.Proofs.YtbhkpfkkjknmlaaDoor.G
