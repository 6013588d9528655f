-- A copy, with what one law needs, of a text that print.sh or a program of ours wrote
import Derived.Test.YtleeihpmniabhaaDoorZ11G0
import Derived.Test.YtleeihpmniabhaaDoorZ11GQ01b
import Derived.Test.YtleeihpmniabhaaDoorZ11GQ13
namespace Go.Proofs.YtleeihpmniabhaaDoor.G
open Go.RowKit Go.Proofs.YtleeihpmniabhaaDoorW.PrintWords Go.Proofs.YtleeihpmniabhaaDoorW.PrintLast Go.Proofs.YtleeihpmniabhaaDoorW.PrintMore
attribute [local go_sem] max2_int min2_int max_two min_two max_three min_three max_four min_four   -- for this text's walks alone
set_option linter.unusedVariables false
set_option linter.unusedSimpArgs false
def impl_complement.l0 : Nat → List Int → Int → Int → Int → List Int → Int → List Int → Option (Int × List Int)
 | 0, _, _, _, _, _, _, _ => none
 | k + 1, x10, x11, x12, x1211000, x1211001, x1213000, x1213001 => if x12 < x11 then (if 0 ≤ x12 then (if x12 < (x10.length : Int) then ((impl_allLetters.f x1211000 x1211001).bind fun t1214 => ((impl_one.f x12).bind fun t1215 => (if x1213001.length < 17592186044416 then (impl_complement.l0 k x10 x11 (wrap64 (x12 + 1)) x1211000 x1211001 x1213000 (x1213001 ++ [Go.bits .or .i64 (Go.bits .andNot .i64 t1214 (rd x10 x12)) t1215])) else (none)))) else (none)) else (none)) else (some (x1213000, x1213001))
def impl_complement.f (k : Nat) (a0_0 : Int) (l0_1 : List Int) : Option (Int × List Int) := impl_complement.l0 k l0_1 (l0_1.length : Int) 0 a0_0 l0_1 a0_0 ([] : List Int)
def impl_complement.T5 : Bool × List (List Nat × List Nat) := (true, [([], []), ([0], [0]), ([], []), ([2], [2]), ([], []), ([3, 4], [3, 4]), ([], []), ([6, 3], [6]), ([5, 7], [5, 7]), ([8], [8]), ([1, 9, 7], [1, 9]), ([0, 1, 2, 3, 4, 5, 6, 7, 8, 9, 10], []), ([11, 10, 10, 0, 1, 2, 3, 4, 5, 6, 7, 8, 9, 10], [10, 11])])
def impl_complement.B5 : List Nat := [0, 1, 0, 4, 0, 28, 0, 76, 252, 508, 1023, 2047, 4095]
theorem impl_complement.tab5 : rtab .any (opsOf Tryd.f102 5) = impl_complement.T5 := by kernel_rfl
theorem impl_complement.bits5 : waitsOk impl_complement.T5.2 impl_complement.B5 = true := by kernel_rfl
set_option maxHeartbeats 8000000 in
set_option maxRecDepth 100000 in
theorem impl_complement.calls (k : Nat) (a0_0 : Int) (A0_1 : Option Addr) (c0_1 : Nat) (l0_1 : List Int) (r1 : Int) (r2 : List Int) (w : World) (hr0_1 : Kd.C (Kd.int .i64) w A0_1 l0_1.length l0_1) (hc0_1 : l0_1.length ≤ c0_1) (h : impl_complement.f k a0_0 l0_1 = some (r1, r2)) :
  Calls Tryd.prog 102 #[.agg #[.int .i64 a0_0, .slice A0_1 l0_1.length c0_1]] w fun e w' => ∃ v1_ : Value, e = .returned (.agg #[.int .i64 r1, v1_]) ∧ Kd.R (Kd.int .i64) 2 w' w.heap.size (fun _ => True) v1_ r2 ∧ Below w.heap.size w w' := by
 have hu26 := Tryd.underlying26; have HR0_1 := Aside0.mk hr0_1; have HC0_1 := Aside0.mk hc0_1; clear hr0_1 hc0_1; have HB := Aside0.mk (Below.refl w.heap.size w)
 have H : (impl_complement.l0 k l0_1 (l0_1.length : Int) 0 a0_0 l0_1 a0_0 ([] : List Int)) = some (r1, r2) := h
 clear h
 have H' := Aside0.mk H
 clear H
 go_enter Tryd.func102, Tryd.ntmps102
 go_wp2_with (first | ((with_reducible refine gate_dst (N := 1) rfl ?_); refine box_event ?hg (N := 1) ?hd (cs := #[.int .i64 a0_0, .slice A0_1 l0_1.length c0_1]) (t := 26) ?hr ?_; (case hd => rfl); (case hg => rfl); (case hr => first | (go_simp; done) | (go_simp; rfl)); intro gb1210 hg w2 hbox hb; have BK1210 := Aside0.mk (hbox); have GW1210 := Aside0.mk ((by rw [hg]; exact (below_size (beQ HB)) : w.heap.size ≤ gb1210)); have GE1210 := Aside0.mk ((by rw [hg]; exact (below_size (beQ HB)) : w.heap.size ≤ gb1210)); replace HB := Aside0.mk (below_step (beQ HB) hb); clear hb hbox hg) | ((with_reducible refine gate_dst (N := 2) rfl ?_); refine box_event ?hg (N := 2) ?hd (cs := #[.int .i64 0, .slice none 0 0]) (t := 26) ?hr ?_; (case hd => rfl); (case hg => rfl); (case hr => first | (go_simp; done) | (go_simp; rfl)); intro gb1211 hg w3 hbox hb; have BK1211 := Aside0.mk (hbox); have GW1211 := Aside0.mk ((by rw [hg]; exact (below_size (beQ HB)) : w.heap.size ≤ gb1211)); have GE1211 := Aside0.mk ((by rw [hg]; exact (below_size (beQ HB)) : w.heap.size ≤ gb1211)); replace HB := Aside0.mk (below_step (beQ HB) hb); have NB1210_1211 := Aside0.mk ((by rw [hg]; exact Nat.ne_of_lt (blk_lt (blkQ BK1210)) : gb1210 ≠ gb1211)); have NB1211_1210 := Aside0.mk ((by rw [hg]; exact Nat.ne_of_gt (blk_lt (blkQ BK1210)) : gb1211 ≠ gb1210)); replace BK1210 := bb BK1210 hb; clear hb hbox hg; have hnb4 := NB1210_1211.out; have hnc4 := NB1211_1210.out; have hcz5_0 : w3.cell? ⟨gb1210, 0, none⟩ = some (.int .i64 a0_0) := bc BK1210 0; have hcz5_1 : w3.cell? ⟨gb1210, 1, none⟩ = some (.slice A0_1 l0_1.length c0_1) := bc BK1210 1; have hfz5_0 := blk_frozen BK1210.out 0; have hfz5_1 := blk_frozen BK1210.out 1) | ((with_reducible refine gate_dst (N := 3) rfl ?_); refine box_event ?hg (N := 3) ?hd (cs := #[.int .i64 0, .slice none 0 0]) (t := 26) ?hr ?_; (case hd => rfl); (case hg => rfl); (case hr => first | (go_simp; done) | (go_simp; rfl)); intro gb1212 hg w6 hbox hb; have BK1212 := Aside0.mk (hbox); have GW1212 := Aside0.mk ((by rw [hg]; exact (below_size (beQ HB)) : w.heap.size ≤ gb1212)); have GE1212 := Aside0.mk ((by rw [hg]; exact (below_size (beQ HB)) : w.heap.size ≤ gb1212)); replace HB := Aside0.mk (below_step (beQ HB) hb); have NB1210_1212 := Aside0.mk ((by rw [hg]; exact Nat.ne_of_lt (blk_lt (blkQ BK1210)) : gb1210 ≠ gb1212)); have NB1212_1210 := Aside0.mk ((by rw [hg]; exact Nat.ne_of_gt (blk_lt (blkQ BK1210)) : gb1212 ≠ gb1210)); replace BK1210 := bb BK1210 hb; have NB1211_1212 := Aside0.mk ((by rw [hg]; exact Nat.ne_of_lt (blk_lt (blkQ BK1211)) : gb1211 ≠ gb1212)); have NB1212_1211 := Aside0.mk ((by rw [hg]; exact Nat.ne_of_gt (blk_lt (blkQ BK1211)) : gb1212 ≠ gb1211)); replace BK1211 := bb BK1211 hb; clear hb hbox hg; have hnb7 := NB1212_1210.out; have hnc7 := NB1210_1212.out; have hnb8 := NB1212_1211.out; have hnc8 := NB1211_1212.out; have hcz9_0 : w6.cell? ⟨gb1212, 0, none⟩ = some (.int .i64 0) := bc BK1212 0; have hcz9_1 : w6.cell? ⟨gb1212, 1, none⟩ = some (.slice none 0 0) := bc BK1212 1; have hfz9_0 := blk_frozen BK1212.out 0; have hfz9_1 := blk_frozen BK1212.out 1; have hcz10_0 : w6.cell? ⟨gb1210, 0, none⟩ = some (.int .i64 a0_0) := bc BK1210 0; have hcz10_1 : w6.cell? ⟨gb1210, 1, none⟩ = some (.slice A0_1 l0_1.length c0_1) := bc BK1210 1; have hfz10_0 := blk_frozen BK1210.out 0; have hfz10_1 := blk_frozen BK1210.out 1))
 go_loopg [12] k (fun kq v12 w' => ∃ (x12_1 : Int) (x1213001_1 : List Int) (u1213001 : Value), v12 = .int .i64 x12_1 ∧ Aside0 (impl_complement.l0 kq l0_1 (l0_1.length : Int) x12_1 a0_0 l0_1 a0_0 x1213001_1 = some (r1, r2)) ∧ Aside0 (kq ≤ k) ∧ Aside0 (Kd.R (Kd.int .i64) 2 w' w.heap.size (fun _ => True) u1213001 x1213001_1) ∧ Aside0 (w'.heap[gb1210]? = some (.cells #[.int .i64 a0_0, (.slice A0_1 l0_1.length c0_1)] 26 (0, 0))) ∧ Aside0 (w'.heap[gb1211]? = some (.cells #[.int .i64 0, (.slice none 0 0)] 26 (0, 0))) ∧ Aside0 (w'.heap[gb1212]? = some (.cells #[.int .i64 a0_0, u1213001] 26 (0, 0))) ∧ Aside0 (Below w.heap.size w w'))
 case atStart => exact ⟨(0), (([] : List Int)), (.slice none 0 0), sz, H', ⟨Nat.le_refl _⟩, ⟨by first | exact Kd.R_nil _ _ _ _ _ | exact Kd.N_nil _ _ _ _ _ | exact Kd.V_nil _ _ _ _ _ | exact Kd.Q_nil _ _ _ _ _ | exact Kd.S_nil _ _ _ _ _⟩, ⟨blkF BK1210⟩, ⟨blkF BK1211⟩, ⟨by (with_reducible repeat (first | refine blk_drewN ?_ _ | refine blk_drew ?_ | refine blk_alloc ?_ _)); refine blk_put (cs := #[.int .i64 a0_0, .slice none 0 0]) ?_ 1 _ rfl; (with_reducible repeat (first | refine blk_drewN ?_ _ | refine blk_drew ?_ | refine blk_alloc ?_ _)); refine blk_put (cs := #[.int .i64 0, .slice none 0 0]) ?_ 0 _ rfl; (with_reducible repeat (first | refine blk_drewN ?_ _ | refine blk_drew ?_ | refine blk_alloc ?_ _)); exact BK1212.out⟩, ⟨beQ HB⟩⟩
 case round =>
  clear H'
  try clear c1
  try clear p2
  try clear c4
  try clear c7
  try clear c8
  try clear c10
  try clear hcz10_0
  try clear hcz10_1
  try clear hcz5_0
  try clear hcz5_1
  try clear hcz9_0
  try clear hcz9_1
  try clear hfz10_0
  try clear hfz10_1
  try clear hfz5_0
  try clear hfz5_1
  try clear hfz9_0
  try clear hfz9_1
  obtain ⟨x12_1, x1213001_1, u1213001, rfl, HA, HK1, HO_1213001, BK1210, BK1211, BK1212, HB⟩ := hrel
  cases gk with
  | zero => exact absurd HA.out (by simp [impl_complement.l0])
  | succ k1 =>
   have H := HA.out; clear HA
   simp only [impl_complement.l0] at H
   by_cases c11 : x12_1 < (l0_1.length : Int)
   ·rw [if_pos c11] at H
    have c11b0 : decide (x12_1 < (l0_1.length : Int)) = true := decide_eq_true c11
    clear c11
    by_cases c12 : 0 ≤ x12_1
    ·rw [if_pos c12] at H
     have c12b0 : decide (0 ≤ x12_1) = true := decide_eq_true c12
     clear c12
     by_cases c13 : x12_1 < (l0_1.length : Int)
     ·rw [if_pos c13] at H
      have c13b0 : decide (x12_1 < (l0_1.length : Int)) = true := decide_eq_true c13
      clear c13; replace H := Option.bind_eq_some_iff.mp H; obtain ⟨t1214, A140, H⟩ := H
      replace H : ((impl_one.f x12_1).bind fun t1215 => (if x1213001_1.length < 17592186044416 then (impl_complement.l0 k1 l0_1 (l0_1.length : Int) (wrap64 (x12_1 + 1)) a0_0 l0_1 a0_0 (x1213001_1 ++ [Go.bits .or .i64 (Go.bits .andNot .i64 t1214 (rd l0_1 x12_1)) t1215])) else (none))) = some (r1, r2) := H
      have A14 := Aside0.mk A140; clear A140; replace H := Option.bind_eq_some_iff.mp H; obtain ⟨t1215, A150, H⟩ := H
      replace H : (if x1213001_1.length < 17592186044416 then (impl_complement.l0 k1 l0_1 (l0_1.length : Int) (wrap64 (x12_1 + 1)) a0_0 l0_1 a0_0 (x1213001_1 ++ [Go.bits .or .i64 (Go.bits .andNot .i64 t1214 (rd l0_1 x12_1)) t1215])) else (none)) = some (r1, r2) := H
      have A15 := Aside0.mk A150; clear A150
      by_cases c16 : x1213001_1.length < 17592186044416
      ·rw [if_pos c16] at H
       have LMc16 := Aside0.mk c16; clear c16
       obtain ⟨y1216, hy1216⟩ : ∃ y_ : List Int, y_ = (x1213001_1 ++ [Go.bits .or .i64 (Go.bits .andNot .i64 t1214 (rd l0_1 x12_1)) t1215]) := ⟨_, rfl⟩
       replace H : (impl_complement.l0 k1 l0_1 (l0_1.length : Int) (wrap64 (x12_1 + 1)) a0_0 l0_1 a0_0 y1216) = some (r1, r2) := by first | (rw [hy1216]; with_reducible exact H) | (have H2_ := (Option.bind_some _ _).symm.trans H; rw [hy1216]; with_reducible exact H2_) | (have H2_ := (Option.bind_some _ _).symm.trans H; with_reducible exact H2_) | with_reducible exact H | (rw [hy1216]; exact H) | exact H
       have Ny1216 := Aside0.mk hy1216; clear hy1216
       have H' := Aside0.mk H
       clear H
       have p1213 : 0 ≤ (x12_1 : Int) := of_decide_eq_true (by first | (with_reducible assumption) | assumption)
       have q1213 : x12_1 < (l0_1.length : Int) := of_decide_eq_true (by first | (with_reducible assumption) | assumption)
       obtain ⟨ad1213, e1213, hx1213_0⟩ := Kd.at_int HR0_1.out x12_1 p1213 q1213; cases e1213; replace hx1213_0 := (HB.out.cell (World.block_lt_of_cell? w _ hx1213_0)).trans hx1213_0; replace p1213 := eq_true p1213; replace q1213 := eq_true q1213
       try go_wp2
       replace HO_1213001 := Aside0.mk (Kd.R_drew HO_1213001.out); replace BK1210 := Aside0.mk (blk_drew BK1210.out); replace BK1211 := Aside0.mk (blk_drew BK1211.out); replace BK1212 := Aside0.mk (blk_drew BK1212.out); replace HB := Aside0.mk (below_drew1 HB.out)
       refine start_ (n := 13) (S := fun w' => w'.cell? ⟨gb1212, 0, none⟩ = some (.int .i64 a0_0) ∧ w'.cell? ⟨gb1212, 1, none⟩ = some (u1213001) ∧ w'.cell? ⟨gb1210, 0, none⟩ = some (.int .i64 a0_0) ∧ w'.cell? ⟨gb1210, 1, none⟩ = some (.slice (some ad1213) l0_1.length c0_1)) (ds := [12]) #[false, false, false, false, false, false, false, false, false, false, false, false, false] (by kernel_rfl) rfl rfl ⟨bc BK1212 0, bc BK1212 1, bc BK1210 0, bc BK1210 1⟩ (fun hHeld => ?_); refine with_tabW impl_complement.tab5 impl_complement.bits5 (fun HT_ HW_ => ?_)
       generalize wr.drew = w17 at HO_1213001 BK1210 BK1211 BK1212 HB hHeld ⊢
       refine pure_ (i := 0) (N := some 17) (v := ?_) (a' := ?_) #[true, false, false, false, false, false, false, false, false, false, false, false, false] rfl rfl (any_of HT_.out (by kernel_rfl)) (fun _ _ _ h => h) (Or.inl ⟨by rfl, ?_⟩) ?_ ?_
       rotate_left
       ·intro w'
        go_simp
        with_reducible rfl
       rotate_left
       ·simp only [Act.put, s1, s2, s3, i64_w, i32_w]
        rfl
       refine pure_ (i := 4) (N := some 21) (v := ?_) (a' := ?_) #[true, false, false, false, true, false, false, false, false, false, false, false, false] rfl rfl (any_of HT_.out (by kernel_rfl)) (fun _ _ _ h => h) (Or.inl ⟨by rfl, ?_⟩) ?_ ?_
       rotate_left
       ·intro w'
        go_simp
        with_reducible rfl
       rotate_left
       ·simp only [Act.put, s1, s2, s3, i64_w, i32_w]
        rfl
       refine pure_ (i := 6) (N := some 23) (v := ?_) (a' := ?_) #[true, false, false, false, true, false, true, false, false, false, false, false, false] rfl rfl (any_of HT_.out (by kernel_rfl)) (fun _ _ _ h => h) (Or.inl ⟨by rfl, ?_⟩) ?_ ?_
       rotate_left
       ·intro w'
        go_simp
        with_reducible rfl
       rotate_left
       ·simp only [Act.put, s1, s2, s3, i64_w, i32_w]
        rfl
       refine take_ (i := 1) (N := some 18) (v := ?_) (a' := ?_) #[true, true, false, false, true, false, true, false, false, false, false, false, false] rfl rfl (take_ofW HT_.out HW_.out (by kernel_rfl)) (fun _ _ _ h => h) (Or.inl ⟨by rfl, ?_⟩) hHeld ?_ ?_
       rotate_left
       ·rintro w' ⟨s0, s1, s2, s3⟩
        go_simp
        with_reducible rfl
       rotate_left
       ·simp only [Act.put, s1, s2, s3, i64_w, i32_w]
        rfl
       refine take_ (i := 2) (N := some 19) (v := ?_) (a' := ?_) #[true, true, true, false, true, false, true, false, false, false, false, false, false] rfl rfl (take_ofW HT_.out HW_.out (by kernel_rfl)) (fun _ _ _ h => h) (Or.inl ⟨by rfl, ?_⟩) hHeld ?_ ?_
       rotate_left
       ·rintro w' ⟨s0, s1, s2, s3⟩
        go_simp
        with_reducible rfl
       rotate_left
       ·simp only [Act.put, s1, s2, s3, i64_w, i32_w]
        rfl
       refine one_ (i := 3) (N := some 20) #[true, true, true, true, true, false, true, false, false, false, false, false, false] rfl rfl (one_of HT_.out (by kernel_rfl)) (by decide) (fun K hK => ?_)
       refine goes_ Tryd.func76 (by kernel_rfl) rfl #[.agg #[.int .i64 a0_0, .slice (some ad1213) l0_1.length c0_1]] (by rfl) rfl rfl lz ?_
       with_reducible refine (impl_allLetters.calls a0_0 _ _ l0_1 t1214 _ ?side1 ?side2 A14.out).mono ?_
       (case side1 => have q_ := Aside0.mk (Kd.C_below HR0_1.out HB.out); exact cQ q_)
       (case side2 => exact HC0_1.out)
       rintro e w18 ⟨rfl, hb⟩
       refine ⟨_, rfl, ?_⟩
       replace HO_1213001 := kb HO_1213001 hb; replace BK1210 := bb BK1210 hb; replace BK1211 := bb BK1211 hb; replace BK1212 := bb BK1212 hb; replace HB := Aside0.mk (below_step (beQ HB) hb)
       (try clear hb)
       (try clear hb2)
       (try clear hk)
       (try clear hi)
       (try clear hgw_)
       refine hK.out _ _ ⟨bc BK1212 0, bc BK1212 1, bc BK1210 0, bc BK1210 1⟩ (fun hHeld => ?_)
       clear hK K
       refine norm_ (a' := ?_) ?_ ?_
       rotate_left
       ·show Act.put _ (some 20) _ = _
        simp only [Act.put, s1, s2, s3, i64_w, i32_w]
        rfl
       refine pure_ (i := 5) (N := some 22) (v := ?_) (a' := ?_) #[true, true, true, true, true, true, true, false, false, false, false, false, false] rfl rfl (any_of HT_.out (by kernel_rfl)) (fun _ _ _ h => h) (Or.inl ⟨by rfl, ?_⟩) ?_ ?_
       rotate_left
       ·intro w'
        go_simp
        with_reducible rfl
       rotate_left
       ·simp only [Act.put, s1, s2, s3, i64_w, i32_w]
        rfl
       refine one_ (i := 7) (N := some 24) #[true, true, true, true, true, true, true, true, false, false, false, false, false] rfl rfl (one_of HT_.out (by kernel_rfl)) (by decide) (fun K hK => ?_)
       refine goes_ Tryd.func121 (by kernel_rfl) rfl #[.int .i64 x12_1] (by rfl) rfl rfl lz ?_
       with_reducible refine (impl_one.calls x12_1 t1215 _ A15.out).mono ?_
       rintro e w' ⟨rfl, ⟨nd, rfl⟩⟩
       refine ⟨_, rfl, ?_⟩
       refine hK.out _ _ ⟨bc BK1212 0, bc BK1212 1, bc BK1210 0, bc BK1210 1⟩ (fun hHeld => ?_)
       clear hK K
       refine norm_ (a' := ?_) ?_ ?_
       rotate_left
       ·show Act.put _ (some 24) _ = _
        simp only [Act.put, s1, s2, s3, i64_w, i32_w]
        rfl
       refine pure_ (i := 8) (N := some 25) (v := ?_) (a' := ?_) #[true, true, true, true, true, true, true, true, true, false, false, false, false] rfl rfl (any_of HT_.out (by kernel_rfl)) (fun _ _ _ h => h) (Or.inl ⟨by rfl, ?_⟩) ?_ ?_
       rotate_left
       ·intro w'
        go_simp
        with_reducible rfl
       rotate_left
       ·simp only [Act.put, s1, s2, s3, i64_w, i32_w]
        rfl
       refine one_ (i := 9) (N := some 26) #[true, true, true, true, true, true, true, true, true, true, false, false, false] rfl rfl (one_of HT_.out (by kernel_rfl)) (by decide) (fun K hK => ?_)
       refine value_ (w1 := ?_) (v := ?_) (by rfl) rfl ?_ ?_
       rotate_left 2
       ·go_simp
        constructor
        ·rfl
        ·rfl
       refine hK.out _ _ ⟨(blk_cell (blk_alloc BK1212.out _) 0).trans rfl, (blk_cell (blk_alloc BK1212.out _) 1).trans rfl, (blk_cell (blk_alloc BK1210.out _) 0).trans rfl, (blk_cell (blk_alloc BK1210.out _) 1).trans rfl⟩ (fun hHeld => ?_)
       clear hK K
       refine norm_ (a' := ?_) ?_ ?_
       rotate_left
       ·show Act.put _ (some 26) _ = _
        simp only [Act.put, s1, s2, s3, i64_w, i32_w]
        rfl
       refine one_ (i := 10) (N := some 27) #[true, true, true, true, true, true, true, true, true, true, true, false, false] rfl rfl (one_of HT_.out (by kernel_rfl)) (by decide) (fun K hK => ?_)
       refine Kd.R_append_step (Kd.int .i64) (w0 := w) w.heap.size (by rfl) (.tmp 18) (.tmp 26) 24 2 (.int .i64 0) 8 rfl Tryd.underlying24 info2 rfl (by decide) (by omega) u1213001 x1213001_1 (Go.bits .or .i64 (Go.bits .andNot .i64 t1214 (rd l0_1 x12_1)) t1215) [.int .i64 (Go.bits .or .i64 (Go.bits .andNot .i64 t1214 (rd l0_1 x12_1)) t1215)] (fun _ => True) (fun _ => False) rfl rfl ?aP (fun _ hk => hk.elim) ?aF ?aO ?aB ?aS ?aL ?_
       (case aP => exact rfl)
       (case aB => exact (beQ HB))
       (case aF => exact (fun _ _ => trivial))
       (case aO => exact (kdQ HO_1213001))
       (case aS => exact (below_size (beQ HB)))
       (case aL => have := LMc16.out; omega)
       intro v1217 w19 ho hb hg hat
       rw [← Ny1216.out] at ho
       have n0_ := Aside0.mk (blk_grown (g := gb1210) (o := .cells #[.int .i64 a0_0, .slice (some ad1213) l0_1.length c0_1] 26 (0, 0)) (blkQ BK1210) hg (Kd.R_ne HO_1213001.out BK1210.out (by decide)))
       have n1_ := Aside0.mk (blk_grown (g := gb1211) (o := .cells #[.int .i64 0, .slice none 0 0] 26 (0, 0)) (blkQ BK1211) hg (Kd.R_ne HO_1213001.out BK1211.out (by decide)))
       have n2_ := Aside0.mk (blk_grown (g := gb1212) (o := .cells #[.int .i64 a0_0, u1213001] 26 (0, 0)) (blkQ BK1212) hg (Kd.R_ne HO_1213001.out BK1212.out (by decide)))
       have n3_ := Aside0.mk (hb); have n4_ := Aside0.mk (ho); clear BK1210; clear BK1211; clear BK1212; clear HB; clear HO_1213001; have BK1210 := n0_; have BK1211 := n1_; have BK1212 := n2_; have HB := n3_; have HO1218 := n4_; clear n0_ n1_ n2_ n3_ n4_; clear ho hb hg hat; obtain ⟨Ao20, co20, eo20⟩ := Kd.R_slice HO1218.out
       (first | subst eo20 | (injection eo20 with f1_ f2_ f3_; have f4_ := f1_.symm; have f5_ := f3_.symm; clear f1_ f2_ f3_; subst f4_; subst f5_))
       refine hK.out _ _ ⟨bc BK1212 0, bc BK1212 1, bc BK1210 0, bc BK1210 1⟩ (fun hHeld => ?_)
       clear hK K
       refine norm_ (a' := ?_) ?_ ?_
       rotate_left
       ·show Act.put _ (some 27) _ = _
        simp only [Act.put, s1, s2, s3, i64_w, i32_w]
        rfl
       refine pure_ (i := 11) (N := some 28) (v := ?_) (a' := ?_) #[true, true, true, true, true, true, true, true, true, true, true, true, false] rfl rfl (any_of HT_.out (by kernel_rfl)) (fun _ _ _ h => h) (Or.inl ⟨by rfl, ?_⟩) ?_ ?_
       rotate_left
       ·intro w'
        go_simp
        with_reducible rfl
       rotate_left
       ·simp only [Act.put, s1, s2, s3, i64_w, i32_w]
        rfl
       refine last_ (i := 12) (N := none) #[true, true, true, true, true, true, true, true, true, true, true, true, true] rfl rfl (one_of HT_.out (by kernel_rfl)) (by decide) (fun K hK => ?_)
       have hs21 : w19.cell? ⟨gb1212, 1, none⟩ = some (u1213001) := bc BK1212 1
       have hfs21 := blk_frozen BK1212.out 1; have hns21_0 := NB1210_1212.out; have hns21_1 := NB1211_1212.out; have hms21_0 := NB1212_1210.out; have hms21_1 := NB1212_1211.out
       refine skip_ (w1 := ?_) (by rfl) rfl ?_ ?_
       rotate_left
       ·go_simp
        rfl
       refine hK.out _ _ ?_
       clear hK K
       refine done_ (done_of HT_.out (by kernel_rfl)) ?_
       try go_wp2
       go_roundg k1
       case measure => have := HK1.out; omega
       case rel => exact ⟨(wrap64 (x12_1 + 1)), (y1216), (.slice Ao20 y1216.length co20), sz, H', ⟨by have := HK1.out; omega⟩, ⟨by (with_reducible repeat (first | apply Kd.R_alloc | apply Kd.R_drewN | apply Kd.R_drew)); exact Kd.R_mono (Kd.R_far (p := ⟨gb1212, 1, none⟩) (Kd.R_types HO1218.out BK1212.out (by decide)) (fun _ hk => hk.2) (.slice Ao20 y1216.length co20)) (fun _ hk => trivial)⟩, ⟨blkF BK1210⟩, ⟨blkF BK1211⟩, ⟨by (with_reducible repeat (first | refine blk_drewN ?_ _ | refine blk_drew ?_ | refine blk_alloc ?_ _)); refine blk_put (cs := #[.int .i64 a0_0, u1213001]) ?_ 1 _ rfl; (with_reducible repeat (first | refine blk_drewN ?_ _ | refine blk_drew ?_ | refine blk_alloc ?_ _)); exact BK1212.out⟩, ⟨beQ HB⟩⟩
      ·rw [if_neg c16] at H
       exact absurd H (by simp)
     ·rw [if_neg c13] at H
      exact absurd H (by simp)
    ·rw [if_neg c12] at H
     exact absurd H (by simp)
   ·rw [if_neg c11] at H
    have c11b0 : decide (x12_1 < (l0_1.length : Int)) = false := decide_eq_false c11
    clear c11
    simp only [Option.some.injEq, Prod.mk.injEq] at H
    obtain ⟨rfl, rfl⟩ := H; have hnb22 := NB1212_1210.out; have hnc22 := NB1210_1212.out; have hnb23 := NB1212_1211.out; have hnc23 := NB1211_1212.out
    have hcz24_0 : wr.cell? ⟨gb1212, 0, none⟩ = some (.int .i64 a0_0) := bc BK1212 0
    have hcz24_1 : wr.cell? ⟨gb1212, 1, none⟩ = some (u1213001) := bc BK1212 1
    have hfz24_0 := blk_frozen BK1212.out 0; have hfz24_1 := blk_frozen BK1212.out 1; have hnb25 := NB1211_1210.out; have hnc25 := NB1210_1211.out
    have hcz26_0 : wr.cell? ⟨gb1211, 0, none⟩ = some (.int .i64 0) := bc BK1211 0
    have hcz26_1 : wr.cell? ⟨gb1211, 1, none⟩ = some (.slice none 0 0) := bc BK1211 1
    have hfz26_0 := blk_frozen BK1211.out 0; have hfz26_1 := blk_frozen BK1211.out 1; obtain ⟨Ao27, co27, eo27⟩ := Kd.R_slice HO_1213001.out; subst eo27
    go_wp2
    refine bodyPost_ret (results_cell_row rfl _ _ gb1211 26 #[.int .i64 a0_0, .slice Ao27 x1213001_1.length co27] (0, 0) _ rfl (by (with_reducible repeat (first | refine blk_drewN ?_ _ | refine blk_drew ?_ | refine blk_alloc ?_ _)); refine blk_put (cs := #[.int .i64 a0_0, .slice none 0 0]) ?_ 1 _ rfl; (with_reducible repeat (first | refine blk_drewN ?_ _ | refine blk_drew ?_ | refine blk_alloc ?_ _)); refine blk_put (cs := #[.int .i64 0, .slice none 0 0]) ?_ 0 _ rfl; (with_reducible repeat (first | refine blk_drewN ?_ _ | refine blk_drew ?_ | refine blk_alloc ?_ _)); exact BK1211.out) Tryd.underlying26 rfl (by kernel_rfl)) rfl ?_
    exact ⟨_, rz, by (with_reducible repeat (first | apply Kd.R_alloc | apply Kd.R_drewN | apply Kd.R_drew)); exact Kd.R_mono (Kd.R_far (p := ⟨gb1211, 1, none⟩) (Kd.R_far (p := ⟨gb1211, 0, none⟩) (Kd.R_types HO_1213001.out BK1211.out (by decide)) (fun _ hk => hk.2) (.int .i64 a0_0)) (fun _ hk => hk.2) (.slice Ao27 x1213001_1.length co27)) (fun _ hk => trivial), beQ HB⟩
def impl_mutual.l0 : Nat → List Int → List Int → Int → Int → Option (List Int)
 | 0, _, _, _, _ => none
 | k + 1, x0, x3, x8, x9 => if x9 < x8 then (if 0 ≤ x9 then (if x9 < (x3.length : Int) then (if x9 < (x0.length : Int) then ((impl_one.f x9).bind fun t1262 => (impl_mutual.l0 k x0 (x3.set (x9 : Int).toNat (Go.bits .and .i64 (rd x3 x9) (Go.bits .andNot .i64 (rd x0 x9) t1262))) x8 (wrap64 (x9 + 1)))) else (none)) else (none)) else (none)) else (some x3)
def impl_mutual.f (k : Nat) (l0 : List Int) : Option (List Int) := (impl_converse.f k l0).bind fun t1257 => (impl_mutual.l0 k l0 t1257 (t1257.length : Int) 0)
def impl_mutual.T5 : Bool × List (List Nat × List Nat) := (true, [([], []), ([], []), ([0, 1], [0, 1]), ([2], [2]), ([], []), ([], []), ([4, 5], [4, 5]), ([6], [6]), ([], []), ([8], [8]), ([7, 9], [7, 9]), ([3, 10], [3, 10]), ([0, 1, 0, 1, 2, 3, 4, 5, 6, 7, 8, 9, 10, 11], [0, 1]), ([12, 11, 9, 0, 1, 2, 3, 4, 5, 6, 7, 8, 9, 10, 11], [11, 12])])
def impl_mutual.B5 : List Nat := [0, 0, 3, 7, 0, 0, 48, 112, 0, 256, 1008, 2047, 4095, 8191]
theorem impl_mutual.tab5 : rtab .any (opsOf Tryd.f148 5) = impl_mutual.T5 := by kernel_rfl
theorem impl_mutual.bits5 : waitsOk impl_mutual.T5.2 impl_mutual.B5 = true := by kernel_rfl
set_option maxHeartbeats 8000000 in
set_option maxRecDepth 100000 in
theorem impl_mutual.calls (k : Nat) (A0 : Option Addr) (c0 : Nat) (l0 : List Int) (r : List Int) (w : World) (hr0 : Kd.C (Kd.int .i64) w A0 l0.length l0) (hc0 : l0.length ≤ c0) (hT : TabW w) (h : impl_mutual.f k l0 = some r) :
  Calls Tryd.prog 148 #[.slice A0 l0.length c0] w fun e w' => ∃ v0_ : Value, e = .returned (v0_) ∧ Kd.R (Kd.int .i64) 2 w' w.heap.size (fun _ => True) v0_ r ∧ Below w.heap.size w w' := by
 have HT := Aside0.mk hT; clear hT; have HR0 := Aside0.mk hr0; have HC0 := Aside0.mk hc0; clear hr0 hc0; have HB := Aside0.mk (Below.refl w.heap.size w)
 have H : ((impl_converse.f k l0).bind fun t1257 => (impl_mutual.l0 k l0 t1257 (t1257.length : Int) 0)) = some r := h
 clear h; replace H := Option.bind_eq_some_iff.mp H; obtain ⟨t1257, A20, H⟩ := H
 replace H : (impl_mutual.l0 k l0 t1257 (t1257.length : Int) 0) = some r := H
 have A2 := Aside0.mk A20; clear A20
 have H' := Aside0.mk H
 clear H
 go_enter Tryd.func148, Tryd.ntmps148
 go_wp2_with (first | ((with_reducible refine gate_callee (f := 120) rfl ?_); refine goesL_ (some 6) rfl rfl Tryd.func120 (by kernel_rfl) rfl #[.slice A0 l0.length c0] rfl lz ?_; (with_reducible refine (impl_converse.calls k _ _ l0 t1257 _ ?side1 ?side2 ?side3 A2.out).mono ?_); (case side1 => have q_ := Aside0.mk HR0.out; exact cQ q_); (case side2 => exact HC0.out); (case side3 => exact TabW.below HT.out (beQ HB)); rintro e w3 ⟨v1258, rfl, ho0, hb⟩; refine ⟨_, rfl, ?_⟩; have HO1259 := Aside0.mk (Kd.R_lower ho0 (below_size (beQ HB))); replace HB := Aside0.mk (below_step (beQ HB) hb); (try clear hb); (try clear hb2); (try clear hk); (try clear hi); (try clear hgw_); (try clear ho0); obtain ⟨Ao4, co4, eo4⟩ := Kd.R_slice HO1259.out; subst eo4))
 go_loopg [9] k (fun kq v9 w' => ∃ (x3_1 : List Int) (x9_1 : Int), v9 = .int .i64 x9_1 ∧ Aside0 (impl_mutual.l0 kq l0 x3_1 (t1257.length : Int) x9_1 = some r) ∧ Aside0 (kq ≤ k) ∧ Aside0 (Kd.R (Kd.int .i64) 2 w' w.heap.size (fun _ => True) (.slice Ao4 t1257.length co4) x3_1) ∧ Aside0 (Below w.heap.size w w'))
 case atStart => exact ⟨(t1257), (0), sz, H', ⟨Nat.le_refl _⟩, ⟨kdQ HO1259⟩, ⟨beQ HB⟩⟩
 case round =>
  clear H'
  try clear c1
  try clear p2
  obtain ⟨x3_1, x9_1, rfl, HA, HK1, HO_3, HB⟩ := hrel; have hl3_1 := (Kd.R_reads' HO_3.out).1; rw [hl3_1] at HO_3
  (try simp only [hl3_1])
  cases gk with
  | zero => exact absurd HA.out (by simp [impl_mutual.l0])
  | succ k1 =>
   have H := HA.out; clear HA
   simp only [impl_mutual.l0] at H
   by_cases c5 : x9_1 < (t1257.length : Int)
   ·rw [if_pos c5] at H
    have c5b0 : decide (x9_1 < (t1257.length : Int)) = true := decide_eq_true c5
    (try simp only [hl3_1] at c5b0)
    clear c5
    by_cases c6 : 0 ≤ x9_1
    ·rw [if_pos c6] at H
     have c6b0 : decide (0 ≤ x9_1) = true := decide_eq_true c6
     clear c6
     by_cases c7 : x9_1 < (x3_1.length : Int)
     ·rw [if_pos c7] at H
      have c7b0 : decide (x9_1 < (x3_1.length : Int)) = true := decide_eq_true c7
      (try simp only [hl3_1] at c7b0)
      clear c7
      by_cases c8 : x9_1 < (l0.length : Int)
      ·rw [if_pos c8] at H
       have c8b0 : decide (x9_1 < (l0.length : Int)) = true := decide_eq_true c8
       (try simp only [hl3_1] at c8b0)
       clear c8; replace H := Option.bind_eq_some_iff.mp H; obtain ⟨t1262, A90, H⟩ := H
       replace H : (impl_mutual.l0 k1 l0 (x3_1.set (x9_1 : Int).toNat (Go.bits .and .i64 (rd x3_1 x9_1) (Go.bits .andNot .i64 (rd l0 x9_1) t1262))) (t1257.length : Int) (wrap64 (x9_1 + 1))) = some r := H
       have A9 := Aside0.mk A90; clear A90
       obtain ⟨y1263, hy1263⟩ : ∃ y_ : List Int, y_ = (x3_1.set (x9_1 : Int).toNat (Go.bits .and .i64 (rd x3_1 x9_1) (Go.bits .andNot .i64 (rd l0 x9_1) t1262))) := ⟨_, rfl⟩
       replace H : (impl_mutual.l0 k1 l0 y1263 (t1257.length : Int) (wrap64 (x9_1 + 1))) = some r := by first | (rw [hy1263]; with_reducible exact H) | (have H2_ := (Option.bind_some _ _).symm.trans H; rw [hy1263]; with_reducible exact H2_) | (have H2_ := (Option.bind_some _ _).symm.trans H; with_reducible exact H2_) | with_reducible exact H | (rw [hy1263]; exact H) | exact H
       have Ny1263 := Aside0.mk hy1263; clear hy1263
       have H' := Aside0.mk H
       clear H
       try go_wp2
       replace HO_3 := Aside0.mk (Kd.R_drew HO_3.out); replace HB := Aside0.mk (below_drew1 HB.out)
       have p1260 : 0 ≤ (x9_1 : Int) := of_decide_eq_true (by first | (with_reducible assumption) | assumption)
       have q1260 : x9_1 < (x3_1.length : Int) := of_decide_eq_true (by first | (with_reducible assumption) | assumption)
       obtain ⟨ad1260, e1260, hx1260_0⟩ := Kd.at_int (Kd.R_reads' HO_3.out).2.2 x9_1 p1260 q1260; cases e1260; replace p1260 := eq_true p1260; replace q1260 := eq_true q1260
       have p1261 : 0 ≤ (x9_1 : Int) := of_decide_eq_true (by first | (with_reducible assumption) | assumption)
       have q1261 : x9_1 < (l0.length : Int) := of_decide_eq_true (by first | (with_reducible assumption) | assumption)
       obtain ⟨ad1261, e1261, hx1261_0⟩ := Kd.at_int HR0.out x9_1 p1261 q1261; have hw1261_0 := hx1261_0; cases e1261; replace hx1261_0 := (HB.out.cell (World.block_lt_of_cell? w _ hx1261_0)).trans hx1261_0; replace p1261 := eq_true p1261; replace q1261 := eq_true q1261
       refine start_ (n := 14) (S := fun w' => w'.cell? (ad1260.add (x9_1).toNat) = some (.int .i64 (rd x3_1 x9_1)) ∧ w'.cell? (ad1261.add (x9_1).toNat) = some (.int .i64 (rd l0 x9_1))) (ds := [13]) #[false, false, false, false, false, false, false, false, false, false, false, false, false, false] (by kernel_rfl) rfl rfl ⟨hx1260_0, ((HB.out.cell (World.block_lt_of_cell? _ _ hw1261_0)).trans hw1261_0)⟩ (fun hHeld => ?_); refine with_tabW impl_mutual.tab5 impl_mutual.bits5 (fun HT_ HW_ => ?_)
       generalize wr.drew = w11 at HO_3 HB hx1260_0 hx1261_0 hHeld ⊢
       refine pure_ (i := 0) (N := some 12) (v := ?_) (a' := ?_) #[true, false, false, false, false, false, false, false, false, false, false, false, false, false] rfl rfl (any_of HT_.out (by kernel_rfl)) (fun _ _ _ h => h) (Or.inl ⟨by rfl, ?_⟩) ?_ ?_
       rotate_left
       ·intro w'
        go_simp
        with_reducible rfl
       rotate_left
       ·simp only [Act.put, s1, s2, s3, i64_w, i32_w]
        rfl
       refine pure_ (i := 1) (N := some 13) (v := ?_) (a' := ?_) #[true, true, false, false, false, false, false, false, false, false, false, false, false, false] rfl rfl (any_of HT_.out (by kernel_rfl)) (fun _ _ _ h => h) (Or.inl ⟨by rfl, ?_⟩) ?_ ?_
       rotate_left
       ·intro w'
        go_simp
        with_reducible rfl
       rotate_left
       ·simp only [Act.put, s1, s2, s3, i64_w, i32_w]
        rfl
       refine pure_ (i := 2) (N := some 14) (v := ?_) (a' := ?_) #[true, true, true, false, false, false, false, false, false, false, false, false, false, false] rfl rfl (any_of HT_.out (by kernel_rfl)) (fun _ _ _ h => h) (Or.inl ⟨by rfl, ?_⟩) ?_ ?_
       rotate_left
       ·intro w'
        go_simp
        with_reducible rfl
       rotate_left
       ·simp only [Act.put, s1, s2, s3, i64_w, i32_w]
        rfl
       refine pure_ (i := 4) (N := some 16) (v := ?_) (a' := ?_) #[true, true, true, false, true, false, false, false, false, false, false, false, false, false] rfl rfl (any_of HT_.out (by kernel_rfl)) (fun _ _ _ h => h) (Or.inl ⟨by rfl, ?_⟩) ?_ ?_
       rotate_left
       ·intro w'
        go_simp
        with_reducible rfl
       rotate_left
       ·simp only [Act.put, s1, s2, s3, i64_w, i32_w]
        rfl
       refine pure_ (i := 5) (N := some 17) (v := ?_) (a' := ?_) #[true, true, true, false, true, true, false, false, false, false, false, false, false, false] rfl rfl (any_of HT_.out (by kernel_rfl)) (fun _ _ _ h => h) (Or.inl ⟨by rfl, ?_⟩) ?_ ?_
       rotate_left
       ·intro w'
        go_simp
        with_reducible rfl
       rotate_left
       ·simp only [Act.put, s1, s2, s3, i64_w, i32_w]
        rfl
       refine pure_ (i := 6) (N := some 18) (v := ?_) (a' := ?_) #[true, true, true, false, true, true, true, false, false, false, false, false, false, false] rfl rfl (any_of HT_.out (by kernel_rfl)) (fun _ _ _ h => h) (Or.inl ⟨by rfl, ?_⟩) ?_ ?_
       rotate_left
       ·intro w'
        go_simp
        with_reducible rfl
       rotate_left
       ·simp only [Act.put, s1, s2, s3, i64_w, i32_w]
        rfl
       refine pure_ (i := 8) (N := some 20) (v := ?_) (a' := ?_) #[true, true, true, false, true, true, true, false, true, false, false, false, false, false] rfl rfl (any_of HT_.out (by kernel_rfl)) (fun _ _ _ h => h) (Or.inl ⟨by rfl, ?_⟩) ?_ ?_
       rotate_left
       ·intro w'
        go_simp
        with_reducible rfl
       rotate_left
       ·simp only [Act.put, s1, s2, s3, i64_w, i32_w]
        rfl
       refine take_ (i := 3) (N := some 15) (v := ?_) (a' := ?_) #[true, true, true, true, true, true, true, false, true, false, false, false, false, false] rfl rfl (take_ofW HT_.out HW_.out (by kernel_rfl)) (fun _ _ _ h => h) (Or.inl ⟨by rfl, ?_⟩) hHeld ?_ ?_
       rotate_left
       ·rintro w' ⟨s0, s1⟩
        go_simp
        with_reducible rfl
       rotate_left
       ·simp only [Act.put, s1, s2, s3, i64_w, i32_w]
        rfl
       refine take_ (i := 7) (N := some 19) (v := ?_) (a' := ?_) #[true, true, true, true, true, true, true, true, true, false, false, false, false, false] rfl rfl (take_ofW HT_.out HW_.out (by kernel_rfl)) (fun _ _ _ h => h) (Or.inl ⟨by rfl, ?_⟩) hHeld ?_ ?_
       rotate_left
       ·rintro w' ⟨s0, s1⟩
        go_simp
        with_reducible rfl
       rotate_left
       ·simp only [Act.put, s1, s2, s3, i64_w, i32_w]
        rfl
       refine one_ (i := 9) (N := some 21) #[true, true, true, true, true, true, true, true, true, true, false, false, false, false] rfl rfl (one_of HT_.out (by kernel_rfl)) (by decide) (fun K hK => ?_)
       refine goes_ Tryd.func121 (by kernel_rfl) rfl #[.int .i64 x9_1] (by rfl) rfl rfl lz ?_
       with_reducible refine (impl_one.calls x9_1 t1262 _ A9.out).mono ?_
       rintro e w' ⟨rfl, ⟨nd, rfl⟩⟩
       refine ⟨_, rfl, ?_⟩
       have p10 : 0 ≤ (x9_1 : Int) := of_decide_eq_true (by first | (with_reducible assumption) | assumption)
       have q10 : (x9_1 : Int) < ((x3_1.length : Int) : Int) := of_decide_eq_true (by first | (with_reducible assumption) | assumption)
       obtain ⟨go10, co10, eo10, gb10, gl10, cl10, HG10⟩ := Kd.R_form HO_3.out (by omega)
       (first | cases eo10 | (injection eo10 with ea_ en_ ec_; (first | subst ea_ | (injection ea_ with ea_; subst ea_)); subst ec_; clear en_))
       have GB10 := Aside0.mk gb10; have GG10 := Aside0.mk HG10; clear gb10 gl10 HG10
       (first | simp only [add_plain] at hx1260_0 | skip)
       obtain ⟨hx10_0, hf10_0⟩ := Kd.R_celln 0 HO_3.out (x9_1 : Int) p10 q10; replace p10 := eq_true p10; replace q10 := eq_true q10; have HP12 := Kd.R_putn HO_3.out (x9_1 : Int) (Go.bits .and .i64 (rd x3_1 x9_1) (Go.bits .andNot .i64 (rd l0 x9_1) t1262)); rw [← Ny1263.out] at HP12; have HQ12 := Aside0.mk HP12; clear HP12
       refine hK.out _ _ ⟨hHeld.1, ((HB.out.cell (World.block_lt_of_cell? _ _ hw1261_0)).trans hw1261_0)⟩ (fun hHeld => ?_)
       clear hK K
       refine norm_ (a' := ?_) ?_ ?_
       rotate_left
       ·show Act.put _ (some 21) _ = _
        simp only [Act.put, s1, s2, s3, i64_w, i32_w]
        rfl
       refine pure_ (i := 10) (N := some 22) (v := ?_) (a' := ?_) #[true, true, true, true, true, true, true, true, true, true, true, false, false, false] rfl rfl (any_of HT_.out (by kernel_rfl)) (fun _ _ _ h => h) (Or.inl ⟨by rfl, ?_⟩) ?_ ?_
       rotate_left
       ·intro w'
        go_simp
        with_reducible rfl
       rotate_left
       ·simp only [Act.put, s1, s2, s3, i64_w, i32_w]
        rfl
       refine pure_ (i := 11) (N := some 23) (v := ?_) (a' := ?_) #[true, true, true, true, true, true, true, true, true, true, true, true, false, false] rfl rfl (any_of HT_.out (by kernel_rfl)) (fun _ _ _ h => h) (Or.inl ⟨by rfl, ?_⟩) ?_ ?_
       rotate_left
       ·intro w'
        go_simp
        with_reducible rfl
       rotate_left
       ·simp only [Act.put, s1, s2, s3, i64_w, i32_w]
        rfl
       refine pure_ (i := 12) (N := some 24) (v := ?_) (a' := ?_) #[true, true, true, true, true, true, true, true, true, true, true, true, true, false] rfl rfl (any_of HT_.out (by kernel_rfl)) (fun _ _ _ h => h) (Or.inl ⟨by rfl, ?_⟩) ?_ ?_
       rotate_left
       ·intro w'
        go_simp
        with_reducible rfl
       rotate_left
       ·simp only [Act.put, s1, s2, s3, i64_w, i32_w]
        rfl
       refine last_ (i := 13) (N := none) #[true, true, true, true, true, true, true, true, true, true, true, true, true, true] rfl rfl (one_of HT_.out (by kernel_rfl)) (by decide) (fun K hK => ?_)
       refine skip_ (w1 := ?_) (by rfl) rfl ?_ ?_
       rotate_left
       ·go_simp
        rfl
       refine hK.out _ _ ?_
       clear hK K
       refine done_ (done_of HT_.out (by kernel_rfl)) ?_
       try go_wp2
       (try simp only [← hl3_1])
       go_roundg k1
       case measure => have := HK1.out; omega
       case rel => exact ⟨(y1263), (wrap64 (x9_1 + 1)), sz, H', ⟨by have := HK1.out; omega⟩, ⟨by (try simp only [hl3_1]); (with_reducible repeat (first | apply Kd.R_alloc | apply Kd.R_drewN | apply Kd.R_drew)); exact HQ12.out⟩, ⟨by repeat (first | (with_reducible first | exact HB.out | apply below_alloc | apply pw_below_drewN | apply below_drew1 | refine below_set ?_ GB10.out) | exact HB.out)⟩⟩
      ·rw [if_neg c8] at H
       exact absurd H (by simp)
     ·rw [if_neg c7] at H
      exact absurd H (by simp)
    ·rw [if_neg c6] at H
     exact absurd H (by simp)
   ·rw [if_neg c5] at H
    have c5b0 : decide (x9_1 < (t1257.length : Int)) = false := decide_eq_false c5
    (try simp only [hl3_1] at c5b0)
    clear c5
    obtain rfl := Option.some.inj H
    go_wp2
    go_ret
    exact ⟨_, rz, kdQ HO_3, beQ HB⟩
end Go.Proofs.YtleeihpmniabhaaDoor.G
