-- A copy, with what one law needs, of a text that print.sh or a program of ours wrote
import Derived.Test.YtleeihpmniabhaaDoorZ11G0
import Derived.Test.YtleeihpmniabhaaDoorZ11GQ01c
import Derived.Test.YtleeihpmniabhaaDoorZ11GQ17a
namespace Go.Proofs.YtleeihpmniabhaaDoor.G
open Go.RowKit Go.Proofs.YtleeihpmniabhaaDoorW.PrintWords Go.Proofs.YtleeihpmniabhaaDoorW.PrintLast Go.Proofs.YtleeihpmniabhaaDoorW.PrintMore
attribute [local go_sem] max2_int min2_int max_two min_two max_three min_three max_four min_four   -- for this text's walks alone
set_option linter.unusedVariables false
set_option linter.unusedSimpArgs false
mutual
def impl_product.j0 : Nat → Bool → Bool → Int → List Int → Int → List Int → Option (Int × List Int × Int)
 | 0, _, _, _, _, _, _ => none
 | k + 1, x2, x21, x1155000, x1155001, x1156000, x1156001 => if x21 = true then (some (0, ([] : List Int), 1)) else (if (wrap64 (x1155000 + x1156000)) > 8 then (some (0, ([] : List Int), 3)) else ((slices_Clone_int64_int64_133.f x1155001).bind fun t1159 => (impl_product.l0 k x2 x1155000 x1156001 (x1156001.length : Int) 0 x1156000 x1156001 (wrap64 (x1155000 + x1156000)) t1159)))
def impl_product.l0 : Nat → Bool → Int → List Int → Int → Int → Int → List Int → Int → List Int → Option (Int × List Int × Int)
 | 0, _, _, _, _, _, _, _, _, _ => none
 | k + 1, x2, x8, x40, x41, x42, x1156000, x1156001, x1163000, x1163001 => if x42 < x41 then (if 0 ≤ x42 then (if x42 < (x40.length : Int) then (if 0 ≤ x8 then (if x1163001.length < 17592186044416 then (impl_product.l0 k x2 x8 x40 x41 (wrap64 (x42 + 1)) x1156000 x1156001 x1163000 (x1163001 ++ [shl .i64 (rd x40 x42) x8])) else (none)) else (none)) else (none)) else (none)) else (if x2 = true then (impl_product.l1 k x8 x8 0 x1156000 x1156001 x1163000 x1163001) else (some (x1163000, x1163001, 0)))
def impl_product.l1 : Nat → Int → Int → Int → Int → List Int → Int → List Int → Option (Int × List Int × Int)
 | 0, _, _, _, _, _, _, _ => none
 | k + 1, x8, x56, x57, x1156000, x1156001, x1163000, x1163001 => if x57 < x56 then (impl_product.l2 k x8 x57 x56 x57 x1156000 0 x1156000 x1156001 x1163000 x1163001) else (some (x1163000, x1163001, 0))
def impl_product.l2 : Nat → Int → Int → Int → Int → Int → Int → Int → List Int → Int → List Int → Option (Int × List Int × Int)
 | 0, _, _, _, _, _, _, _, _, _, _ => none
 | k + 1, x8, x12, x56, x57, x61, x62, x1156000, x1156001, x1163000, x1163001 => if x62 < x61 then ((impl_Alphabet_tie.f x1163000 x1163001 x12 (wrap64 (x8 + x62))).bind fun t1167 => (impl_product.l2 k x8 x12 x56 x57 x61 (wrap64 (x62 + 1)) x1156000 x1156001 x1163000 t1167)) else (impl_product.l1 k x8 x56 (wrap64 (x57 + 1)) x1156000 x1156001 x1163000 x1163001)
end
def impl_product.f (k : Nat) (a0_0 : Int) (l0_1 : List Int) (a1_0 : Int) (l1_1 : List Int) (a2 : Bool) : Option (Int × List Int × Int) := (impl_IsAlphabet.f k a0_0 l0_1).bind fun t1157 => (if t1157 = true then ((impl_IsAlphabet.f k a1_0 l1_1).bind fun t1158 => (impl_product.j0 k a2 (!t1158) a0_0 l0_1 a1_0 l1_1)) else (impl_product.j0 k a2 true a0_0 l0_1 a1_0 l1_1))
def impl_product.T6 : Bool × List (List Nat × List Nat) := (true, [([], []), ([], []), ([1], [1]), ([0, 2], [0, 2]), ([], []), ([4], [4]), ([5], [5]), ([3, 6], [3, 6]), ([], []), ([8, 7, 6, 0, 1, 2, 3, 4, 5, 6, 7, 8], [7, 8])])
def impl_product.B6 : List Nat := [0, 0, 2, 7, 0, 16, 48, 127, 0, 511]
theorem impl_product.tab6 : rtab .any (opsOf Tryd.f100 6) = impl_product.T6 := by kernel_rfl
theorem impl_product.bits6 : waitsOk impl_product.T6.2 impl_product.B6 = true := by kernel_rfl
def impl_product.T10 : Bool × List (List Nat × List Nat) := (true, [([], []), ([0], [0]), ([], []), ([], []), ([2, 3], [2, 3]), ([4], [4]), ([1, 5], [1, 5]), ([0, 1, 2, 3, 4, 5, 6], []), ([7, 6, 6, 0, 1, 2, 3, 4, 5, 6], [6, 7])])
def impl_product.B10 : List Nat := [0, 1, 0, 0, 12, 28, 63, 127, 255]
theorem impl_product.tab10 : rtab .any (opsOf Tryd.f100 10) = impl_product.T10 := by kernel_rfl
theorem impl_product.bits10 : waitsOk impl_product.T10.2 impl_product.B10 = true := by kernel_rfl
set_option maxHeartbeats 8000000 in
set_option maxRecDepth 100000 in
theorem impl_product.calls (k : Nat) (a0_0 : Int) (A0_1 : Option Addr) (c0_1 : Nat) (l0_1 : List Int) (a1_0 : Int) (A1_1 : Option Addr) (c1_1 : Nat) (l1_1 : List Int) (a2 : Bool) (r1 : Int) (r2 : List Int) (r3 : Int) (w : World) (hr0_1 : Kd.C (Kd.int .i64) w A0_1 l0_1.length l0_1) (hc0_1 : l0_1.length ≤ c0_1) (hr1_1 : Kd.C (Kd.int .i64) w A1_1 l1_1.length l1_1) (hc1_1 : l1_1.length ≤ c1_1) (hT : TabW w) (h : impl_product.f k a0_0 l0_1 a1_0 l1_1 a2 = some (r1, r2, r3)) :
  Calls Tryd.prog 100 #[.agg #[.int .i64 a0_0, .slice A0_1 l0_1.length c0_1], .agg #[.int .i64 a1_0, .slice A1_1 l1_1.length c1_1], .bool a2] w fun e w' => ∃ v1_ : Value, e = .returned (.tuple #[.agg #[.int .i64 r1, v1_], .int .i64 r3]) ∧ Kd.R (Kd.int .i64) 2 w' w.heap.size (fun _ => True) v1_ r2 ∧ Below w.heap.size w w' := by
 have hu26 := Tryd.underlying26; have HT := Aside0.mk hT; clear hT; have HR0_1 := Aside0.mk hr0_1; have HC0_1 := Aside0.mk hc0_1; clear hr0_1 hc0_1; have HR1_1 := Aside0.mk hr1_1; have HC1_1 := Aside0.mk hc1_1; clear hr1_1 hc1_1; have HB := Aside0.mk (Below.refl w.heap.size w)
 have H : ((impl_IsAlphabet.f k a0_0 l0_1).bind fun t1157 => (if t1157 = true then ((impl_IsAlphabet.f k a1_0 l1_1).bind fun t1158 => (impl_product.j0 k a2 (!t1158) a0_0 l0_1 a1_0 l1_1)) else (impl_product.j0 k a2 true a0_0 l0_1 a1_0 l1_1))) = some (r1, r2, r3) := h
 clear h; have HC4 := Aside0.mk H; clear H
 go_enter Tryd.func100, Tryd.ntmps100
 go_upto_region 1 with (first | ((with_reducible refine gate_dst (N := 3) rfl ?_); refine box_event ?hg (N := 3) ?hd (cs := #[.int .i64 a0_0, .slice A0_1 l0_1.length c0_1]) (t := 26) ?hr ?_; (case hd => rfl); (case hg => rfl); (case hr => first | (go_simp; done) | (go_simp; rfl)); intro gb1154 hg w5 hbox hb; have BK1154 := Aside0.mk (hbox); have GW1154 := Aside0.mk ((by rw [hg]; exact (below_size (beQ HB)) : w.heap.size ≤ gb1154)); have GE1154 := Aside0.mk ((by rw [hg]; exact (below_size (beQ HB)) : w.heap.size ≤ gb1154)); replace HB := Aside0.mk (below_step (beQ HB) hb); clear hb hbox hg) | ((with_reducible refine gate_dst (N := 4) rfl ?_); refine box_event ?hg (N := 4) ?hd (cs := #[.int .i64 a1_0, .slice A1_1 l1_1.length c1_1]) (t := 26) ?hr ?_; (case hd => rfl); (case hg => rfl); (case hr => first | (go_simp; done) | (go_simp; rfl)); intro gb1155 hg w6 hbox hb; have BK1155 := Aside0.mk (hbox); have GW1155 := Aside0.mk ((by rw [hg]; exact (below_size (beQ HB)) : w.heap.size ≤ gb1155)); have GE1155 := Aside0.mk ((by rw [hg]; exact (below_size (beQ HB)) : w.heap.size ≤ gb1155)); replace HB := Aside0.mk (below_step (beQ HB) hb); have NB1154_1155 := Aside0.mk ((by rw [hg]; exact Nat.ne_of_lt (blk_lt (blkQ BK1154)) : gb1154 ≠ gb1155)); have NB1155_1154 := Aside0.mk ((by rw [hg]; exact Nat.ne_of_gt (blk_lt (blkQ BK1154)) : gb1155 ≠ gb1154)); replace BK1154 := bb BK1154 hb; clear hb hbox hg) | ((with_reducible refine gate_dst (N := 6) rfl ?_); refine box_event ?hg (N := 6) ?hd (cs := #[.int .i64 0, .slice none 0 0]) (t := 26) ?hr ?_; (case hd => rfl); (case hg => rfl); (case hr => first | (go_simp; done) | (go_simp; rfl)); intro gb1156 hg w7 hbox hb; have BK1156 := Aside0.mk (hbox); have GW1156 := Aside0.mk ((by rw [hg]; exact (below_size (beQ HB)) : w.heap.size ≤ gb1156)); have GE1156 := Aside0.mk ((by rw [hg]; exact (below_size (beQ HB)) : w.heap.size ≤ gb1156)); replace HB := Aside0.mk (below_step (beQ HB) hb); have NB1154_1156 := Aside0.mk ((by rw [hg]; exact Nat.ne_of_lt (blk_lt (blkQ BK1154)) : gb1154 ≠ gb1156)); have NB1156_1154 := Aside0.mk ((by rw [hg]; exact Nat.ne_of_gt (blk_lt (blkQ BK1154)) : gb1156 ≠ gb1154)); replace BK1154 := bb BK1154 hb; have NB1155_1156 := Aside0.mk ((by rw [hg]; exact Nat.ne_of_lt (blk_lt (blkQ BK1155)) : gb1155 ≠ gb1156)); have NB1156_1155 := Aside0.mk ((by rw [hg]; exact Nat.ne_of_gt (blk_lt (blkQ BK1155)) : gb1156 ≠ gb1155)); replace BK1155 := bb BK1155 hb; clear hb hbox hg))
 (try simp only [Act.put, List.setIfInBounds_toArray, List.set_cons_zero, List.set_cons_succ])
 go_cut [21] (fun v21 wc => ∃ (kq : Nat) (x21_3 : Bool), v21 = .bool x21_3 ∧ Aside0 (impl_product.j0 kq a2 x21_3 a0_0 l0_1 a1_0 l1_1 = some (r1, r2, r3)) ∧ Aside0 (kq ≤ k) ∧ Aside0 (wc.heap[gb1154]? = some (.cells #[.int .i64 a0_0, (.slice A0_1 l0_1.length c0_1)] 26 (0, 0))) ∧ Aside0 (wc.heap[gb1155]? = some (.cells #[.int .i64 a1_0, (.slice A1_1 l1_1.length c1_1)] 26 (0, 0))) ∧ Aside0 (wc.heap[gb1156]? = some (.cells #[.int .i64 0, (.slice none 0 0)] 26 (0, 0))) ∧ Aside0 (Below w.heap.size w wc))
 case first =>
  have H := HC4.out; clear HC4; replace H := Option.bind_eq_some_iff.mp H; obtain ⟨t1157, A80, H⟩ := H
  replace H : (if t1157 = true then ((impl_IsAlphabet.f k a1_0 l1_1).bind fun t1158 => (impl_product.j0 k a2 (!t1158) a0_0 l0_1 a1_0 l1_1)) else (impl_product.j0 k a2 true a0_0 l0_1 a1_0 l1_1)) = some (r1, r2, r3) := H
  have A8 := Aside0.mk A80; clear A80
  by_cases c9 : t1157 = true
  ·subst c9
   have H1 : ((impl_IsAlphabet.f k a1_0 l1_1).bind fun t1158 => (impl_product.j0 k a2 (!t1158) a0_0 l0_1 a1_0 l1_1)) = some (r1, r2, r3) := by rw [if_pos rfl] at H; exact H
   clear H; have H := H1; clear H1; replace H := Option.bind_eq_some_iff.mp H; obtain ⟨t1158, A100, H⟩ := H
   replace H : (impl_product.j0 k a2 (!t1158) a0_0 l0_1 a1_0 l1_1) = some (r1, r2, r3) := H
   have A10 := Aside0.mk A100; clear A100
   have H' := Aside0.mk H
   clear H; have hnb11 := NB1154_1155.out; have hnc11 := NB1155_1154.out; have hnb12 := NB1154_1156.out; have hnc12 := NB1156_1154.out
   have hcz13_0 : w7.cell? ⟨gb1154, 0, none⟩ = some (.int .i64 a0_0) := bc BK1154 0
   have hcz13_1 : w7.cell? ⟨gb1154, 1, none⟩ = some (.slice A0_1 l0_1.length c0_1) := bc BK1154 1
   have hfz13_0 := blk_frozen BK1154.out 0; have hfz13_1 := blk_frozen BK1154.out 1
   go_wp2_with (first | ((with_reducible refine gate_callee (f := 62) rfl ?_); refine goesL_ (some 15) rfl rfl Tryd.func62 (by kernel_rfl) rfl #[.agg #[.int .i64 a0_0, .slice A0_1 l0_1.length c0_1]] rfl lz ?_; (with_reducible refine (impl_IsAlphabet.calls k a0_0 _ _ l0_1 true _ ?side1 ?side2 ?side3 A8.out).mono ?_); (case side1 => have q_ := Aside0.mk (Kd.C_below HR0_1.out HB.out); exact cQ q_); (case side2 => exact HC0_1.out); (case side3 => exact TabW.below HT.out (beQ HB)); rintro e w14 ⟨rfl, hb⟩; refine ⟨_, rfl, ?_⟩; replace BK1154 := bb BK1154 hb; replace BK1155 := bb BK1155 hb; replace BK1156 := bb BK1156 hb; replace HB := Aside0.mk (below_step (beQ HB) hb); (try clear hb); (try clear hb2); (try clear hk); (try clear hi); (try clear hgw_); have hnb15 := NB1155_1156.out; have hnc15 := NB1156_1155.out; have hcz16_0 : w14.cell? ⟨gb1155, 0, none⟩ = some (.int .i64 a1_0) := bc BK1155 0; have hcz16_1 : w14.cell? ⟨gb1155, 1, none⟩ = some (.slice A1_1 l1_1.length c1_1) := bc BK1155 1; have hfz16_0 := blk_frozen BK1155.out 0; have hfz16_1 := blk_frozen BK1155.out 1) | (go_at_call 62; (with_reducible refine (impl_IsAlphabet.calls k a1_0 _ _ l1_1 t1158 _ ?side1 ?side2 ?side3 A10.out).mono ?_); (case side1 => have q_ := Aside0.mk (Kd.C_below HR1_1.out HB.out); exact cQ q_); (case side2 => exact HC1_1.out); (case side3 => exact TabW.below HT.out (beQ HB)); rintro e w17 ⟨rfl, hb⟩; replace BK1154 := bb BK1154 hb; replace BK1155 := bb BK1155 hb; replace BK1156 := bb BK1156 hb; replace HB := Aside0.mk (below_step (beQ HB) hb); (try clear hb); (try clear hb2); (try clear hk); (try clear hi); (try clear hgw_)))
   go_meet
   case rel => exact ⟨_, (!t1158), sz, H', ⟨by first | omega | exact Nat.le_refl _⟩, ⟨blkQ BK1154⟩, ⟨blkQ BK1155⟩, ⟨blkQ BK1156⟩, ⟨beQ HB⟩⟩
  ·replace c9 := Bool.eq_false_iff.mpr c9
   subst c9
   have H1 : (impl_product.j0 k a2 true a0_0 l0_1 a1_0 l1_1) = some (r1, r2, r3) := by rw [if_neg (show ¬ (false = true) by decide)] at H; exact H
   clear H; have H := H1; clear H1
   have H' := Aside0.mk H
   clear H; have hnb18 := NB1154_1155.out; have hnc18 := NB1155_1154.out; have hnb19 := NB1154_1156.out; have hnc19 := NB1156_1154.out
   have hcz20_0 : w7.cell? ⟨gb1154, 0, none⟩ = some (.int .i64 a0_0) := bc BK1154 0
   have hcz20_1 : w7.cell? ⟨gb1154, 1, none⟩ = some (.slice A0_1 l0_1.length c0_1) := bc BK1154 1
   have hfz20_0 := blk_frozen BK1154.out 0; have hfz20_1 := blk_frozen BK1154.out 1
   go_wp2_with (first | ((with_reducible refine gate_callee (f := 62) rfl ?_); refine goesL_ (some 15) rfl rfl Tryd.func62 (by kernel_rfl) rfl #[.agg #[.int .i64 a0_0, .slice A0_1 l0_1.length c0_1]] rfl lz ?_; (with_reducible refine (impl_IsAlphabet.calls k a0_0 _ _ l0_1 false _ ?side1 ?side2 ?side3 A8.out).mono ?_); (case side1 => have q_ := Aside0.mk (Kd.C_below HR0_1.out HB.out); exact cQ q_); (case side2 => exact HC0_1.out); (case side3 => exact TabW.below HT.out (beQ HB)); rintro e w21 ⟨rfl, hb⟩; refine ⟨_, rfl, ?_⟩; replace BK1154 := bb BK1154 hb; replace BK1155 := bb BK1155 hb; replace BK1156 := bb BK1156 hb; replace HB := Aside0.mk (below_step (beQ HB) hb); (try clear hb); (try clear hb2); (try clear hk); (try clear hi); (try clear hgw_)))
   go_meet
   case rel => exact ⟨_, (true), sz, H', ⟨by first | omega | exact Nat.le_refl _⟩, ⟨blkQ BK1154⟩, ⟨blkQ BK1155⟩, ⟨blkQ BK1156⟩, ⟨beQ HB⟩⟩
 case rest =>
  clear HC4
  try clear c1
  try clear p2
  try clear c6
  try clear c9
  try clear c10
  try clear c11
  try clear c12
  try clear c15
  try clear c18
  try clear c19
  try clear hcz13_0
  try clear hcz13_1
  try clear hcz16_0
  try clear hcz16_1
  try clear hcz20_0
  try clear hcz20_1
  try clear hfz13_0
  try clear hfz13_1
  try clear hfz16_0
  try clear hfz16_1
  try clear hfz20_0
  try clear hfz20_1
  obtain ⟨kq, x21_3, rfl, HA, HJ3, BK1154, BK1155, BK1156, HB⟩ := hcut
  cases kq with
  | zero => exact absurd HA.out (by simp [impl_product.j0])
  | succ kj3 =>
   have H := HA.out; clear HA
   simp only [impl_product.j0] at H
   by_cases c22 : x21_3 = true
   ·subst c22
    have H1 : (some (0, ([] : List Int), 1)) = some (r1, r2, r3) := by rw [if_pos rfl] at H; exact H
    clear H; have H := H1; clear H1
    simp only [Option.some.injEq, Prod.mk.injEq] at H
    obtain ⟨rfl, rfl, rfl⟩ := H; have hnb23 := NB1156_1154.out; have hnc23 := NB1154_1156.out; have hnb24 := NB1156_1155.out; have hnc24 := NB1155_1156.out
    have hcz25_0 : wc.cell? ⟨gb1156, 0, none⟩ = some (.int .i64 0) := bc BK1156 0
    have hcz25_1 : wc.cell? ⟨gb1156, 1, none⟩ = some (.slice none 0 0) := bc BK1156 1
    have hfz25_0 := blk_frozen BK1156.out 0; have hfz25_1 := blk_frozen BK1156.out 1
    go_wp2
    refine bodyPost_ret (results_ct rfl _ _ gb1156 26 #[.int .i64 0, .slice none 0 0] (0, 0) _ rfl (by (with_reducible repeat (first | refine blk_drewN ?_ _ | refine blk_drew ?_ | refine blk_alloc ?_ _)); refine blk_put (cs := #[.int .i64 0, .slice none 0 0]) ?_ 1 _ rfl; (with_reducible repeat (first | refine blk_drewN ?_ _ | refine blk_drew ?_ | refine blk_alloc ?_ _)); refine blk_put (cs := #[.int .i64 0, .slice none 0 0]) ?_ 0 _ rfl; (with_reducible repeat (first | refine blk_drewN ?_ _ | refine blk_drew ?_ | refine blk_alloc ?_ _)); exact BK1156.out) Tryd.underlying26 rfl (by kernel_rfl)) rfl ?_
    exact ⟨_, rz, by first | exact Kd.R_nil _ _ _ _ _ | exact Kd.N_nil _ _ _ _ _ | exact Kd.V_nil _ _ _ _ _ | exact Kd.Q_nil _ _ _ _ _ | exact Kd.S_nil _ _ _ _ _, beQ HB⟩
   ·replace c22 := Bool.eq_false_iff.mpr c22
    subst c22
    have H1 : (if (wrap64 (a0_0 + a1_0)) > 8 then (some (0, ([] : List Int), 3)) else ((slices_Clone_int64_int64_133.f l0_1).bind fun t1159 => (impl_product.l0 kj3 a2 a0_0 l1_1 (l1_1.length : Int) 0 a1_0 l1_1 (wrap64 (a0_0 + a1_0)) t1159))) = some (r1, r2, r3) := by rw [if_neg (show ¬ (false = true) by decide)] at H; exact H
    clear H; have H := H1; clear H1
    by_cases c26 : (wrap64 (a0_0 + a1_0)) > 8
    ·rw [if_pos c26] at H
     have c26b0 : decide (8 < (wrap64 (a0_0 + a1_0))) = true := decide_eq_true c26
     clear c26
     simp only [Option.some.injEq, Prod.mk.injEq] at H
     obtain ⟨rfl, rfl, rfl⟩ := H; have hnb27 := NB1154_1155.out; have hnc27 := NB1155_1154.out; have hnb28 := NB1154_1156.out; have hnc28 := NB1156_1154.out
     have hcz29_0 : wc.cell? ⟨gb1154, 0, none⟩ = some (.int .i64 a0_0) := bc BK1154 0
     have hcz29_1 : wc.cell? ⟨gb1154, 1, none⟩ = some (.slice A0_1 l0_1.length c0_1) := bc BK1154 1
     have hfz29_0 := blk_frozen BK1154.out 0; have hfz29_1 := blk_frozen BK1154.out 1; have hnb30 := NB1155_1156.out; have hnc30 := NB1156_1155.out
     have hcz31_0 : wc.cell? ⟨gb1155, 0, none⟩ = some (.int .i64 a1_0) := bc BK1155 0
     have hcz31_1 : wc.cell? ⟨gb1155, 1, none⟩ = some (.slice A1_1 l1_1.length c1_1) := bc BK1155 1
     have hfz31_0 := blk_frozen BK1155.out 0; have hfz31_1 := blk_frozen BK1155.out 1
     have hcz32_0 : wc.cell? ⟨gb1156, 0, none⟩ = some (.int .i64 0) := bc BK1156 0
     have hcz32_1 : wc.cell? ⟨gb1156, 1, none⟩ = some (.slice none 0 0) := bc BK1156 1
     have hfz32_0 := blk_frozen BK1156.out 0; have hfz32_1 := blk_frozen BK1156.out 1
     go_wp2
     refine bodyPost_ret (results_ct rfl _ _ gb1156 26 #[.int .i64 0, .slice none 0 0] (0, 0) _ rfl (by (with_reducible repeat (first | refine blk_drewN ?_ _ | refine blk_drew ?_ | refine blk_alloc ?_ _)); refine blk_put (cs := #[.int .i64 0, .slice none 0 0]) ?_ 1 _ rfl; (with_reducible repeat (first | refine blk_drewN ?_ _ | refine blk_drew ?_ | refine blk_alloc ?_ _)); refine blk_put (cs := #[.int .i64 0, .slice none 0 0]) ?_ 0 _ rfl; (with_reducible repeat (first | refine blk_drewN ?_ _ | refine blk_drew ?_ | refine blk_alloc ?_ _)); exact BK1156.out) Tryd.underlying26 rfl (by kernel_rfl)) rfl ?_
     exact ⟨_, rz, by first | exact Kd.R_nil _ _ _ _ _ | exact Kd.N_nil _ _ _ _ _ | exact Kd.V_nil _ _ _ _ _ | exact Kd.Q_nil _ _ _ _ _ | exact Kd.S_nil _ _ _ _ _, beQ HB⟩
    ·rw [if_neg c26] at H
     have c26b0 : decide (8 < (wrap64 (a0_0 + a1_0))) = false := decide_eq_false c26
     clear c26; replace H := Option.bind_eq_some_iff.mp H; obtain ⟨t1159, A330, H⟩ := H
     replace H : (impl_product.l0 kj3 a2 a0_0 l1_1 (l1_1.length : Int) 0 a1_0 l1_1 (wrap64 (a0_0 + a1_0)) t1159) = some (r1, r2, r3) := H
     have A33 := Aside0.mk A330; clear A330
     have H' := Aside0.mk H
     clear H; have hnb34 := NB1154_1155.out; have hnc34 := NB1155_1154.out; have hnb35 := NB1154_1156.out; have hnc35 := NB1156_1154.out
     have hcz36_0 : wc.cell? ⟨gb1154, 0, none⟩ = some (.int .i64 a0_0) := bc BK1154 0
     have hcz36_1 : wc.cell? ⟨gb1154, 1, none⟩ = some (.slice A0_1 l0_1.length c0_1) := bc BK1154 1
     have hfz36_0 := blk_frozen BK1154.out 0; have hfz36_1 := blk_frozen BK1154.out 1; have hnb37 := NB1155_1156.out; have hnc37 := NB1156_1155.out
     have hcz38_0 : wc.cell? ⟨gb1155, 0, none⟩ = some (.int .i64 a1_0) := bc BK1155 0
     have hcz38_1 : wc.cell? ⟨gb1155, 1, none⟩ = some (.slice A1_1 l1_1.length c1_1) := bc BK1155 1
     have hfz38_0 := blk_frozen BK1155.out 0; have hfz38_1 := blk_frozen BK1155.out 1
     try go_wp2
     replace BK1154 := Aside0.mk (blk_drew BK1154.out); replace BK1155 := Aside0.mk (blk_drew BK1155.out); replace BK1156 := Aside0.mk (blk_drew BK1156.out); replace HB := Aside0.mk (below_drew1 HB.out)
     refine start_ (n := 10) (S := fun w' => w'.cell? ⟨gb1155, 0, none⟩ = some (.int .i64 a1_0) ∧ w'.cell? ⟨gb1155, 1, none⟩ = some (.slice A1_1 l1_1.length c1_1) ∧ w'.cell? ⟨gb1154, 0, none⟩ = some (.int .i64 a0_0) ∧ w'.cell? ⟨gb1154, 1, none⟩ = some (.slice A0_1 l0_1.length c0_1)) (ds := []) #[false, false, false, false, false, false, false, false, false, false] (by kernel_rfl) rfl rfl ⟨bc BK1155 0, bc BK1155 1, bc BK1154 0, bc BK1154 1⟩ (fun hHeld => ?_); refine with_tabW impl_product.tab6 impl_product.bits6 (fun HT_ HW_ => ?_)
     generalize wc.drew = w39 at BK1154 BK1155 BK1156 HB hHeld ⊢
     refine pure_ (i := 0) (N := some 31) (v := ?_) (a' := ?_) #[true, false, false, false, false, false, false, false, false, false] rfl rfl (any_of HT_.out (by kernel_rfl)) (fun _ _ _ h => h) (Or.inl ⟨by rfl, ?_⟩) ?_ ?_
     rotate_left
     ·intro w'
      go_simp
      with_reducible rfl
     rotate_left
     ·simp only [Act.put, s1, s2, s3, i64_w, i32_w]
      rfl
     refine pure_ (i := 1) (N := some 32) (v := ?_) (a' := ?_) #[true, true, false, false, false, false, false, false, false, false] rfl rfl (any_of HT_.out (by kernel_rfl)) (fun _ _ _ h => h) (Or.inl ⟨by rfl, ?_⟩) ?_ ?_
     rotate_left
     ·intro w'
      go_simp
      with_reducible rfl
     rotate_left
     ·simp only [Act.put, s1, s2, s3, i64_w, i32_w]
      rfl
     refine pure_ (i := 4) (N := some 35) (v := ?_) (a' := ?_) #[true, true, false, false, true, false, false, false, false, false] rfl rfl (any_of HT_.out (by kernel_rfl)) (fun _ _ _ h => h) (Or.inl ⟨by rfl, ?_⟩) ?_ ?_
     rotate_left
     ·intro w'
      go_simp
      with_reducible rfl
     rotate_left
     ·simp only [Act.put, s1, s2, s3, i64_w, i32_w]
      rfl
     refine take_ (i := 2) (N := some 33) (v := ?_) (a' := ?_) #[true, true, true, false, true, false, false, false, false, false] rfl rfl (take_ofW HT_.out HW_.out (by kernel_rfl)) (fun _ _ _ h => h) (Or.inl ⟨by rfl, ?_⟩) hHeld ?_ ?_
     rotate_left
     ·rintro w' ⟨s0, s1, s2, s3⟩
      go_simp
      with_reducible rfl
     rotate_left
     ·simp only [Act.put, s1, s2, s3, i64_w, i32_w]
      rfl
     refine pure_ (i := 3) (N := some 34) (v := ?_) (a' := ?_) #[true, true, true, true, true, false, false, false, false, false] rfl rfl (any_of HT_.out (by kernel_rfl)) (fun _ _ _ h => h) (Or.inl ⟨by rfl, ?_⟩) ?_ ?_
     rotate_left
     ·intro w'
      go_simp
      with_reducible rfl
     rotate_left
     ·simp only [Act.put, s1, s2, s3, i64_w, i32_w]
      rfl
     refine take_ (i := 5) (N := some 36) (v := ?_) (a' := ?_) #[true, true, true, true, true, true, false, false, false, false] rfl rfl (take_ofW HT_.out HW_.out (by kernel_rfl)) (fun _ _ _ h => h) (Or.inl ⟨by rfl, ?_⟩) hHeld ?_ ?_
     rotate_left
     ·rintro w' ⟨s0, s1, s2, s3⟩
      go_simp
      with_reducible rfl
     rotate_left
     ·simp only [Act.put, s1, s2, s3, i64_w, i32_w]
      rfl
     refine join_ (σ := Value × Nat) 1 #[true, true, true, true, true, true, true, true, true, false] (fun s_ => [(37, s_.1), (9, .pointer (some ⟨s_.2, 0, none⟩)), (38, .agg #[.int .i64 (wrap64 (a0_0 + a1_0)), s_.1])]) (fun s_ w' => (w'.cell? ⟨gb1155, 0, none⟩ = some (.int .i64 a1_0) ∧ w'.cell? ⟨gb1155, 1, none⟩ = some (.slice A1_1 l1_1.length c1_1) ∧ w'.cell? ⟨gb1154, 0, none⟩ = some (.int .i64 a0_0) ∧ w'.cell? ⟨gb1154, 1, none⟩ = some (.slice A0_1 l0_1.length c0_1)) ∧ (Kd.R (Kd.int .i64) 2 w' w.heap.size (fun _ => True) s_.1 t1159) ∧ (w'.heap[gb1154]? = some (.cells #[.int .i64 a0_0, .slice A0_1 l0_1.length c0_1] 26 (0, 0))) ∧ (w'.heap[gb1155]? = some (.cells #[.int .i64 a1_0, .slice A1_1 l1_1.length c1_1] 26 (0, 0))) ∧ (w'.heap[gb1156]? = some (.cells #[.int .i64 0, .slice none 0 0] 26 (0, 0))) ∧ (w'.heap[s_.2]? = some (.cells #[.int .i64 0, .slice none 0 0] 26 (0, 0))) ∧ (w.heap.size ≤ s_.2) ∧ (w.heap.size ≤ s_.2) ∧ (gb1154 ≠ s_.2) ∧ (s_.2 ≠ gb1154) ∧ (gb1155 ≠ s_.2) ∧ (s_.2 ≠ gb1155) ∧ (gb1156 ≠ s_.2) ∧ (s_.2 ≠ gb1156) ∧ (Below w.heap.size w w')) ?_ ?_
     rotate_left
     ·intro hCont
      refine two_ (i := 6) (j := 8) (Ni := some 37) (Nj := some 9) #[true, true, true, true, true, true, true, false, false, false] #[true, true, true, true, true, true, false, false, true, false] rfl rfl rfl rfl (two_of HT_.out (by kernel_rfl)) (by decide) (by decide) (fun K hK => ?_) (fun K hK => ?_)
      ·skip
       refine goes_ Tryd.func133 (by kernel_rfl) rfl #[.slice A0_1 l0_1.length c0_1] (by rfl) rfl rfl lz ?_
       with_reducible refine (slices_Clone_int64_int64_133.calls _ _ l0_1 t1159 _ ?side1 ?side2 A33.out).mono ?_
       (case side1 => have q_ := Aside0.mk (Kd.C_below HR0_1.out HB.out); exact cQ q_)
       (case side2 => exact HC0_1.out)
       rintro e w40 ⟨v1160, rfl, ho0, hb⟩
       refine ⟨_, rfl, ?_⟩
       have HO1161 := Aside0.mk (Kd.R_lower ho0 (below_size (beQ HB))); replace BK1154 := bb BK1154 hb; replace BK1155 := bb BK1155 hb; replace BK1156 := bb BK1156 hb; replace HB := Aside0.mk (below_step (beQ HB) hb)
       (try clear hb)
       (try clear hb2)
       (try clear hk)
       (try clear hi)
       (try clear hgw_)
       (try clear ho0)
       obtain ⟨Ao41, co41, eo41⟩ := Kd.R_slice HO1161.out
       (first | subst eo41 | (injection eo41 with f1_ f2_ f3_; have f4_ := f1_.symm; have f5_ := f3_.symm; clear f1_ f2_ f3_; subst f4_; subst f5_))
       refine hK.out _ _ ⟨bc BK1155 0, bc BK1155 1, bc BK1154 0, bc BK1154 1⟩ (fun hHeld => ?_)
       clear hK K
       refine norm_ (a' := ?_) ?_ ?_
       rotate_left
       ·show Act.put _ (some 37) _ = _
        simp only [Act.put, s1, s2, s3, i64_w, i32_w]
        rfl
       refine pure_ (i := 7) (N := some 38) (v := ?_) (a' := ?_) #[true, true, true, true, true, true, true, true, false, false] rfl rfl (any_of HT_.out (by kernel_rfl)) (fun _ _ _ h => h) (Or.inl ⟨by rfl, ?_⟩) ?_ ?_
       rotate_left
       ·intro w'
        go_simp
        with_reducible rfl
       rotate_left
       ·simp only [Act.put, s1, s2, s3, i64_w, i32_w]
        rfl
       refine one_ (i := 8) (N := some 9) #[true, true, true, true, true, true, true, true, true, false] rfl rfl (one_of HT_.out (by kernel_rfl)) (by decide) (fun K hK => ?_)
       refine box_step ?hg (N := 9) ?hd (cs := #[.int .i64 0, .slice none 0 0]) (t := 26) ?hr ?_; (case hd => rfl); (case hg => rfl); (case hr => first | (go_simp; done) | (go_simp; rfl))
       intro gb1162 hg w42 hbox hb
       replace HO1161 := kb HO1161 hb; have BK1162 := Aside0.mk (hbox)
       have GW1162 := Aside0.mk ((by rw [hg]; exact (below_size (beQ HB)) : w.heap.size ≤ gb1162))
       have GE1162 := Aside0.mk ((by rw [hg]; exact (below_size (beQ HB)) : w.heap.size ≤ gb1162))
       replace HB := Aside0.mk (below_step (beQ HB) hb)
       have NB1154_1162 := Aside0.mk ((by rw [hg]; exact Nat.ne_of_lt (blk_lt (blkQ BK1154)) : gb1154 ≠ gb1162))
       have NB1162_1154 := Aside0.mk ((by rw [hg]; exact Nat.ne_of_gt (blk_lt (blkQ BK1154)) : gb1162 ≠ gb1154))
       replace BK1154 := bb BK1154 hb
       have NB1155_1162 := Aside0.mk ((by rw [hg]; exact Nat.ne_of_lt (blk_lt (blkQ BK1155)) : gb1155 ≠ gb1162))
       have NB1162_1155 := Aside0.mk ((by rw [hg]; exact Nat.ne_of_gt (blk_lt (blkQ BK1155)) : gb1162 ≠ gb1155))
       replace BK1155 := bb BK1155 hb
       have NB1156_1162 := Aside0.mk ((by rw [hg]; exact Nat.ne_of_lt (blk_lt (blkQ BK1156)) : gb1156 ≠ gb1162))
       have NB1162_1156 := Aside0.mk ((by rw [hg]; exact Nat.ne_of_gt (blk_lt (blkQ BK1156)) : gb1162 ≠ gb1156))
       replace BK1156 := bb BK1156 hb; clear hb hbox hg
       refine hK.out _ _ ⟨bc BK1155 0, bc BK1155 1, bc BK1154 0, bc BK1154 1⟩ (fun hHeld => ?_)
       clear hK K
       refine norm_ (a' := ?_) ?_ ?_
       rotate_left
       ·show Act.put _ (some 9) _ = _
        simp only [Act.put, s1, s2, s3, i64_w, i32_w]
        rfl
       exact norm_ (by simp only [putAll, Act.put, List.setIfInBounds_toArray, List.set_cons_zero, List.set_cons_succ]) (hCont (.slice Ao41 t1159.length co41, gb1162) _ ⟨hHeld, (kdQ HO1161), (blkQ BK1154), (blkQ BK1155), (blkQ BK1156), (blkQ BK1162), GW1162.out, GE1162.out, NB1154_1162.out, NB1162_1154.out, NB1155_1162.out, NB1162_1155.out, NB1156_1162.out, NB1162_1156.out, (beQ HB)⟩)
      ·skip
       refine box_step ?hg (N := 9) ?hd (cs := #[.int .i64 0, .slice none 0 0]) (t := 26) ?hr ?_; (case hd => rfl); (case hg => rfl); (case hr => first | (go_simp; done) | (go_simp; rfl))
       intro gb1162 hg w40 hbox hb
       have BK1162 := Aside0.mk (hbox)
       have GW1162 := Aside0.mk ((by rw [hg]; exact (below_size (beQ HB)) : w.heap.size ≤ gb1162))
       have GE1162 := Aside0.mk ((by rw [hg]; exact (below_size (beQ HB)) : w.heap.size ≤ gb1162))
       replace HB := Aside0.mk (below_step (beQ HB) hb)
       have NB1154_1162 := Aside0.mk ((by rw [hg]; exact Nat.ne_of_lt (blk_lt (blkQ BK1154)) : gb1154 ≠ gb1162))
       have NB1162_1154 := Aside0.mk ((by rw [hg]; exact Nat.ne_of_gt (blk_lt (blkQ BK1154)) : gb1162 ≠ gb1154))
       replace BK1154 := bb BK1154 hb
       have NB1155_1162 := Aside0.mk ((by rw [hg]; exact Nat.ne_of_lt (blk_lt (blkQ BK1155)) : gb1155 ≠ gb1162))
       have NB1162_1155 := Aside0.mk ((by rw [hg]; exact Nat.ne_of_gt (blk_lt (blkQ BK1155)) : gb1162 ≠ gb1155))
       replace BK1155 := bb BK1155 hb
       have NB1156_1162 := Aside0.mk ((by rw [hg]; exact Nat.ne_of_lt (blk_lt (blkQ BK1156)) : gb1156 ≠ gb1162))
       have NB1162_1156 := Aside0.mk ((by rw [hg]; exact Nat.ne_of_gt (blk_lt (blkQ BK1156)) : gb1162 ≠ gb1156))
       replace BK1156 := bb BK1156 hb; clear hb hbox hg
       refine hK.out _ _ ⟨bc BK1155 0, bc BK1155 1, bc BK1154 0, bc BK1154 1⟩ (fun hHeld => ?_)
       clear hK K
       refine norm_ (a' := ?_) ?_ ?_
       rotate_left
       ·show Act.put _ (some 9) _ = _
        simp only [Act.put, s1, s2, s3, i64_w, i32_w]
        rfl
       refine one_ (i := 6) (N := some 37) #[true, true, true, true, true, true, true, false, true, false] rfl rfl (one_of HT_.out (by kernel_rfl)) (by decide) (fun K hK => ?_)
       refine goes_ Tryd.func133 (by kernel_rfl) rfl #[.slice A0_1 l0_1.length c0_1] (by rfl) rfl rfl lz ?_
       with_reducible refine (slices_Clone_int64_int64_133.calls _ _ l0_1 t1159 _ ?side1 ?side2 A33.out).mono ?_
       (case side1 => have q_ := Aside0.mk (Kd.C_below HR0_1.out HB.out); exact cQ q_)
       (case side2 => exact HC0_1.out)
       rintro e w41 ⟨v1160, rfl, ho0, hb⟩
       refine ⟨_, rfl, ?_⟩
       have HO1161 := Aside0.mk (Kd.R_lower ho0 (below_size (beQ HB))); replace BK1154 := bb BK1154 hb; replace BK1155 := bb BK1155 hb; replace BK1156 := bb BK1156 hb; replace BK1162 := bb BK1162 hb; replace HB := Aside0.mk (below_step (beQ HB) hb)
       (try clear hb)
       (try clear hb2)
       (try clear hk)
       (try clear hi)
       (try clear hgw_)
       (try clear ho0)
       obtain ⟨Ao42, co42, eo42⟩ := Kd.R_slice HO1161.out
       (first | subst eo42 | (injection eo42 with f1_ f2_ f3_; have f4_ := f1_.symm; have f5_ := f3_.symm; clear f1_ f2_ f3_; subst f4_; subst f5_))
       refine hK.out _ _ ⟨bc BK1155 0, bc BK1155 1, bc BK1154 0, bc BK1154 1⟩ (fun hHeld => ?_)
       clear hK K
       refine norm_ (a' := ?_) ?_ ?_
       rotate_left
       ·show Act.put _ (some 37) _ = _
        simp only [Act.put, s1, s2, s3, i64_w, i32_w]
        rfl
       refine pure_ (i := 7) (N := some 38) (v := ?_) (a' := ?_) #[true, true, true, true, true, true, true, true, true, false] rfl rfl (any_of HT_.out (by kernel_rfl)) (fun _ _ _ h => h) (Or.inl ⟨by rfl, ?_⟩) ?_ ?_
       rotate_left
       ·intro w'
        go_simp
        with_reducible rfl
       rotate_left
       ·simp only [Act.put, s1, s2, s3, i64_w, i32_w]
        rfl
       exact norm_ (by simp only [putAll, Act.put, List.setIfInBounds_toArray, List.set_cons_zero, List.set_cons_succ]) (hCont (.slice Ao42 t1159.length co42, gb1162) _ ⟨hHeld, (kdQ HO1161), (blkQ BK1154), (blkQ BK1155), (blkQ BK1156), (blkQ BK1162), GW1162.out, GE1162.out, NB1154_1162.out, NB1162_1154.out, NB1155_1162.out, NB1162_1155.out, NB1156_1162.out, NB1162_1156.out, (beQ HB)⟩)
     rintro ⟨v1160, gb1162⟩ w43 ⟨hS_, h0_, h1_, h2_, h3_, h4_, h5_, h6_, h7_, h8_, h9_, h10_, h11_, h12_, h13_⟩
     have n0_ : Aside0 (Kd.R (Kd.int .i64) 2 w43 w.heap.size (fun _ => True) v1160 t1159) := ⟨h0_⟩
     have n1_ : Aside0 (w43.heap[gb1154]? = some (.cells #[.int .i64 a0_0, .slice A0_1 l0_1.length c0_1] 26 (0, 0))) := ⟨h1_⟩
     have n2_ : Aside0 (w43.heap[gb1155]? = some (.cells #[.int .i64 a1_0, .slice A1_1 l1_1.length c1_1] 26 (0, 0))) := ⟨h2_⟩
     have n3_ : Aside0 (w43.heap[gb1156]? = some (.cells #[.int .i64 0, .slice none 0 0] 26 (0, 0))) := ⟨h3_⟩
     have n4_ : Aside0 (w43.heap[gb1162]? = some (.cells #[.int .i64 0, .slice none 0 0] 26 (0, 0))) := ⟨h4_⟩
     have n5_ : Aside0 (w.heap.size ≤ gb1162) := ⟨h5_⟩
     have n6_ : Aside0 (w.heap.size ≤ gb1162) := ⟨h6_⟩
     have n7_ : Aside0 (gb1154 ≠ gb1162) := ⟨h7_⟩
     have n8_ : Aside0 (gb1162 ≠ gb1154) := ⟨h8_⟩
     have n9_ : Aside0 (gb1155 ≠ gb1162) := ⟨h9_⟩
     have n10_ : Aside0 (gb1162 ≠ gb1155) := ⟨h10_⟩
     have n11_ : Aside0 (gb1156 ≠ gb1162) := ⟨h11_⟩
     have n12_ : Aside0 (gb1162 ≠ gb1156) := ⟨h12_⟩
     have n13_ : Aside0 (Below w.heap.size w w43) := ⟨h13_⟩
     clear BK1154; clear BK1155; clear BK1156; clear HB; clear h0_ h1_ h2_ h3_ h4_ h5_ h6_ h7_ h8_ h9_ h10_ h11_ h12_ h13_; have HO1161 := n0_; have BK1154 := n1_; have BK1155 := n2_; have BK1156 := n3_; have BK1162 := n4_; have GW1162 := n5_; have GE1162 := n6_; have NB1154_1162 := n7_; have NB1162_1154 := n8_; have NB1155_1162 := n9_; have NB1162_1155 := n10_; have NB1156_1162 := n11_; have NB1162_1156 := n12_; have HB := n13_; clear n0_ n1_ n2_ n3_ n4_ n5_ n6_ n7_ n8_ n9_ n10_ n11_ n12_ n13_
     have hHeld : w43.cell? ⟨gb1155, 0, none⟩ = some (.int .i64 a1_0) ∧ w43.cell? ⟨gb1155, 1, none⟩ = some (.slice A1_1 l1_1.length c1_1) ∧ w43.cell? ⟨gb1154, 0, none⟩ = some (.int .i64 a0_0) ∧ w43.cell? ⟨gb1154, 1, none⟩ = some (.slice A0_1 l0_1.length c0_1) := hS_
     obtain ⟨Ao44, co44, eo44⟩ := Kd.R_slice HO1161.out
     (first | subst eo44 | (injection eo44 with f1_ f2_ f3_; have f4_ := f1_.symm; have f5_ := f3_.symm; clear f1_ f2_ f3_; subst f4_; subst f5_))
     refine norm_ (a' := ?_) ?_ ?_
     rotate_left
     ·simp only [putAll, Act.put, List.setIfInBounds_toArray, List.set_cons_zero, List.set_cons_succ]
      rfl
     refine one_ (i := 9) (N := none) #[true, true, true, true, true, true, true, true, true, true] rfl rfl (one_of HT_.out (by kernel_rfl)) (by decide) (fun K hK => ?_)
     have hs45 : w43.cell? ⟨gb1162, 0, none⟩ = some (.int .i64 0) := bc BK1162 0
     have hfs45 := blk_frozen BK1162.out 0; have hns45_0 := NB1154_1162.out; have hns45_1 := NB1155_1162.out; have hns45_2 := NB1156_1162.out; have hms45_0 := NB1162_1154.out; have hms45_1 := NB1162_1155.out; have hms45_2 := NB1162_1156.out
     have hs46 : w43.cell? ⟨gb1162, 1, none⟩ = some (.slice none 0 0) := bc BK1162 1
     have hfs46 := blk_frozen BK1162.out 1; have hns46_0 := NB1154_1162.out; have hns46_1 := NB1155_1162.out; have hns46_2 := NB1156_1162.out; have hms46_0 := NB1162_1154.out; have hms46_1 := NB1162_1155.out; have hms46_2 := NB1162_1156.out
     refine skip_ (w1 := ?_) (by rfl) rfl ?_ ?_
     rotate_left
     ·go_simp
      rfl
     refine hK.out _ _ ⟨((cell_far (p := ⟨gb1162, _, none⟩) NB1155_1162.out _).trans (((cell_far (p := ⟨gb1162, _, none⟩) NB1155_1162.out _).trans (hHeld.1)))), ((cell_far (p := ⟨gb1162, _, none⟩) NB1155_1162.out _).trans (((cell_far (p := ⟨gb1162, _, none⟩) NB1155_1162.out _).trans (hHeld.2.1)))), ((cell_far (p := ⟨gb1162, _, none⟩) NB1154_1162.out _).trans (((cell_far (p := ⟨gb1162, _, none⟩) NB1154_1162.out _).trans (hHeld.2.2.1)))), ((cell_far (p := ⟨gb1162, _, none⟩) NB1154_1162.out _).trans (((cell_far (p := ⟨gb1162, _, none⟩) NB1154_1162.out _).trans (hHeld.2.2.2))))⟩ (fun hHeld => ?_)
     clear hK K
     refine done_ (done_of HT_.out (by kernel_rfl)) ?_
     have hnb47 := NB1155_1162.out; have hnc47 := NB1162_1155.out
     have hcz48_0 : w43.cell? ⟨gb1155, 0, none⟩ = some (.int .i64 a1_0) := bc BK1155 0
     have hcz48_1 : w43.cell? ⟨gb1155, 1, none⟩ = some (.slice A1_1 l1_1.length c1_1) := bc BK1155 1
     have hfz48_0 := blk_frozen BK1155.out 0; have hfz48_1 := blk_frozen BK1155.out 1
     try go_wp2
     go_loopg [42] kj3 (fun kq v42 w' => ∃ (x42_2 : Int) (x1163001_2 : List Int) (u1163001 : Value), v42 = .int .i64 x42_2 ∧ Aside0 (impl_product.l0 kq a2 a0_0 l1_1 (l1_1.length : Int) x42_2 a1_0 l1_1 (wrap64 (a0_0 + a1_0)) x1163001_2 = some (r1, r2, r3)) ∧ Aside0 (kq ≤ kj3) ∧ Aside0 (Kd.R (Kd.int .i64) 2 w' w.heap.size (fun _ => True) u1163001 x1163001_2) ∧ Aside0 (w'.heap[gb1154]? = some (.cells #[.int .i64 a0_0, (.slice A0_1 l0_1.length c0_1)] 26 (0, 0))) ∧ Aside0 (w'.heap[gb1155]? = some (.cells #[.int .i64 a1_0, (.slice A1_1 l1_1.length c1_1)] 26 (0, 0))) ∧ Aside0 (w'.heap[gb1156]? = some (.cells #[.int .i64 0, (.slice none 0 0)] 26 (0, 0))) ∧ Aside0 (w'.heap[gb1162]? = some (.cells #[.int .i64 (wrap64 (a0_0 + a1_0)), u1163001] 26 (0, 0))) ∧ Aside0 (Below w.heap.size w w'))
     case atStart => exact ⟨(0), (t1159), (.slice Ao44 t1159.length co44), sz, H', ⟨Nat.le_refl _⟩, ⟨by (with_reducible repeat (first | apply Kd.R_alloc | apply Kd.R_drewN | apply Kd.R_drew)); exact Kd.R_mono (Kd.R_far (p := ⟨gb1162, 1, none⟩) (Kd.R_far (p := ⟨gb1162, 0, none⟩) (Kd.R_types HO1161.out BK1162.out (by decide)) (fun _ hk => hk.2) (.int .i64 (wrap64 (a0_0 + a1_0)))) (fun _ hk => hk.2) (.slice Ao44 t1159.length co44)) (fun _ hk => trivial)⟩, ⟨blkF BK1154⟩, ⟨blkF BK1155⟩, ⟨blkF BK1156⟩, ⟨by (with_reducible repeat (first | refine blk_drewN ?_ _ | refine blk_drew ?_ | refine blk_alloc ?_ _)); refine blk_put (cs := #[.int .i64 (wrap64 (a0_0 + a1_0)), .slice none 0 0]) ?_ 1 _ rfl; (with_reducible repeat (first | refine blk_drewN ?_ _ | refine blk_drew ?_ | refine blk_alloc ?_ _)); refine blk_put (cs := #[.int .i64 0, .slice none 0 0]) ?_ 0 _ rfl; (with_reducible repeat (first | refine blk_drewN ?_ _ | refine blk_drew ?_ | refine blk_alloc ?_ _)); exact BK1162.out⟩, ⟨beQ HB⟩⟩
     case round =>
      clear H'
      try clear c1
      try clear c2
      try clear p2
      try clear c3
      try clear c4
      try clear c6
      try clear p6
      try clear c9
      try clear c10
      try clear c11
      try clear c12
      try clear c13
      try clear c15
      try clear c18
      try clear c19
      try clear c22
      try clear c23
      try clear c24
      try clear c26
      try clear c26b0
      try clear c27
      try clear c28
      try clear c30
      try clear c34
      try clear c35
      try clear c37
      try clear c47
      try clear hcz13_0
      try clear hcz13_1
      try clear hcz16_0
      try clear hcz16_1
      try clear hcz20_0
      try clear hcz20_1
      try clear hcz25_0
      try clear hcz25_1
      try clear hcz29_0
      try clear hcz29_1
      try clear hcz31_0
      try clear hcz31_1
      try clear hcz32_0
      try clear hcz32_1
      try clear hcz36_0
      try clear hcz36_1
      try clear hcz38_0
      try clear hcz38_1
      try clear hcz48_0
      try clear hcz48_1
      try clear hfz13_0
      try clear hfz13_1
      try clear hfz16_0
      try clear hfz16_1
      try clear hfz20_0
      try clear hfz20_1
      try clear hfz25_0
      try clear hfz25_1
      try clear hfz29_0
      try clear hfz29_1
      try clear hfz31_0
      try clear hfz31_1
      try clear hfz32_0
      try clear hfz32_1
      try clear hfz36_0
      try clear hfz36_1
      try clear hfz38_0
      try clear hfz38_1
      try clear hfz48_0
      try clear hfz48_1
      try clear p2
      obtain ⟨x42_2, x1163001_2, u1163001, rfl, HA, HK2, HO_1163001, BK1154, BK1155, BK1156, BK1162, HB⟩ := hrel
      cases gk with
      | zero => exact absurd HA.out (by simp [impl_product.l0])
      | succ k2 =>
       have H := HA.out; clear HA
       simp only [impl_product.l0] at H
       by_cases c49 : x42_2 < (l1_1.length : Int)
       ·rw [if_pos c49] at H
        have c49b0 : decide (x42_2 < (l1_1.length : Int)) = true := decide_eq_true c49
        clear c49
        by_cases c50 : 0 ≤ x42_2
        ·rw [if_pos c50] at H
         have c50b0 : decide (0 ≤ x42_2) = true := decide_eq_true c50
         clear c50
         by_cases c51 : x42_2 < (l1_1.length : Int)
         ·rw [if_pos c51] at H
          have c51b0 : decide (x42_2 < (l1_1.length : Int)) = true := decide_eq_true c51
          clear c51
          by_cases c52 : 0 ≤ a0_0
          ·rw [if_pos c52] at H
           have c52b0 := eq_true c52
           have c52b1 : decide (0 ≤ a0_0) = true := decide_eq_true c52
           clear c52
           obtain ⟨ji53, hji53⟩ : ∃ j_ : Int, (shl .i64 (rd l1_1 x42_2) a0_0) = j_ := ⟨_, rfl⟩
           replace H : (if x1163001_2.length < 17592186044416 then (impl_product.l0 k2 a2 a0_0 l1_1 (l1_1.length : Int) (wrap64 (x42_2 + 1)) a1_0 l1_1 (wrap64 (a0_0 + a1_0)) (x1163001_2 ++ [ji53])) else (none)) = some (r1, r2, r3) := by first | (rw [hji53] at H; exact H) | (simp only [hji53] at H ⊢; exact H)
           have hji53_ : (IntKind.i64.wrap ((rd l1_1 x42_2) * 2 ^ min a0_0.toNat 64)) = ji53 := hji53
           have hji53z : a0_0 ≤ 64 → (IntKind.i64.wrap ((rd l1_1 x42_2) * 2 ^ a0_0.toNat)) = ji53 := shl_small hji53
           have hji53y : (wrap64 ((rd l1_1 x42_2) * 2 ^ min a0_0.toNat 64)) = ji53 := (i64_w _).symm.trans hji53_
           have hji53x : a0_0 ≤ 64 → (wrap64 ((rd l1_1 x42_2) * 2 ^ a0_0.toNat)) = ji53 := fun h_ => (i64_w _).symm.trans (hji53z h_)
           by_cases c54 : x1163001_2.length < 17592186044416
           ·rw [if_pos c54] at H
            have LMc54 := Aside0.mk c54; clear c54
            obtain ⟨y1164, hy1164⟩ : ∃ y_ : List Int, y_ = (x1163001_2 ++ [ji53]) := ⟨_, rfl⟩
            replace H : (impl_product.l0 k2 a2 a0_0 l1_1 (l1_1.length : Int) (wrap64 (x42_2 + 1)) a1_0 l1_1 (wrap64 (a0_0 + a1_0)) y1164) = some (r1, r2, r3) := by first | (rw [hy1164]; with_reducible exact H) | (have H2_ := (Option.bind_some _ _).symm.trans H; rw [hy1164]; with_reducible exact H2_) | (have H2_ := (Option.bind_some _ _).symm.trans H; with_reducible exact H2_) | with_reducible exact H | (rw [hy1164]; exact H) | exact H
            have Ny1164 := Aside0.mk hy1164; clear hy1164
            have H' := Aside0.mk H
            clear H
            have p1163 : 0 ≤ (x42_2 : Int) := of_decide_eq_true (by first | (with_reducible assumption) | assumption)
            have q1163 : x42_2 < (l1_1.length : Int) := of_decide_eq_true (by first | (with_reducible assumption) | assumption)
            obtain ⟨ad1163, e1163, hx1163_0⟩ := Kd.at_int HR1_1.out x42_2 p1163 q1163; cases e1163; replace hx1163_0 := (HB.out.cell (World.block_lt_of_cell? w _ hx1163_0)).trans hx1163_0; replace p1163 := eq_true p1163; replace q1163 := eq_true q1163
            try go_wp2
            replace HO_1163001 := Aside0.mk (Kd.R_drew HO_1163001.out); replace BK1154 := Aside0.mk (blk_drew BK1154.out); replace BK1155 := Aside0.mk (blk_drew BK1155.out); replace BK1156 := Aside0.mk (blk_drew BK1156.out); replace BK1162 := Aside0.mk (blk_drew BK1162.out); replace HB := Aside0.mk (below_drew1 HB.out)
            refine start_ (n := 9) (S := fun w' => w'.cell? ⟨gb1162, 0, none⟩ = some (.int .i64 (wrap64 (a0_0 + a1_0))) ∧ w'.cell? ⟨gb1162, 1, none⟩ = some (u1163001)) (ds := [8]) #[false, false, false, false, false, false, false, false, false] (by kernel_rfl) rfl rfl ⟨bc BK1162 0, bc BK1162 1⟩ (fun hHeld => ?_); refine with_tabW impl_product.tab10 impl_product.bits10 (fun HT_ HW_ => ?_)
            generalize wr.drew = w55 at HO_1163001 BK1154 BK1155 BK1156 BK1162 HB hHeld ⊢
            refine pure_ (i := 0) (N := some 46) (v := ?_) (a' := ?_) #[true, false, false, false, false, false, false, false, false] rfl rfl (any_of HT_.out (by kernel_rfl)) (fun _ _ _ h => h) (Or.inl ⟨by rfl, ?_⟩) ?_ ?_
            rotate_left
            ·intro w'
             go_simp
             with_reducible rfl
            rotate_left
            ·simp only [Act.put, s1, s2, s3, i64_w, i32_w]
             rfl
            refine pure_ (i := 2) (N := some 48) (v := ?_) (a' := ?_) #[true, false, true, false, false, false, false, false, false] rfl rfl (any_of HT_.out (by kernel_rfl)) (fun _ _ _ h => h) (Or.inl ⟨by rfl, ?_⟩) ?_ ?_
            rotate_left
            ·intro w'
             go_simp
             with_reducible rfl
            rotate_left
            ·simp only [Act.put, s1, s2, s3, i64_w, i32_w]
             rfl
            refine pure_ (i := 3) (N := some 49) (v := ?_) (a' := ?_) #[true, false, true, true, false, false, false, false, false] rfl rfl (any_of HT_.out (by kernel_rfl)) (fun _ _ _ h => h) (Or.inl ⟨by rfl, ?_⟩) ?_ ?_
            rotate_left
            ·intro w'
             go_simp
             with_reducible rfl
            rotate_left
            ·simp only [Act.put, s1, s2, s3, i64_w, i32_w]
             rfl
            refine pure_ (i := 4) (N := some 50) (v := ?_) (a' := ?_) #[true, false, true, true, true, false, false, false, false] rfl rfl (any_of HT_.out (by kernel_rfl)) (fun _ _ _ h => h) (Or.inl ⟨by rfl, ?_⟩) ?_ ?_
            rotate_left
            ·intro w'
             go_simp
             with_reducible rfl
            rotate_left
            ·simp only [Act.put, s1, s2, s3, i64_w, i32_w]
             rfl
            refine take_ (i := 1) (N := some 47) (v := ?_) (a' := ?_) #[true, true, true, true, true, false, false, false, false] rfl rfl (take_ofW HT_.out HW_.out (by kernel_rfl)) (fun _ _ _ h => h) (Or.inl ⟨by rfl, ?_⟩) hHeld ?_ ?_
            rotate_left
            ·rintro w' ⟨s0, s1⟩
             go_simp
             with_reducible rfl
            rotate_left
            ·simp only [Act.put, s1, s2, s3, i64_w, i32_w]
             rfl
            refine one_ (i := 5) (N := some 51) #[true, true, true, true, true, true, false, false, false] rfl rfl (one_of HT_.out (by kernel_rfl)) (by decide) (fun K hK => ?_)
            refine value_ (w1 := ?_) (v := ?_) (by rfl) rfl ?_ ?_
            rotate_left 2
            ·go_simp
             constructor
             ·rfl
             ·rfl
            refine hK.out _ _ ⟨(blk_cell (blk_alloc BK1162.out _) 0).trans rfl, (blk_cell (blk_alloc BK1162.out _) 1).trans rfl⟩ (fun hHeld => ?_)
            clear hK K
            refine norm_ (a' := ?_) ?_ ?_
            rotate_left
            ·show Act.put _ (some 51) _ = _
             simp only [Act.put, s1, s2, s3, i64_w, i32_w]
             rfl
            refine one_ (i := 6) (N := some 52) #[true, true, true, true, true, true, true, false, false] rfl rfl (one_of HT_.out (by kernel_rfl)) (by decide) (fun K hK => ?_)
            refine Kd.R_append_step (Kd.int .i64) (w0 := w) w.heap.size (by rfl) (.tmp 47) (.tmp 51) 24 2 (.int .i64 0) 8 rfl Tryd.underlying24 info2 rfl (by decide) (by omega) u1163001 x1163001_2 ji53 [.int .i64 ji53] (fun _ => True) (fun _ => False) rfl rfl ?aP (fun _ hk => hk.elim) ?aF ?aO ?aB ?aS ?aL ?_
            (case aP => exact rfl)
            (case aB => exact (beQ HB))
            (case aF => exact (fun _ _ => trivial))
            (case aO => exact (kdQ HO_1163001))
            (case aS => exact (below_size (beQ HB)))
            (case aL => have := LMc54.out; omega)
            intro v1165 w56 ho hb hg hat
            rw [← Ny1164.out] at ho
            have n0_ := Aside0.mk (blk_grown (g := gb1154) (o := .cells #[.int .i64 a0_0, .slice A0_1 l0_1.length c0_1] 26 (0, 0)) (blkQ BK1154) hg (Kd.R_ne HO_1163001.out BK1154.out (by decide)))
            have n1_ := Aside0.mk (blk_grown (g := gb1155) (o := .cells #[.int .i64 a1_0, .slice (some ad1163) l1_1.length c1_1] 26 (0, 0)) (blkQ BK1155) hg (Kd.R_ne HO_1163001.out BK1155.out (by decide)))
            have n2_ := Aside0.mk (blk_grown (g := gb1156) (o := .cells #[.int .i64 0, .slice none 0 0] 26 (0, 0)) (blkQ BK1156) hg (Kd.R_ne HO_1163001.out BK1156.out (by decide)))
            have n3_ := Aside0.mk (blk_grown (g := gb1162) (o := .cells #[.int .i64 (wrap64 (a0_0 + a1_0)), u1163001] 26 (0, 0)) (blkQ BK1162) hg (Kd.R_ne HO_1163001.out BK1162.out (by decide)))
            have n4_ := Aside0.mk (hb); have n5_ := Aside0.mk (ho); clear BK1154; clear BK1155; clear BK1156; clear BK1162; clear HB; clear HO_1163001; have BK1154 := n0_; have BK1155 := n1_; have BK1156 := n2_; have BK1162 := n3_; have HB := n4_; have HO1166 := n5_; clear n0_ n1_ n2_ n3_ n4_ n5_; clear ho hb hg hat; obtain ⟨Ao57, co57, eo57⟩ := Kd.R_slice HO1166.out
            (first | subst eo57 | (injection eo57 with f1_ f2_ f3_; have f4_ := f1_.symm; have f5_ := f3_.symm; clear f1_ f2_ f3_; subst f4_; subst f5_))
            refine hK.out _ _ ⟨bc BK1162 0, bc BK1162 1⟩ (fun hHeld => ?_)
            clear hK K
            refine norm_ (a' := ?_) ?_ ?_
            rotate_left
            ·show Act.put _ (some 52) _ = _
             simp only [Act.put, s1, s2, s3, i64_w, i32_w]
             rfl
            refine pure_ (i := 7) (N := some 53) (v := ?_) (a' := ?_) #[true, true, true, true, true, true, true, true, false] rfl rfl (any_of HT_.out (by kernel_rfl)) (fun _ _ _ h => h) (Or.inl ⟨by rfl, ?_⟩) ?_ ?_
            rotate_left
            ·intro w'
             go_simp
             with_reducible rfl
            rotate_left
            ·simp only [Act.put, s1, s2, s3, i64_w, i32_w]
             rfl
            refine last_ (i := 8) (N := none) #[true, true, true, true, true, true, true, true, true] rfl rfl (one_of HT_.out (by kernel_rfl)) (by decide) (fun K hK => ?_)
            have hs58 : w56.cell? ⟨gb1162, 1, none⟩ = some (u1163001) := bc BK1162 1
            have hfs58 := blk_frozen BK1162.out 1; have hns58_0 := NB1154_1162.out; have hns58_1 := NB1155_1162.out; have hns58_2 := NB1156_1162.out; have hms58_0 := NB1162_1154.out; have hms58_1 := NB1162_1155.out; have hms58_2 := NB1162_1156.out
            refine skip_ (w1 := ?_) (by rfl) rfl ?_ ?_
            rotate_left
            ·go_simp
             rfl
            refine hK.out _ _ ?_
            clear hK K
            refine done_ (done_of HT_.out (by kernel_rfl)) ?_
            try go_wp2
            go_roundg k2
            case measure => have := HJ3.out; have := HK2.out; omega
            case rel => exact ⟨(wrap64 (x42_2 + 1)), (y1164), (.slice Ao57 y1164.length co57), sz, H', ⟨by have := HJ3.out; have := HK2.out; omega⟩, ⟨by (with_reducible repeat (first | apply Kd.R_alloc | apply Kd.R_drewN | apply Kd.R_drew)); exact Kd.R_mono (Kd.R_far (p := ⟨gb1162, 1, none⟩) (Kd.R_types HO1166.out BK1162.out (by decide)) (fun _ hk => hk.2) (.slice Ao57 y1164.length co57)) (fun _ hk => trivial)⟩, ⟨blkF BK1154⟩, ⟨blkF BK1155⟩, ⟨blkF BK1156⟩, ⟨by (with_reducible repeat (first | refine blk_drewN ?_ _ | refine blk_drew ?_ | refine blk_alloc ?_ _)); refine blk_put (cs := #[.int .i64 (wrap64 (a0_0 + a1_0)), u1163001]) ?_ 1 _ rfl; (with_reducible repeat (first | refine blk_drewN ?_ _ | refine blk_drew ?_ | refine blk_alloc ?_ _)); exact BK1162.out⟩, ⟨beQ HB⟩⟩
           ·rw [if_neg c54] at H
            exact absurd H (by simp)
          ·rw [if_neg c52] at H
           exact absurd H (by simp)
         ·rw [if_neg c51] at H
          exact absurd H (by simp)
        ·rw [if_neg c50] at H
         exact absurd H (by simp)
       ·rw [if_neg c49] at H
        have c49b0 : decide (x42_2 < (l1_1.length : Int)) = false := decide_eq_false c49
        clear c49
        by_cases c59 : a2 = true
        ·subst c59
         have H1 : (impl_product.l1 k2 a0_0 a0_0 0 a1_0 l1_1 (wrap64 (a0_0 + a1_0)) x1163001_2) = some (r1, r2, r3) := by rw [if_pos rfl] at H; exact H
         clear H; have H := H1; clear H1
         have H' := Aside0.mk H
         clear H
         go_wp2
         go_loopg [57] k2 (fun kq v57 w' => ∃ (x57_3 : Int) (x1163001_3 : List Int) (u1163001 : Value), v57 = .int .i64 x57_3 ∧ Aside0 (impl_product.l1 kq a0_0 a0_0 x57_3 a1_0 l1_1 (wrap64 (a0_0 + a1_0)) x1163001_3 = some (r1, r2, r3)) ∧ Aside0 (kq ≤ k2) ∧ Aside0 (Kd.R (Kd.int .i64) 2 w' w.heap.size (fun _ => True) u1163001 x1163001_3) ∧ Aside0 (w'.heap[gb1154]? = some (.cells #[.int .i64 a0_0, (.slice A0_1 l0_1.length c0_1)] 26 (0, 0))) ∧ Aside0 (w'.heap[gb1155]? = some (.cells #[.int .i64 a1_0, (.slice A1_1 l1_1.length c1_1)] 26 (0, 0))) ∧ Aside0 (w'.heap[gb1156]? = some (.cells #[.int .i64 0, (.slice none 0 0)] 26 (0, 0))) ∧ Aside0 (w'.heap[gb1162]? = some (.cells #[.int .i64 (wrap64 (a0_0 + a1_0)), u1163001] 26 (0, 0))) ∧ Aside0 (Below w.heap.size w w'))
         case atStart => exact ⟨(0), (x1163001_2), (u1163001), sz, H', ⟨Nat.le_refl _⟩, ⟨kdQ HO_1163001⟩, ⟨blkQ BK1154⟩, ⟨blkQ BK1155⟩, ⟨blkQ BK1156⟩, ⟨blkQ BK1162⟩, ⟨beQ HB⟩⟩
         case round =>
          clear H'
          try clear c1
          try clear p1
          try clear q1
          try clear hx1
          try clear c2
          try clear p2
          try clear c3
          try clear c4
          try clear c5
          try clear c6
          try clear p6
          try clear c9
          try clear c10
          try clear c11
          try clear p11
          try clear q11
          try clear hx11
          try clear c12
          try clear c13
          try clear c15
          try clear c18
          try clear c19
          try clear c22
          try clear c23
          try clear c24
          try clear c26
          try clear c26b0
          try clear c27
          try clear c28
          try clear c30
          try clear c34
          try clear c35
          try clear c37
          try clear c47
          try clear c49
          try clear c49b0
          try clear c50
          try clear c50b0
          try clear c51
          try clear c51b0
          try clear c52
          try clear c52b0
          try clear c52b1
          try clear c54
          try clear c59
          try clear hcz13_0
          try clear hcz13_1
          try clear hcz16_0
          try clear hcz16_1
          try clear hcz20_0
          try clear hcz20_1
          try clear hcz25_0
          try clear hcz25_1
          try clear hcz29_0
          try clear hcz29_1
          try clear hcz31_0
          try clear hcz31_1
          try clear hcz32_0
          try clear hcz32_1
          try clear hcz36_0
          try clear hcz36_1
          try clear hcz38_0
          try clear hcz38_1
          try clear hcz48_0
          try clear hcz48_1
          try clear hfz13_0
          try clear hfz13_1
          try clear hfz16_0
          try clear hfz16_1
          try clear hfz20_0
          try clear hfz20_1
          try clear hfz25_0
          try clear hfz25_1
          try clear hfz29_0
          try clear hfz29_1
          try clear hfz31_0
          try clear hfz31_1
          try clear hfz32_0
          try clear hfz32_1
          try clear hfz36_0
          try clear hfz36_1
          try clear hfz38_0
          try clear hfz38_1
          try clear hfz48_0
          try clear hfz48_1
          try clear hx1163_0
          try clear p1163
          try clear p2
          try clear p6
          try clear q1163
          obtain ⟨x57_3, x1163001_3, u1163001, rfl, HA, HK3, HO_1163001, BK1154, BK1155, BK1156, BK1162, HB⟩ := hrel
          cases gk with
          | zero => exact absurd HA.out (by simp [impl_product.l1])
          | succ k3 =>
           have H := HA.out; clear HA
           simp only [impl_product.l1] at H
           by_cases c60 : x57_3 < a0_0
           ·rw [if_pos c60] at H
            have c60b0 : decide (x57_3 < a0_0) = true := decide_eq_true c60
            clear c60
            have H' := Aside0.mk H
            clear H; have hnb61 := NB1155_1154.out; have hnc61 := NB1154_1155.out; have hnb62 := NB1155_1156.out; have hnc62 := NB1156_1155.out; have hnb63 := NB1155_1162.out; have hnc63 := NB1162_1155.out
            have hcz64_0 : wr.cell? ⟨gb1155, 0, none⟩ = some (.int .i64 a1_0) := bc BK1155 0
            have hcz64_1 : wr.cell? ⟨gb1155, 1, none⟩ = some (.slice A1_1 l1_1.length c1_1) := bc BK1155 1
            have hfz64_0 := blk_frozen BK1155.out 0; have hfz64_1 := blk_frozen BK1155.out 1
            go_wp2
            go_loopg [62] k3 (fun kq v62 w' => ∃ (x62_4 : Int) (x1163001_4 : List Int) (u1163001 : Value), v62 = .int .i64 x62_4 ∧ Aside0 (impl_product.l2 kq a0_0 x57_3 a0_0 x57_3 a1_0 x62_4 a1_0 l1_1 (wrap64 (a0_0 + a1_0)) x1163001_4 = some (r1, r2, r3)) ∧ Aside0 (kq ≤ k3) ∧ Aside0 (Kd.R (Kd.int .i64) 2 w' w.heap.size (fun _ => True) u1163001 x1163001_4) ∧ Aside0 (w'.heap[gb1154]? = some (.cells #[.int .i64 a0_0, (.slice A0_1 l0_1.length c0_1)] 26 (0, 0))) ∧ Aside0 (w'.heap[gb1155]? = some (.cells #[.int .i64 a1_0, (.slice A1_1 l1_1.length c1_1)] 26 (0, 0))) ∧ Aside0 (w'.heap[gb1156]? = some (.cells #[.int .i64 0, (.slice none 0 0)] 26 (0, 0))) ∧ Aside0 (w'.heap[gb1162]? = some (.cells #[.int .i64 (wrap64 (a0_0 + a1_0)), u1163001] 26 (0, 0))) ∧ Aside0 (Below w.heap.size w w'))
            case atStart => exact ⟨(0), (x1163001_3), (u1163001), sz, H', ⟨Nat.le_refl _⟩, ⟨kdQ HO_1163001⟩, ⟨blkQ BK1154⟩, ⟨blkQ BK1155⟩, ⟨blkQ BK1156⟩, ⟨blkQ BK1162⟩, ⟨beQ HB⟩⟩
            case round =>
             clear H'
             try clear c1
             try clear p1
             try clear q1
             try clear hx1
             try clear c2
             try clear p2
             try clear c3
             try clear c4
             try clear c5
             try clear c6
             try clear p6
             try clear c9
             try clear c10
             try clear c11
             try clear p11
             try clear q11
             try clear hx11
             try clear c12
             try clear c13
             try clear c15
             try clear c18
             try clear c19
             try clear c22
             try clear c23
             try clear c24
             try clear c26
             try clear c26b0
             try clear c27
             try clear c28
             try clear c30
             try clear c34
             try clear c35
             try clear c37
             try clear c47
             try clear c49
             try clear c49b0
             try clear c50
             try clear c50b0
             try clear c51
             try clear c51b0
             try clear c52
             try clear c52b0
             try clear c52b1
             try clear c54
             try clear c59
             try clear c60
             try clear c60b0
             try clear c61
             try clear c62
             try clear c63
             try clear p64
             try clear hcz13_0
             try clear hcz13_1
             try clear hcz16_0
             try clear hcz16_1
             try clear hcz20_0
             try clear hcz20_1
             try clear hcz25_0
             try clear hcz25_1
             try clear hcz29_0
             try clear hcz29_1
             try clear hcz31_0
             try clear hcz31_1
             try clear hcz32_0
             try clear hcz32_1
             try clear hcz36_0
             try clear hcz36_1
             try clear hcz38_0
             try clear hcz38_1
             try clear hcz48_0
             try clear hcz48_1
             try clear hcz64_0
             try clear hcz64_1
             try clear hfz13_0
             try clear hfz13_1
             try clear hfz16_0
             try clear hfz16_1
             try clear hfz20_0
             try clear hfz20_1
             try clear hfz25_0
             try clear hfz25_1
             try clear hfz29_0
             try clear hfz29_1
             try clear hfz31_0
             try clear hfz31_1
             try clear hfz32_0
             try clear hfz32_1
             try clear hfz36_0
             try clear hfz36_1
             try clear hfz38_0
             try clear hfz38_1
             try clear hfz48_0
             try clear hfz48_1
             try clear hfz64_0
             try clear hfz64_1
             try clear hx1163_0
             try clear p1
             try clear p11
             try clear p1163
             try clear p2
             try clear p6
             try clear q1
             try clear q11
             try clear q1163
             obtain ⟨x62_4, x1163001_4, u1163001, rfl, HA, HK4, HO_1163001, BK1154, BK1155, BK1156, BK1162, HB⟩ := hrel
             cases gk with
             | zero => exact absurd HA.out (by simp [impl_product.l2])
             | succ k4 =>
              have H := HA.out; clear HA
              simp only [impl_product.l2] at H
              by_cases c65 : x62_4 < a1_0
              ·rw [if_pos c65] at H
               have c65b0 : decide (x62_4 < a1_0) = true := decide_eq_true c65
               clear c65; replace H := Option.bind_eq_some_iff.mp H; obtain ⟨t1167, A660, H⟩ := H
               replace H : (impl_product.l2 k4 a0_0 x57_3 a0_0 x57_3 a1_0 (wrap64 (x62_4 + 1)) a1_0 l1_1 (wrap64 (a0_0 + a1_0)) t1167) = some (r1, r2, r3) := H
               have A66 := Aside0.mk A660; clear A660
               have H' := Aside0.mk H
               clear H; have hnb67 := NB1162_1154.out; have hnc67 := NB1154_1162.out; have hnb68 := NB1162_1155.out; have hnc68 := NB1155_1162.out; have hnb69 := NB1162_1156.out; have hnc69 := NB1156_1162.out
               have hcz70_0 : wr.cell? ⟨gb1162, 0, none⟩ = some (.int .i64 (wrap64 (a0_0 + a1_0))) := bc BK1162 0
               have hcz70_1 : wr.cell? ⟨gb1162, 1, none⟩ = some (u1163001) := bc BK1162 1
               have hfz70_0 := blk_frozen BK1162.out 0; have hfz70_1 := blk_frozen BK1162.out 1; obtain ⟨Ao71, co71, eo71⟩ := Kd.R_slice HO_1163001.out; subst eo71
               go_wp2_with (first | ((with_reducible refine gate_callee (f := 134) rfl ?_); refine goesL_ (some 70) rfl rfl Tryd.func134 (by kernel_rfl) rfl #[.agg #[.int .i64 (wrap64 (a0_0 + a1_0)), .slice Ao71 x1163001_4.length co71], .int .i64 x57_3, .int .i64 (wrap64 (a0_0 + x62_4))] rfl lz ?_; (with_reducible refine (impl_Alphabet_tie.calls (wrap64 (a0_0 + a1_0)) (fun k_ => some k_ = (.slice Ao71 x1163001_4.length co71 : Value).ownBlock) (.slice Ao71 x1163001_4.length co71) x1163001_4 x57_3 (wrap64 (a0_0 + x62_4)) t1167 w _ ?side1 ?side2 A66.out).mono ?_); (case side1 => repeat (first | (with_reducible first | exact HB.out | apply below_alloc | apply pw_below_drewN | apply below_drew1 | refine below_set ?_ GE1154.out | refine below_set ?_ GE1155.out | refine below_set ?_ GE1156.out | refine below_set ?_ GE1162.out) | exact HB.out)); (case side2 => exact Kd.R_tight rfl HO_1163001.out); rintro e w72 ⟨rfl, hy0, hb, hkp⟩; refine ⟨_, rfl, ?_⟩; replace BK1154 := Aside0.mk (blk_kept (blkQ BK1154) hkp (fun hs_ => (fun e_ => (Kd.R_ne HO_1163001.out BK1154.out (by decide)) e_) hs_)); replace BK1155 := Aside0.mk (blk_kept (blkQ BK1155) hkp (fun hs_ => (fun e_ => (Kd.R_ne HO_1163001.out BK1155.out (by decide)) e_) hs_)); replace BK1156 := Aside0.mk (blk_kept (blkQ BK1156) hkp (fun hs_ => (fun e_ => (Kd.R_ne HO_1163001.out BK1156.out (by decide)) e_) hs_)); replace BK1162 := Aside0.mk (blk_kept (blkQ BK1162) hkp (fun hs_ => (fun e_ => (Kd.R_ne HO_1163001.out BK1162.out (by decide)) e_) hs_)); replace HO_1163001 := Aside0.mk (Kd.R_reok rfl hy0 (fun k_ e_ => HO_1163001.out.1 k_ e_)); replace HB := Aside0.mk (hb); (try clear hb); (try clear hkp); (try clear hy0)))
               go_roundg k4
               case measure => have := HJ3.out; have := HK2.out; have := HK3.out; have := HK4.out; omega
               case rel => exact ⟨(wrap64 (x62_4 + 1)), (t1167), (.slice Ao71 x1163001_4.length co71), sz, H', ⟨by have := HJ3.out; have := HK2.out; have := HK3.out; have := HK4.out; omega⟩, ⟨kdQ HO_1163001⟩, ⟨blkQ BK1154⟩, ⟨blkQ BK1155⟩, ⟨blkQ BK1156⟩, ⟨blkQ BK1162⟩, ⟨beQ HB⟩⟩
              ·rw [if_neg c65] at H
               have c65b0 : decide (x62_4 < a1_0) = false := decide_eq_false c65
               clear c65
               have H' := Aside0.mk H
               clear H
               go_wp2
               go_roundg k4
               case measure => have := HJ3.out; have := HK2.out; have := HK3.out; have := HK4.out; omega
               case rel => exact ⟨(wrap64 (x57_3 + 1)), (x1163001_4), (u1163001), sz, H', ⟨by have := HJ3.out; have := HK2.out; have := HK3.out; have := HK4.out; omega⟩, ⟨kdQ HO_1163001⟩, ⟨blkQ BK1154⟩, ⟨blkQ BK1155⟩, ⟨blkQ BK1156⟩, ⟨blkQ BK1162⟩, ⟨beQ HB⟩⟩
           ·rw [if_neg c60] at H
            have c60b0 : decide (x57_3 < a0_0) = false := decide_eq_false c60
            clear c60
            simp only [Option.some.injEq, Prod.mk.injEq] at H
            obtain ⟨rfl, rfl, rfl⟩ := H; have hnb73 := NB1162_1154.out; have hnc73 := NB1154_1162.out; have hnb74 := NB1162_1155.out; have hnc74 := NB1155_1162.out; have hnb75 := NB1162_1156.out; have hnc75 := NB1156_1162.out
            have hcz76_0 : wr.cell? ⟨gb1162, 0, none⟩ = some (.int .i64 (wrap64 (a0_0 + a1_0))) := bc BK1162 0
            have hcz76_1 : wr.cell? ⟨gb1162, 1, none⟩ = some (u1163001) := bc BK1162 1
            have hfz76_0 := blk_frozen BK1162.out 0; have hfz76_1 := blk_frozen BK1162.out 1; have hnb77 := NB1156_1154.out; have hnc77 := NB1154_1156.out; have hnb78 := NB1156_1155.out; have hnc78 := NB1155_1156.out
            have hcz79_0 : wr.cell? ⟨gb1156, 0, none⟩ = some (.int .i64 0) := bc BK1156 0
            have hcz79_1 : wr.cell? ⟨gb1156, 1, none⟩ = some (.slice none 0 0) := bc BK1156 1
            have hfz79_0 := blk_frozen BK1156.out 0; have hfz79_1 := blk_frozen BK1156.out 1; obtain ⟨Ao80, co80, eo80⟩ := Kd.R_slice HO_1163001.out; subst eo80
            go_wp2
            refine bodyPost_ret (results_ct rfl _ _ gb1156 26 #[.int .i64 (wrap64 (a0_0 + a1_0)), .slice Ao80 x1163001_3.length co80] (0, 0) _ rfl (by (with_reducible repeat (first | refine blk_drewN ?_ _ | refine blk_drew ?_ | refine blk_alloc ?_ _)); refine blk_put (cs := #[.int .i64 (wrap64 (a0_0 + a1_0)), .slice none 0 0]) ?_ 1 _ rfl; (with_reducible repeat (first | refine blk_drewN ?_ _ | refine blk_drew ?_ | refine blk_alloc ?_ _)); refine blk_put (cs := #[.int .i64 0, .slice none 0 0]) ?_ 0 _ rfl; (with_reducible repeat (first | refine blk_drewN ?_ _ | refine blk_drew ?_ | refine blk_alloc ?_ _)); exact BK1156.out) Tryd.underlying26 rfl (by kernel_rfl)) rfl ?_
            exact ⟨_, rz, by (with_reducible repeat (first | apply Kd.R_alloc | apply Kd.R_drewN | apply Kd.R_drew)); exact Kd.R_mono (Kd.R_far (p := ⟨gb1156, 1, none⟩) (Kd.R_far (p := ⟨gb1156, 0, none⟩) (Kd.R_types HO_1163001.out BK1156.out (by decide)) (fun _ hk => hk.2) (.int .i64 (wrap64 (a0_0 + a1_0)))) (fun _ hk => hk.2) (.slice Ao80 x1163001_3.length co80)) (fun _ hk => trivial), beQ HB⟩
        ·replace c59 := Bool.eq_false_iff.mpr c59
         subst c59
         have H1 : (some ((wrap64 (a0_0 + a1_0)), x1163001_2, 0)) = some (r1, r2, r3) := by rw [if_neg (show ¬ (false = true) by decide)] at H; exact H
         clear H; have H := H1; clear H1
         simp only [Option.some.injEq, Prod.mk.injEq] at H
         obtain ⟨rfl, rfl, rfl⟩ := H; have hnb81 := NB1162_1154.out; have hnc81 := NB1154_1162.out; have hnb82 := NB1162_1155.out; have hnc82 := NB1155_1162.out; have hnb83 := NB1162_1156.out; have hnc83 := NB1156_1162.out
         have hcz84_0 : wr.cell? ⟨gb1162, 0, none⟩ = some (.int .i64 (wrap64 (a0_0 + a1_0))) := bc BK1162 0
         have hcz84_1 : wr.cell? ⟨gb1162, 1, none⟩ = some (u1163001) := bc BK1162 1
         have hfz84_0 := blk_frozen BK1162.out 0; have hfz84_1 := blk_frozen BK1162.out 1; have hnb85 := NB1156_1154.out; have hnc85 := NB1154_1156.out; have hnb86 := NB1156_1155.out; have hnc86 := NB1155_1156.out
         have hcz87_0 : wr.cell? ⟨gb1156, 0, none⟩ = some (.int .i64 0) := bc BK1156 0
         have hcz87_1 : wr.cell? ⟨gb1156, 1, none⟩ = some (.slice none 0 0) := bc BK1156 1
         have hfz87_0 := blk_frozen BK1156.out 0; have hfz87_1 := blk_frozen BK1156.out 1; obtain ⟨Ao88, co88, eo88⟩ := Kd.R_slice HO_1163001.out; subst eo88
         go_wp2
         refine bodyPost_ret (results_ct rfl _ _ gb1156 26 #[.int .i64 (wrap64 (a0_0 + a1_0)), .slice Ao88 x1163001_2.length co88] (0, 0) _ rfl (by (with_reducible repeat (first | refine blk_drewN ?_ _ | refine blk_drew ?_ | refine blk_alloc ?_ _)); refine blk_put (cs := #[.int .i64 (wrap64 (a0_0 + a1_0)), .slice none 0 0]) ?_ 1 _ rfl; (with_reducible repeat (first | refine blk_drewN ?_ _ | refine blk_drew ?_ | refine blk_alloc ?_ _)); refine blk_put (cs := #[.int .i64 0, .slice none 0 0]) ?_ 0 _ rfl; (with_reducible repeat (first | refine blk_drewN ?_ _ | refine blk_drew ?_ | refine blk_alloc ?_ _)); exact BK1156.out) Tryd.underlying26 rfl (by kernel_rfl)) rfl ?_
         exact ⟨_, rz, by (with_reducible repeat (first | apply Kd.R_alloc | apply Kd.R_drewN | apply Kd.R_drew)); exact Kd.R_mono (Kd.R_far (p := ⟨gb1156, 1, none⟩) (Kd.R_far (p := ⟨gb1156, 0, none⟩) (Kd.R_types HO_1163001.out BK1156.out (by decide)) (fun _ hk => hk.2) (.int .i64 (wrap64 (a0_0 + a1_0)))) (fun _ hk => hk.2) (.slice Ao88 x1163001_2.length co88)) (fun _ hk => trivial), beQ HB⟩
end Go.Proofs.YtleeihpmniabhaaDoor.G
