-- A copy, with what one law needs, of a text that print.sh or a program of ours wrote
import Derived.Test.YtleeihpmniabhaaDoorZ11G0
import Derived.Test.YtleeihpmniabhaaDoorZ11GQ01a
import Derived.Test.YtleeihpmniabhaaDoorZ11GQ01b
import Derived.Test.YtleeihpmniabhaaDoorZ11GQ01c
import Derived.Test.YtleeihpmniabhaaDoorZ11GQ10
import Derived.Test.YtleeihpmniabhaaDoorZ11GQ16
import Derived.Test.YtleeihpmniabhaaDoorZ11GQ17e
namespace Go.Proofs.YtleeihpmniabhaaDoor.G
open Go.RowKit Go.Proofs.YtleeihpmniabhaaDoorW.PrintWords Go.Proofs.YtleeihpmniabhaaDoorW.PrintLast Go.Proofs.YtleeihpmniabhaaDoorW.PrintMore
attribute [local go_sem] max2_int min2_int max_two min_two max_three min_three max_four min_four   -- for this text's walks alone
set_option linter.unusedVariables false
set_option linter.unusedSimpArgs false
mutual
def impl_arranged.l0 : Nat → List Int → List Int → Int → Int → Int → List Int → Int → List Int → Option (Int × List Int)
 | 0, _, _, _, _, _, _, _, _ => none
 | k + 1, x1, x13, x14, x15, x1233000, x1233001, x1240000, x1240001 => if x15 < x14 then (if 0 ≤ x15 then (if x15 < (x13.length : Int) then (impl_arranged.l1 k x1 x15 (rd x13 x15) x13 x14 x15 x1 (x1.length : Int) 0 x1233000 x1233001 x1240000 x1240001) else (none)) else (none)) else (some (x1240000, x1240001))
def impl_arranged.l1 : Nat → List Int → Int → Int → List Int → Int → Int → List Int → Int → Int → Int → List Int → Int → List Int → Option (Int × List Int)
 | 0, _, _, _, _, _, _, _, _, _, _, _, _, _ => none
 | k + 1, x1, x6, x7, x13, x14, x15, x20, x21, x22, x1233000, x1233001, x1240000, x1240001 => if x22 < x21 then (if 0 ≤ x22 then (if x22 < (x20.length : Int) then ((impl_depend.f x1233000 x1233001 x7 (rd x20 x22)).bind fun t1242 => (if t1242 = true then (if 0 ≤ x6 then (if x6 < (x1240001.length : Int) then ((impl_one.f x22).bind fun t1244 => (impl_arranged.l1 k x1 x6 x7 x13 x14 x15 x20 x21 (wrap64 (x22 + 1)) x1233000 x1233001 x1240000 (x1240001.set (x6 : Int).toNat (Go.bits .or .i64 (rd x1240001 x6) t1244)))) else (none)) else (none)) else (impl_arranged.l1 k x1 x6 x7 x13 x14 x15 x20 x21 (wrap64 (x22 + 1)) x1233000 x1233001 x1240000 x1240001))) else (none)) else (none)) else (impl_arranged.l0 k x1 x13 x14 (wrap64 (x15 + 1)) x1233000 x1233001 x1240000 x1240001)
end
def impl_arranged.f (k : Nat) (a0_0 : Int) (l0_1 : List Int) (l1 : List Int) : Option (Int × List Int) := (impl_length_int64.f l1).bind fun t1234 => ((impl_loose.f k t1234).bind fun bt1235 => (impl_arranged.l0 k l1 l1 (l1.length : Int) 0 a0_0 l0_1 bt1235.1 bt1235.2))
def impl_arranged.T9 : Bool × List (List Nat × List Nat) := (true, [([], []), ([0], [0]), ([], []), ([1, 2], [1, 2]), ([3], [3]), ([], []), ([5], [5]), ([4, 6], [4, 6]), ([1, 2, 0, 1, 2, 3, 4, 5, 6, 7], [1, 2]), ([8, 7, 6, 0, 1, 2, 3, 4, 5, 6, 7], [7, 8])])
def impl_arranged.B9 : List Nat := [0, 1, 0, 7, 15, 0, 32, 127, 255, 511]
theorem impl_arranged.tab9 : rtab .any (opsOf Tryd.f103 9) = impl_arranged.T9 := by kernel_rfl
theorem impl_arranged.bits9 : waitsOk impl_arranged.T9.2 impl_arranged.B9 = true := by kernel_rfl
set_option maxHeartbeats 8000000 in
set_option maxRecDepth 100000 in
theorem impl_arranged.calls (k : Nat) (a0_0 : Int) (A0_1 : Option Addr) (c0_1 : Nat) (l0_1 : List Int) (A1 : Option Addr) (c1 : Nat) (l1 : List Int) (r1 : Int) (r2 : List Int) (w : World) (hr0_1 : Kd.C (Kd.int .i64) w A0_1 l0_1.length l0_1) (hc0_1 : l0_1.length ≤ c0_1) (hr1 : Kd.C (Kd.int .i64) w A1 l1.length l1) (hc1 : l1.length ≤ c1) (h : impl_arranged.f k a0_0 l0_1 l1 = some (r1, r2)) :
  Calls Tryd.prog 103 #[.agg #[.int .i64 a0_0, .slice A0_1 l0_1.length c0_1], .slice A1 l1.length c1] w fun e w' => ∃ v1_ : Value, e = .returned (.agg #[.int .i64 r1, v1_]) ∧ Kd.R (Kd.int .i64) 2 w' w.heap.size (fun _ => True) v1_ r2 ∧ Below w.heap.size w w' := by
 have hu26 := Tryd.underlying26; have HR0_1 := Aside0.mk hr0_1; have HC0_1 := Aside0.mk hc0_1; clear hr0_1 hc0_1; have HR1 := Aside0.mk hr1; have HC1 := Aside0.mk hc1; clear hr1 hc1; have HB := Aside0.mk (Below.refl w.heap.size w)
 have H : ((impl_length_int64.f l1).bind fun t1234 => ((impl_loose.f k t1234).bind fun bt1235 => (impl_arranged.l0 k l1 l1 (l1.length : Int) 0 a0_0 l0_1 bt1235.1 bt1235.2))) = some (r1, r2) := h
 clear h; replace H := Option.bind_eq_some_iff.mp H; obtain ⟨t1234, A30, H⟩ := H
 replace H : ((impl_loose.f k t1234).bind fun bt1235 => (impl_arranged.l0 k l1 l1 (l1.length : Int) 0 a0_0 l0_1 bt1235.1 bt1235.2)) = some (r1, r2) := H
 have A3 := Aside0.mk A30; clear A30; replace H := Option.bind_eq_some_iff.mp H
 obtain ⟨⟨t1235, t1236⟩, A40, H⟩ := H
 replace H : (impl_arranged.l0 k l1 l1 (l1.length : Int) 0 a0_0 l0_1 t1235 t1236) = some (r1, r2) := H
 have A4 := Aside0.mk A40; clear A40
 have H' := Aside0.mk H
 clear H
 go_enter Tryd.func103, Tryd.ntmps103
 go_wp2_with (first | ((with_reducible refine gate_dst (N := 2) rfl ?_); refine box_event ?hg (N := 2) ?hd (cs := #[.int .i64 a0_0, .slice A0_1 l0_1.length c0_1]) (t := 26) ?hr ?_; (case hd => rfl); (case hg => rfl); (case hr => first | (go_simp; done) | (go_simp; rfl)); intro gb1232 hg w5 hbox hb; have BK1232 := Aside0.mk (hbox); have GW1232 := Aside0.mk ((by rw [hg]; exact (below_size (beQ HB)) : w.heap.size ≤ gb1232)); have GE1232 := Aside0.mk ((by rw [hg]; exact (below_size (beQ HB)) : w.heap.size ≤ gb1232)); replace HB := Aside0.mk (below_step (beQ HB) hb); clear hb hbox hg) | ((with_reducible refine gate_dst (N := 4) rfl ?_); refine box_event ?hg (N := 4) ?hd (cs := #[.int .i64 0, .slice none 0 0]) (t := 26) ?hr ?_; (case hd => rfl); (case hg => rfl); (case hr => first | (go_simp; done) | (go_simp; rfl)); intro gb1233 hg w6 hbox hb; have BK1233 := Aside0.mk (hbox); have GW1233 := Aside0.mk ((by rw [hg]; exact (below_size (beQ HB)) : w.heap.size ≤ gb1233)); have GE1233 := Aside0.mk ((by rw [hg]; exact (below_size (beQ HB)) : w.heap.size ≤ gb1233)); replace HB := Aside0.mk (below_step (beQ HB) hb); have NB1232_1233 := Aside0.mk ((by rw [hg]; exact Nat.ne_of_lt (blk_lt (blkQ BK1232)) : gb1232 ≠ gb1233)); have NB1233_1232 := Aside0.mk ((by rw [hg]; exact Nat.ne_of_gt (blk_lt (blkQ BK1232)) : gb1233 ≠ gb1232)); replace BK1232 := bb BK1232 hb; clear hb hbox hg) | ((with_reducible refine gate_callee (f := 118) rfl ?_); refine goesL_ (some 11) rfl rfl Tryd.func118 (by kernel_rfl) rfl #[.slice A1 l1.length c1] rfl lz ?_; (with_reducible refine (impl_length_int64.calls _ _ l1 t1234 _ ?side1 ?side2 A3.out).mono ?_); (case side1 => have q_ := Aside0.mk (Kd.C_below HR1.out HB.out); exact cQ q_); (case side2 => exact HC1.out); rintro e w' ⟨rfl, ⟨nd, rfl⟩⟩; refine ⟨_, rfl, ?_⟩; (try (rw [drewN_self w6]; generalize hq_ : World.drewN w6 _ = w6; have n0_ : Aside0 (w6.heap[gb1232]? = some (.cells #[.int .i64 a0_0, .slice A0_1 l0_1.length c0_1] 26 (0, 0))) := ⟨by rw [← hq_]; exact (blkQ BK1232)⟩; have n1_ : Aside0 (w6.heap[gb1233]? = some (.cells #[.int .i64 0, .slice none 0 0] 26 (0, 0))) := ⟨by rw [← hq_]; exact (blkQ BK1233)⟩; have n2_ : Aside0 (Below w.heap.size w w6) := ⟨by rw [← hq_]; exact (beQ HB)⟩; clear BK1232 BK1233 HB hq_; have BK1232 := n0_; have BK1233 := n1_; have HB := n2_; clear n0_ n1_ n2_))) | ((with_reducible refine gate_callee (f := 137) rfl ?_); refine goesL_ (some 12) rfl rfl Tryd.func137 (by kernel_rfl) rfl #[.int .i64 t1234] rfl lz ?_; (with_reducible refine (impl_loose.calls k t1234 t1235 t1236 _ A4.out).mono ?_); rintro e w7 ⟨v1237, rfl, ho0, hb⟩; refine ⟨_, rfl, ?_⟩; have HO1238 := Aside0.mk (Kd.R_lower ho0 (below_size (beQ HB))); replace BK1232 := bb BK1232 hb; replace BK1233 := bb BK1233 hb; replace HB := Aside0.mk (below_step (beQ HB) hb); (try clear hb); (try clear hb2); (try clear hk); (try clear hi); (try clear hgw_); (try clear ho0)) | ((with_reducible refine gate_dst (N := 5) rfl ?_); refine box_event ?hg (N := 5) ?hd (cs := #[.int .i64 0, .slice none 0 0]) (t := 26) ?hr ?_; (case hd => rfl); (case hg => rfl); (case hr => first | (go_simp; done) | (go_simp; rfl)); intro gb1239 hg w8 hbox hb; replace HO1238 := kb HO1238 hb; have BK1239 := Aside0.mk (hbox); have GW1239 := Aside0.mk ((by rw [hg]; exact (below_size (beQ HB)) : w.heap.size ≤ gb1239)); have GE1239 := Aside0.mk ((by rw [hg]; exact (below_size (beQ HB)) : w.heap.size ≤ gb1239)); replace HB := Aside0.mk (below_step (beQ HB) hb); have NB1232_1239 := Aside0.mk ((by rw [hg]; exact Nat.ne_of_lt (blk_lt (blkQ BK1232)) : gb1232 ≠ gb1239)); have NB1239_1232 := Aside0.mk ((by rw [hg]; exact Nat.ne_of_gt (blk_lt (blkQ BK1232)) : gb1239 ≠ gb1232)); replace BK1232 := bb BK1232 hb; have NB1233_1239 := Aside0.mk ((by rw [hg]; exact Nat.ne_of_lt (blk_lt (blkQ BK1233)) : gb1233 ≠ gb1239)); have NB1239_1233 := Aside0.mk ((by rw [hg]; exact Nat.ne_of_gt (blk_lt (blkQ BK1233)) : gb1239 ≠ gb1233)); replace BK1233 := bb BK1233 hb; clear hb hbox hg; have hnb9 := NB1239_1232.out; have hnc9 := NB1232_1239.out; have hnb10 := NB1239_1233.out; have hnc10 := NB1233_1239.out; have hcz11_0 : w8.cell? ⟨gb1239, 0, none⟩ = some (.int .i64 0) := bc BK1239 0; have hcz11_1 : w8.cell? ⟨gb1239, 1, none⟩ = some (.slice none 0 0) := bc BK1239 1; have hfz11_0 := blk_frozen BK1239.out 0; have hfz11_1 := blk_frozen BK1239.out 1; obtain ⟨Ao12, co12, eo12⟩ := Kd.R_slice HO1238.out; subst eo12))
 go_loopg [15] k (fun kq v15 w' => ∃ (x15_1 : Int) (x1240001_1 : List Int) (u1240001 : Value), v15 = .int .i64 x15_1 ∧ Aside0 (impl_arranged.l0 kq l1 l1 (l1.length : Int) x15_1 a0_0 l0_1 t1235 x1240001_1 = some (r1, r2)) ∧ Aside0 (kq ≤ k) ∧ Aside0 (Kd.R (Kd.int .i64) 2 w' w.heap.size (fun _ => True) u1240001 x1240001_1) ∧ Aside0 (w'.heap[gb1232]? = some (.cells #[.int .i64 a0_0, (.slice A0_1 l0_1.length c0_1)] 26 (0, 0))) ∧ Aside0 (w'.heap[gb1233]? = some (.cells #[.int .i64 0, (.slice none 0 0)] 26 (0, 0))) ∧ Aside0 (w'.heap[gb1239]? = some (.cells #[.int .i64 t1235, u1240001] 26 (0, 0))) ∧ Aside0 (Below w.heap.size w w'))
 case atStart => exact ⟨(0), (t1236), (.slice Ao12 t1236.length co12), sz, H', ⟨Nat.le_refl _⟩, ⟨by (with_reducible repeat (first | apply Kd.R_alloc | apply Kd.R_drewN | apply Kd.R_drew)); exact Kd.R_mono (Kd.R_far (p := ⟨gb1239, 1, none⟩) (Kd.R_far (p := ⟨gb1239, 0, none⟩) (Kd.R_types HO1238.out BK1239.out (by decide)) (fun _ hk => hk.2) (.int .i64 t1235)) (fun _ hk => hk.2) (.slice Ao12 t1236.length co12)) (fun _ hk => trivial)⟩, ⟨blkF BK1232⟩, ⟨blkF BK1233⟩, ⟨by (with_reducible repeat (first | refine blk_drewN ?_ _ | refine blk_drew ?_ | refine blk_alloc ?_ _)); refine blk_put (cs := #[.int .i64 t1235, .slice none 0 0]) ?_ 1 _ rfl; (with_reducible repeat (first | refine blk_drewN ?_ _ | refine blk_drew ?_ | refine blk_alloc ?_ _)); refine blk_put (cs := #[.int .i64 0, .slice none 0 0]) ?_ 0 _ rfl; (with_reducible repeat (first | refine blk_drewN ?_ _ | refine blk_drew ?_ | refine blk_alloc ?_ _)); exact BK1239.out⟩, ⟨beQ HB⟩⟩
 case round =>
  clear H'
  try clear c1
  try clear p2
  try clear c9
  try clear c10
  try clear c11
  try clear hcz11_0
  try clear hcz11_1
  try clear hfz11_0
  try clear hfz11_1
  obtain ⟨x15_1, x1240001_1, u1240001, rfl, HA, HK1, HO_1240001, BK1232, BK1233, BK1239, HB⟩ := hrel
  cases gk with
  | zero => exact absurd HA.out (by simp [impl_arranged.l0])
  | succ k1 =>
   have H := HA.out; clear HA
   simp only [impl_arranged.l0] at H
   by_cases c13 : x15_1 < (l1.length : Int)
   ·rw [if_pos c13] at H
    have c13b0 : decide (x15_1 < (l1.length : Int)) = true := decide_eq_true c13
    clear c13
    by_cases c14 : 0 ≤ x15_1
    ·rw [if_pos c14] at H
     have c14b0 : decide (0 ≤ x15_1) = true := decide_eq_true c14
     clear c14
     by_cases c15 : x15_1 < (l1.length : Int)
     ·rw [if_pos c15] at H
      have c15b0 : decide (x15_1 < (l1.length : Int)) = true := decide_eq_true c15
      clear c15
      have H' := Aside0.mk H
      clear H
      have p1240 : 0 ≤ (x15_1 : Int) := of_decide_eq_true (by first | (with_reducible assumption) | assumption)
      have q1240 : x15_1 < (l1.length : Int) := of_decide_eq_true (by first | (with_reducible assumption) | assumption)
      obtain ⟨ad1240, e1240, hx1240_0⟩ := Kd.at_int HR1.out x15_1 p1240 q1240; cases e1240; replace hx1240_0 := (HB.out.cell (World.block_lt_of_cell? w _ hx1240_0)).trans hx1240_0; replace p1240 := eq_true p1240; replace q1240 := eq_true q1240
      go_wp2
      go_loopg [22] k1 (fun kq v22 w' => ∃ (x22_2 : Int) (x1240001_2 : List Int) (u1240001 : Value), v22 = .int .i64 x22_2 ∧ Aside0 (impl_arranged.l1 kq l1 x15_1 (rd l1 x15_1) l1 (l1.length : Int) x15_1 l1 (l1.length : Int) x22_2 a0_0 l0_1 t1235 x1240001_2 = some (r1, r2)) ∧ Aside0 (kq ≤ k1) ∧ Aside0 (Kd.R (Kd.int .i64) 2 w' w.heap.size (fun _ => True) u1240001 x1240001_2) ∧ Aside0 (w'.heap[gb1232]? = some (.cells #[.int .i64 a0_0, (.slice A0_1 l0_1.length c0_1)] 26 (0, 0))) ∧ Aside0 (w'.heap[gb1233]? = some (.cells #[.int .i64 0, (.slice none 0 0)] 26 (0, 0))) ∧ Aside0 (w'.heap[gb1239]? = some (.cells #[.int .i64 t1235, u1240001] 26 (0, 0))) ∧ Aside0 (Below w.heap.size w w'))
      case atStart => exact ⟨(0), (x1240001_1), (u1240001), sz, H', ⟨Nat.le_refl _⟩, ⟨kdQ HO_1240001⟩, ⟨blkQ BK1232⟩, ⟨blkQ BK1233⟩, ⟨blkQ BK1239⟩, ⟨beQ HB⟩⟩
      case round =>
       clear H'
       try clear c1
       try clear p1
       try clear q1
       try clear hx1
       try clear p2
       try clear c9
       try clear c10
       try clear c11
       try clear p12
       try clear q12
       try clear hx12
       try clear c13
       try clear c13b0
       try clear c14
       try clear c14b0
       try clear c15
       try clear c15b0
       try clear hcz11_0
       try clear hcz11_1
       try clear hfz11_0
       try clear hfz11_1
       try clear hx1240_0
       try clear p1240
       try clear p2
       try clear q1240
       obtain ⟨x22_2, x1240001_2, u1240001, rfl, HA, HK2, HO_1240001, BK1232, BK1233, BK1239, HB⟩ := hrel
       cases gk with
       | zero => exact absurd HA.out (by simp [impl_arranged.l1])
       | succ k2 =>
        have H := HA.out; clear HA
        simp only [impl_arranged.l1] at H
        by_cases c16 : x22_2 < (l1.length : Int)
        ·rw [if_pos c16] at H
         have c16b0 : decide (x22_2 < (l1.length : Int)) = true := decide_eq_true c16
         clear c16
         by_cases c17 : 0 ≤ x22_2
         ·rw [if_pos c17] at H
          have c17b0 : decide (0 ≤ x22_2) = true := decide_eq_true c17
          clear c17
          by_cases c18 : x22_2 < (l1.length : Int)
          ·rw [if_pos c18] at H
           have c18b0 : decide (x22_2 < (l1.length : Int)) = true := decide_eq_true c18
           clear c18; replace H := Option.bind_eq_some_iff.mp H; obtain ⟨t1242, A190, H⟩ := H
           replace H : (if t1242 = true then (if 0 ≤ x15_1 then (if x15_1 < (x1240001_2.length : Int) then ((impl_one.f x22_2).bind fun t1244 => (impl_arranged.l1 k2 l1 x15_1 (rd l1 x15_1) l1 (l1.length : Int) x15_1 l1 (l1.length : Int) (wrap64 (x22_2 + 1)) a0_0 l0_1 t1235 (x1240001_2.set (x15_1 : Int).toNat (Go.bits .or .i64 (rd x1240001_2 x15_1) t1244)))) else (none)) else (none)) else (impl_arranged.l1 k2 l1 x15_1 (rd l1 x15_1) l1 (l1.length : Int) x15_1 l1 (l1.length : Int) (wrap64 (x22_2 + 1)) a0_0 l0_1 t1235 x1240001_2)) = some (r1, r2) := H
           have A19 := Aside0.mk A190; clear A190
           by_cases c20 : t1242 = true
           ·subst c20
            have H1 : (if 0 ≤ x15_1 then (if x15_1 < (x1240001_2.length : Int) then ((impl_one.f x22_2).bind fun t1244 => (impl_arranged.l1 k2 l1 x15_1 (rd l1 x15_1) l1 (l1.length : Int) x15_1 l1 (l1.length : Int) (wrap64 (x22_2 + 1)) a0_0 l0_1 t1235 (x1240001_2.set (x15_1 : Int).toNat (Go.bits .or .i64 (rd x1240001_2 x15_1) t1244)))) else (none)) else (none)) = some (r1, r2) := by rw [if_pos rfl] at H; exact H
            clear H; have H := H1; clear H1
            by_cases c21 : 0 ≤ x15_1
            ·rw [if_pos c21] at H
             have c21b0 : decide (0 ≤ x15_1) = true := decide_eq_true c21
             clear c21
             by_cases c22 : x15_1 < (x1240001_2.length : Int)
             ·rw [if_pos c22] at H
              have c22b0 : decide (x15_1 < (x1240001_2.length : Int)) = true := decide_eq_true c22
              clear c22; replace H := Option.bind_eq_some_iff.mp H; obtain ⟨t1244, A230, H⟩ := H
              replace H : (impl_arranged.l1 k2 l1 x15_1 (rd l1 x15_1) l1 (l1.length : Int) x15_1 l1 (l1.length : Int) (wrap64 (x22_2 + 1)) a0_0 l0_1 t1235 (x1240001_2.set (x15_1 : Int).toNat (Go.bits .or .i64 (rd x1240001_2 x15_1) t1244))) = some (r1, r2) := H
              have A23 := Aside0.mk A230; clear A230
              obtain ⟨y1245, hy1245⟩ : ∃ y_ : List Int, y_ = (x1240001_2.set (x15_1 : Int).toNat (Go.bits .or .i64 (rd x1240001_2 x15_1) t1244)) := ⟨_, rfl⟩
              replace H : (impl_arranged.l1 k2 l1 x15_1 (rd l1 x15_1) l1 (l1.length : Int) x15_1 l1 (l1.length : Int) (wrap64 (x22_2 + 1)) a0_0 l0_1 t1235 y1245) = some (r1, r2) := by first | (rw [hy1245]; with_reducible exact H) | (have H2_ := (Option.bind_some _ _).symm.trans H; rw [hy1245]; with_reducible exact H2_) | (have H2_ := (Option.bind_some _ _).symm.trans H; with_reducible exact H2_) | with_reducible exact H | (rw [hy1245]; exact H) | exact H
              have Ny1245 := Aside0.mk hy1245; clear hy1245
              have H' := Aside0.mk H
              clear H
              have p1241 : 0 ≤ (x22_2 : Int) := of_decide_eq_true (by first | (with_reducible assumption) | assumption)
              have q1241 : x22_2 < (l1.length : Int) := of_decide_eq_true (by first | (with_reducible assumption) | assumption)
              obtain ⟨ad1241, e1241, hx1241_0⟩ := Kd.at_int HR1.out x22_2 p1241 q1241
              obtain rfl : ad1240 = ad1241 := (by injection e1241)
              replace hx1241_0 := (HB.out.cell (World.block_lt_of_cell? w _ hx1241_0)).trans hx1241_0; replace p1241 := eq_true p1241; replace q1241 := eq_true q1241; have hnb25 := NB1232_1233.out; have hnc25 := NB1233_1232.out; have hnb26 := NB1232_1239.out; have hnc26 := NB1239_1232.out
              have hcz27_0 : wr.cell? ⟨gb1232, 0, none⟩ = some (.int .i64 a0_0) := bc BK1232 0
              have hcz27_1 : wr.cell? ⟨gb1232, 1, none⟩ = some (.slice A0_1 l0_1.length c0_1) := bc BK1232 1
              have hfz27_0 := blk_frozen BK1232.out 0; have hfz27_1 := blk_frozen BK1232.out 1
              try go_wp2_with (first | ((with_reducible refine gate_callee (f := 130) rfl ?_); refine goesL_ (some 30) rfl rfl Tryd.func130 (by kernel_rfl) rfl #[.agg #[.int .i64 a0_0, .slice A0_1 l0_1.length c0_1], .int .i64 (rd l1 x15_1), .int .i64 (rd l1 x22_2)] rfl lz ?_; (with_reducible refine (impl_depend.calls a0_0 _ _ l0_1 (rd l1 x15_1) (rd l1 x22_2) true _ ?side1 ?side2 A19.out).mono ?_); (case side1 => have q_ := Aside0.mk (Kd.C_below HR0_1.out HB.out); exact cQ q_); (case side2 => exact HC0_1.out); rintro e w28 ⟨rfl, hb⟩; refine ⟨_, rfl, ?_⟩; replace HO_1240001 := kb HO_1240001 hb; replace BK1232 := bb BK1232 hb; replace BK1233 := bb BK1233 hb; replace BK1239 := bb BK1239 hb; replace HB := Aside0.mk (below_step (beQ HB) hb); (try clear hb); (try clear hb2); (try clear hk); (try clear hi); (try clear hgw_)))
              replace HO_1240001 := Aside0.mk (Kd.R_drew HO_1240001.out); replace BK1232 := Aside0.mk (blk_drew BK1232.out); replace BK1233 := Aside0.mk (blk_drew BK1233.out); replace BK1239 := Aside0.mk (blk_drew BK1239.out); replace HB := Aside0.mk (below_drew1 HB.out); obtain ⟨Ao30, co30, eo30⟩ := Kd.R_slice HO_1240001.out
              (first | subst eo30 | (injection eo30 with f1_ f2_ f3_; have f4_ := f1_.symm; have f5_ := f3_.symm; clear f1_ f2_ f3_; subst f4_; subst f5_))
              have p1243 : 0 ≤ (x15_1 : Int) := of_decide_eq_true (by first | (with_reducible assumption) | assumption)
              have q1243 : x15_1 < (x1240001_2.length : Int) := of_decide_eq_true (by first | (with_reducible assumption) | assumption)
              obtain ⟨ad1243, e1243, hx1243_0⟩ := Kd.at_int (Kd.R_reads' HO_1240001.out).2.2 x15_1 p1243 q1243; cases e1243; replace p1243 := eq_true p1243; replace q1243 := eq_true q1243
              refine start_ (n := 10) (S := fun w' => w'.cell? ⟨gb1239, 0, none⟩ = some (.int .i64 t1235) ∧ w'.cell? ⟨gb1239, 1, none⟩ = some (.slice (some ad1243) x1240001_2.length co30) ∧ w'.cell? (ad1243.add (x15_1).toNat) = some (.int .i64 (rd x1240001_2 x15_1))) (ds := [9]) #[false, false, false, false, false, false, false, false, false, false] (by kernel_rfl) rfl rfl ⟨bc BK1239 0, bc BK1239 1, hx1243_0⟩ (fun hHeld => ?_); refine with_tabW impl_arranged.tab9 impl_arranged.bits9 (fun HT_ HW_ => ?_)
              generalize w28.drew = w29 at HO_1240001 BK1232 BK1233 BK1239 HB hx1243_0 hHeld ⊢
              refine pure_ (i := 0) (N := some 31) (v := ?_) (a' := ?_) #[true, false, false, false, false, false, false, false, false, false] rfl rfl (any_of HT_.out (by kernel_rfl)) (fun _ _ _ h => h) (Or.inl ⟨by rfl, ?_⟩) ?_ ?_
              rotate_left
              ·intro w'
               go_simp
               with_reducible rfl
              rotate_left
              ·simp only [Act.put, s1, s2, s3, i64_w, i32_w]
               rfl
              refine pure_ (i := 2) (N := some 33) (v := ?_) (a' := ?_) #[true, false, true, false, false, false, false, false, false, false] rfl rfl (any_of HT_.out (by kernel_rfl)) (fun _ _ _ h => h) (Or.inl ⟨by rfl, ?_⟩) ?_ ?_
              rotate_left
              ·intro w'
               go_simp
               with_reducible rfl
              rotate_left
              ·simp only [Act.put, s1, s2, s3, i64_w, i32_w]
               rfl
              refine pure_ (i := 5) (N := some 36) (v := ?_) (a' := ?_) #[true, false, true, false, false, true, false, false, false, false] rfl rfl (any_of HT_.out (by kernel_rfl)) (fun _ _ _ h => h) (Or.inl ⟨by rfl, ?_⟩) ?_ ?_
              rotate_left
              ·intro w'
               go_simp
               with_reducible rfl
              rotate_left
              ·simp only [Act.put, s1, s2, s3, i64_w, i32_w]
               rfl
              refine take_ (i := 1) (N := some 32) (v := ?_) (a' := ?_) #[true, true, true, false, false, true, false, false, false, false] rfl rfl (take_ofW HT_.out HW_.out (by kernel_rfl)) (fun _ _ _ h => h) (Or.inl ⟨by rfl, ?_⟩) hHeld ?_ ?_
              rotate_left
              ·rintro w' ⟨s0, s1, s2⟩
               go_simp
               with_reducible rfl
              rotate_left
              ·simp only [Act.put, s1, s2, s3, i64_w, i32_w]
               rfl
              refine pure_ (i := 3) (N := some 34) (v := ?_) (a' := ?_) #[true, true, true, true, false, true, false, false, false, false] rfl rfl (any_of HT_.out (by kernel_rfl)) (fun _ _ _ h => h) (Or.inl ⟨by rfl, ?_⟩) ?_ ?_
              rotate_left
              ·intro w'
               go_simp
               with_reducible rfl
              rotate_left
              ·simp only [Act.put, s1, s2, s3, i64_w, i32_w]
               rfl
              refine take_ (i := 4) (N := some 35) (v := ?_) (a' := ?_) #[true, true, true, true, true, true, false, false, false, false] rfl rfl (take_ofW HT_.out HW_.out (by kernel_rfl)) (fun _ _ _ h => h) (Or.inl ⟨by rfl, ?_⟩) hHeld ?_ ?_
              rotate_left
              ·rintro w' ⟨s0, s1, s2⟩
               go_simp
               with_reducible rfl
              rotate_left
              ·simp only [Act.put, s1, s2, s3, i64_w, i32_w]
               rfl
              refine one_ (i := 6) (N := some 37) #[true, true, true, true, true, true, true, false, false, false] rfl rfl (one_of HT_.out (by kernel_rfl)) (by decide) (fun K hK => ?_)
              refine goes_ Tryd.func121 (by kernel_rfl) rfl #[.int .i64 x22_2] (by rfl) rfl rfl lz ?_
              with_reducible refine (impl_one.calls x22_2 t1244 _ A23.out).mono ?_
              rintro e w' ⟨rfl, ⟨nd, rfl⟩⟩
              refine ⟨_, rfl, ?_⟩
              have p24 : 0 ≤ (x15_1 : Int) := of_decide_eq_true (by first | (with_reducible assumption) | assumption)
              have q24 : (x15_1 : Int) < ((x1240001_2.length : Int) : Int) := of_decide_eq_true (by first | (with_reducible assumption) | assumption)
              obtain ⟨go24, co24, eo24, gb24, gl24, cl24, HG24⟩ := Kd.R_form HO_1240001.out (by omega)
              (first | cases eo24 | (injection eo24 with ea_ en_ ec_; (first | subst ea_ | (injection ea_ with ea_; subst ea_)); subst ec_; clear en_))
              have GB24 := Aside0.mk gb24; have GG24 := Aside0.mk HG24; clear gb24 gl24 HG24
              (first | simp only [add_plain] at hx1243_0 | skip)
              obtain ⟨hx24_0, hf24_0⟩ := Kd.R_celln 0 HO_1240001.out (x15_1 : Int) p24 q24; replace p24 := eq_true p24; replace q24 := eq_true q24; have HP31 := Kd.R_putn HO_1240001.out (x15_1 : Int) (Go.bits .or .i64 (rd x1240001_2 x15_1) t1244); rw [← Ny1245.out] at HP31; have HQ31 := Aside0.mk HP31; clear HP31
              refine hK.out _ _ ⟨bc BK1239 0, bc BK1239 1, hHeld.2.2⟩ (fun hHeld => ?_)
              clear hK K
              refine norm_ (a' := ?_) ?_ ?_
              rotate_left
              ·show Act.put _ (some 37) _ = _
               simp only [Act.put, s1, s2, s3, i64_w, i32_w]
               rfl
              refine pure_ (i := 7) (N := some 38) (v := ?_) (a' := ?_) #[true, true, true, true, true, true, true, true, false, false] rfl rfl (any_of HT_.out (by kernel_rfl)) (fun _ _ _ h => h) (Or.inl ⟨by rfl, ?_⟩) ?_ ?_
              rotate_left
              ·intro w'
               go_simp
               with_reducible rfl
              rotate_left
              ·simp only [Act.put, s1, s2, s3, i64_w, i32_w]
               rfl
              refine pure_ (i := 8) (N := some 39) (v := ?_) (a' := ?_) #[true, true, true, true, true, true, true, true, true, false] rfl rfl (any_of HT_.out (by kernel_rfl)) (fun _ _ _ h => h) (Or.inl ⟨by rfl, ?_⟩) ?_ ?_
              rotate_left
              ·intro w'
               go_simp
               with_reducible rfl
              rotate_left
              ·simp only [Act.put, s1, s2, s3, i64_w, i32_w]
               rfl
              refine last_ (i := 9) (N := none) #[true, true, true, true, true, true, true, true, true, true] rfl rfl (one_of HT_.out (by kernel_rfl)) (by decide) (fun K hK => ?_)
              refine skip_ (w1 := ?_) (by rfl) rfl ?_ ?_
              rotate_left
              ·go_simp
               rfl
              refine hK.out _ _ ?_
              clear hK K
              refine done_ (done_of HT_.out (by kernel_rfl)) ?_
              try go_wp2
              go_roundg k2
              case measure => have := HK1.out; have := HK2.out; omega
              case rel => exact ⟨(wrap64 (x22_2 + 1)), (y1245), (.slice (some ⟨go24, 0, none⟩) x1240001_2.length co30), sz, H', ⟨by have := HK1.out; have := HK2.out; omega⟩, ⟨by (with_reducible repeat (first | apply Kd.R_alloc | apply Kd.R_drewN | apply Kd.R_drew)); exact HQ31.out⟩, ⟨by (with_reducible repeat (first | refine blk_drewN ?_ _ | refine blk_drew ?_ | refine blk_alloc ?_ _)); refine blk_far ?_ (by have h_ := Kd.R_ne HO_1240001.out BK1232.out (by decide); intro e_; exact h_ (by rw [e_]; rfl)) _; (with_reducible repeat (first | refine blk_drewN ?_ _ | refine blk_drew ?_ | refine blk_alloc ?_ _)); exact BK1232.out⟩, ⟨by (with_reducible repeat (first | refine blk_drewN ?_ _ | refine blk_drew ?_ | refine blk_alloc ?_ _)); refine blk_far ?_ (by have h_ := Kd.R_ne HO_1240001.out BK1233.out (by decide); intro e_; exact h_ (by rw [e_]; rfl)) _; (with_reducible repeat (first | refine blk_drewN ?_ _ | refine blk_drew ?_ | refine blk_alloc ?_ _)); exact BK1233.out⟩, ⟨by (with_reducible repeat (first | refine blk_drewN ?_ _ | refine blk_drew ?_ | refine blk_alloc ?_ _)); refine blk_far ?_ (by have h_ := Kd.R_ne HO_1240001.out BK1239.out (by decide); intro e_; exact h_ (by rw [e_]; rfl)) _; (with_reducible repeat (first | refine blk_drewN ?_ _ | refine blk_drew ?_ | refine blk_alloc ?_ _)); exact BK1239.out⟩, ⟨by repeat (first | (with_reducible first | exact HB.out | apply below_alloc | apply pw_below_drewN | apply below_drew1 | refine below_set ?_ GB24.out | refine below_set ?_ GE1232.out | refine below_set ?_ GE1233.out | refine below_set ?_ GE1239.out) | exact HB.out)⟩⟩
             ·rw [if_neg c22] at H
              exact absurd H (by simp)
            ·rw [if_neg c21] at H
             exact absurd H (by simp)
           ·replace c20 := Bool.eq_false_iff.mpr c20
            subst c20
            have H1 : (impl_arranged.l1 k2 l1 x15_1 (rd l1 x15_1) l1 (l1.length : Int) x15_1 l1 (l1.length : Int) (wrap64 (x22_2 + 1)) a0_0 l0_1 t1235 x1240001_2) = some (r1, r2) := by rw [if_neg (show ¬ (false = true) by decide)] at H; exact H
            clear H; have H := H1; clear H1
            have H' := Aside0.mk H
            clear H
            have p1241 : 0 ≤ (x22_2 : Int) := of_decide_eq_true (by first | (with_reducible assumption) | assumption)
            have q1241 : x22_2 < (l1.length : Int) := of_decide_eq_true (by first | (with_reducible assumption) | assumption)
            obtain ⟨ad1241, e1241, hx1241_0⟩ := Kd.at_int HR1.out x22_2 p1241 q1241
            obtain rfl : ad1240 = ad1241 := (by injection e1241)
            replace hx1241_0 := (HB.out.cell (World.block_lt_of_cell? w _ hx1241_0)).trans hx1241_0; replace p1241 := eq_true p1241; replace q1241 := eq_true q1241; have hnb32 := NB1232_1233.out; have hnc32 := NB1233_1232.out; have hnb33 := NB1232_1239.out; have hnc33 := NB1239_1232.out
            have hcz34_0 : wr.cell? ⟨gb1232, 0, none⟩ = some (.int .i64 a0_0) := bc BK1232 0
            have hcz34_1 : wr.cell? ⟨gb1232, 1, none⟩ = some (.slice A0_1 l0_1.length c0_1) := bc BK1232 1
            have hfz34_0 := blk_frozen BK1232.out 0; have hfz34_1 := blk_frozen BK1232.out 1
            go_wp2_with (first | ((with_reducible refine gate_callee (f := 130) rfl ?_); refine goesL_ (some 30) rfl rfl Tryd.func130 (by kernel_rfl) rfl #[.agg #[.int .i64 a0_0, .slice A0_1 l0_1.length c0_1], .int .i64 (rd l1 x15_1), .int .i64 (rd l1 x22_2)] rfl lz ?_; (with_reducible refine (impl_depend.calls a0_0 _ _ l0_1 (rd l1 x15_1) (rd l1 x22_2) false _ ?side1 ?side2 A19.out).mono ?_); (case side1 => have q_ := Aside0.mk (Kd.C_below HR0_1.out HB.out); exact cQ q_); (case side2 => exact HC0_1.out); rintro e w35 ⟨rfl, hb⟩; refine ⟨_, rfl, ?_⟩; replace HO_1240001 := kb HO_1240001 hb; replace BK1232 := bb BK1232 hb; replace BK1233 := bb BK1233 hb; replace BK1239 := bb BK1239 hb; replace HB := Aside0.mk (below_step (beQ HB) hb); (try clear hb); (try clear hb2); (try clear hk); (try clear hi); (try clear hgw_)))
            go_roundg k2
            case measure => have := HK1.out; have := HK2.out; omega
            case rel => exact ⟨(wrap64 (x22_2 + 1)), (x1240001_2), (u1240001), sz, H', ⟨by have := HK1.out; have := HK2.out; omega⟩, ⟨kdQ HO_1240001⟩, ⟨blkQ BK1232⟩, ⟨blkQ BK1233⟩, ⟨blkQ BK1239⟩, ⟨beQ HB⟩⟩
          ·rw [if_neg c18] at H
           exact absurd H (by simp)
         ·rw [if_neg c17] at H
          exact absurd H (by simp)
        ·rw [if_neg c16] at H
         have c16b0 : decide (x22_2 < (l1.length : Int)) = false := decide_eq_false c16
         clear c16
         have H' := Aside0.mk H
         clear H
         go_wp2
         go_roundg k2
         case measure => have := HK1.out; have := HK2.out; omega
         case rel => exact ⟨(wrap64 (x15_1 + 1)), (x1240001_2), (u1240001), sz, H', ⟨by have := HK1.out; have := HK2.out; omega⟩, ⟨kdQ HO_1240001⟩, ⟨blkQ BK1232⟩, ⟨blkQ BK1233⟩, ⟨blkQ BK1239⟩, ⟨beQ HB⟩⟩
     ·rw [if_neg c15] at H
      exact absurd H (by simp)
    ·rw [if_neg c14] at H
     exact absurd H (by simp)
   ·rw [if_neg c13] at H
    have c13b0 : decide (x15_1 < (l1.length : Int)) = false := decide_eq_false c13
    clear c13
    simp only [Option.some.injEq, Prod.mk.injEq] at H
    obtain ⟨rfl, rfl⟩ := H; have hnb36 := NB1239_1232.out; have hnc36 := NB1232_1239.out; have hnb37 := NB1239_1233.out; have hnc37 := NB1233_1239.out
    have hcz38_0 : wr.cell? ⟨gb1239, 0, none⟩ = some (.int .i64 t1235) := bc BK1239 0
    have hcz38_1 : wr.cell? ⟨gb1239, 1, none⟩ = some (u1240001) := bc BK1239 1
    have hfz38_0 := blk_frozen BK1239.out 0; have hfz38_1 := blk_frozen BK1239.out 1; have hnb39 := NB1233_1232.out; have hnc39 := NB1232_1233.out
    have hcz40_0 : wr.cell? ⟨gb1233, 0, none⟩ = some (.int .i64 0) := bc BK1233 0
    have hcz40_1 : wr.cell? ⟨gb1233, 1, none⟩ = some (.slice none 0 0) := bc BK1233 1
    have hfz40_0 := blk_frozen BK1233.out 0; have hfz40_1 := blk_frozen BK1233.out 1; obtain ⟨Ao41, co41, eo41⟩ := Kd.R_slice HO_1240001.out; subst eo41
    go_wp2
    refine bodyPost_ret (results_cell_row rfl _ _ gb1233 26 #[.int .i64 t1235, .slice Ao41 x1240001_1.length co41] (0, 0) _ rfl (by (with_reducible repeat (first | refine blk_drewN ?_ _ | refine blk_drew ?_ | refine blk_alloc ?_ _)); refine blk_put (cs := #[.int .i64 t1235, .slice none 0 0]) ?_ 1 _ rfl; (with_reducible repeat (first | refine blk_drewN ?_ _ | refine blk_drew ?_ | refine blk_alloc ?_ _)); refine blk_put (cs := #[.int .i64 0, .slice none 0 0]) ?_ 0 _ rfl; (with_reducible repeat (first | refine blk_drewN ?_ _ | refine blk_drew ?_ | refine blk_alloc ?_ _)); exact BK1233.out) Tryd.underlying26 rfl (by kernel_rfl)) rfl ?_
    exact ⟨_, rz, by (with_reducible repeat (first | apply Kd.R_alloc | apply Kd.R_drewN | apply Kd.R_drew)); exact Kd.R_mono (Kd.R_far (p := ⟨gb1233, 1, none⟩) (Kd.R_far (p := ⟨gb1233, 0, none⟩) (Kd.R_types HO_1240001.out BK1233.out (by decide)) (fun _ hk => hk.2) (.int .i64 t1235)) (fun _ hk => hk.2) (.slice Ao41 x1240001_1.length co41)) (fun _ hk => trivial), beQ HB⟩
def impl_PartOfAlphabet.f (k : Nat) (a0_0 : Int) (l0_1 : List Int) (a1 : Int) : Option (Int × List Int × Int) := (impl_IsAlphabet.f k a0_0 l0_1).bind fun t1248 => (if t1248 = true then ((impl_IsMask.f a1 a0_0).bind fun t1249 => (if t1249 = true then ((impl_members.f k a1).bind fun t1250 => ((impl_arranged.f k a0_0 l0_1 t1250).bind fun bt1253 => (some (bt1253.1, bt1253.2, 0)))) else (some (0, ([] : List Int), 2)))) else (some (0, ([] : List Int), 1)))
set_option maxHeartbeats 8000000 in
set_option maxRecDepth 100000 in
theorem impl_PartOfAlphabet.calls (k : Nat) (a0_0 : Int) (A0_1 : Option Addr) (c0_1 : Nat) (l0_1 : List Int) (a1 : Int) (r1 : Int) (r2 : List Int) (r3 : Int) (w : World) (hr0_1 : Kd.C (Kd.int .i64) w A0_1 l0_1.length l0_1) (hc0_1 : l0_1.length ≤ c0_1) (hT : TabW w) (h : impl_PartOfAlphabet.f k a0_0 l0_1 a1 = some (r1, r2, r3)) :
  Calls Tryd.prog 46 #[.agg #[.int .i64 a0_0, .slice A0_1 l0_1.length c0_1], .int .i64 a1] w fun e w' => ∃ v1_ : Value, e = .returned (.tuple #[.agg #[.int .i64 r1, v1_], .int .i64 r3]) ∧ Kd.R (Kd.int .i64) 2 w' w.heap.size (fun _ => True) v1_ r2 ∧ Below w.heap.size w w' := by
 have hu26 := Tryd.underlying26; have HT := Aside0.mk hT; clear hT; have HR0_1 := Aside0.mk hr0_1; have HC0_1 := Aside0.mk hc0_1; clear hr0_1 hc0_1; have HB := Aside0.mk (Below.refl w.heap.size w)
 have H : ((impl_IsAlphabet.f k a0_0 l0_1).bind fun t1248 => (if t1248 = true then ((impl_IsMask.f a1 a0_0).bind fun t1249 => (if t1249 = true then ((impl_members.f k a1).bind fun t1250 => ((impl_arranged.f k a0_0 l0_1 t1250).bind fun bt1253 => (some (bt1253.1, bt1253.2, 0)))) else (some (0, ([] : List Int), 2)))) else (some (0, ([] : List Int), 1)))) = some (r1, r2, r3) := h
 clear h; replace H := Option.bind_eq_some_iff.mp H; obtain ⟨t1248, A30, H⟩ := H
 replace H : (if t1248 = true then ((impl_IsMask.f a1 a0_0).bind fun t1249 => (if t1249 = true then ((impl_members.f k a1).bind fun t1250 => ((impl_arranged.f k a0_0 l0_1 t1250).bind fun bt1253 => (some (bt1253.1, bt1253.2, 0)))) else (some (0, ([] : List Int), 2)))) else (some (0, ([] : List Int), 1))) = some (r1, r2, r3) := H
 have A3 := Aside0.mk A30; clear A30
 by_cases c4 : t1248 = true
 ·subst c4
  have H1 : ((impl_IsMask.f a1 a0_0).bind fun t1249 => (if t1249 = true then ((impl_members.f k a1).bind fun t1250 => ((impl_arranged.f k a0_0 l0_1 t1250).bind fun bt1253 => (some (bt1253.1, bt1253.2, 0)))) else (some (0, ([] : List Int), 2)))) = some (r1, r2, r3) := by rw [if_pos rfl] at H; exact H
  clear H; have H := H1; clear H1; replace H := Option.bind_eq_some_iff.mp H; obtain ⟨t1249, A50, H⟩ := H
  replace H : (if t1249 = true then ((impl_members.f k a1).bind fun t1250 => ((impl_arranged.f k a0_0 l0_1 t1250).bind fun bt1253 => (some (bt1253.1, bt1253.2, 0)))) else (some (0, ([] : List Int), 2))) = some (r1, r2, r3) := H
  have A5 := Aside0.mk A50; clear A50
  by_cases c6 : t1249 = true
  ·subst c6
   have H1 : ((impl_members.f k a1).bind fun t1250 => ((impl_arranged.f k a0_0 l0_1 t1250).bind fun bt1253 => (some (bt1253.1, bt1253.2, 0)))) = some (r1, r2, r3) := by rw [if_pos rfl] at H; exact H
   clear H; have H := H1; clear H1; replace H := Option.bind_eq_some_iff.mp H; obtain ⟨t1250, A70, H⟩ := H
   replace H : ((impl_arranged.f k a0_0 l0_1 t1250).bind fun bt1253 => (some (bt1253.1, bt1253.2, 0))) = some (r1, r2, r3) := H
   have A7 := Aside0.mk A70; clear A70; replace H := Option.bind_eq_some_iff.mp H
   obtain ⟨⟨t1253, t1254⟩, A80, H⟩ := H
   replace H : (some (t1253, t1254, 0)) = some (r1, r2, r3) := H
   have A8 := Aside0.mk A80; clear A80
   simp only [Option.some.injEq, Prod.mk.injEq] at H
   obtain ⟨rfl, rfl, rfl⟩ := H
   go_enter Tryd.func46, Tryd.ntmps46
   try go_wp2_with (first | ((with_reducible refine gate_dst (N := 2) rfl ?_); refine box_event ?hg (N := 2) ?hd (cs := #[.int .i64 a0_0, .slice A0_1 l0_1.length c0_1]) (t := 26) ?hr ?_; (case hd => rfl); (case hg => rfl); (case hr => first | (go_simp; done) | (go_simp; rfl)); intro gb1246 hg w9 hbox hb; have BK1246 := Aside0.mk (hbox); have GW1246 := Aside0.mk ((by rw [hg]; exact (below_size (beQ HB)) : w.heap.size ≤ gb1246)); have GE1246 := Aside0.mk ((by rw [hg]; exact (below_size (beQ HB)) : w.heap.size ≤ gb1246)); replace HB := Aside0.mk (below_step (beQ HB) hb); clear hb hbox hg) | ((with_reducible refine gate_dst (N := 4) rfl ?_); refine box_event ?hg (N := 4) ?hd (cs := #[.int .i64 0, .slice none 0 0]) (t := 26) ?hr ?_; (case hd => rfl); (case hg => rfl); (case hr => first | (go_simp; done) | (go_simp; rfl)); intro gb1247 hg w10 hbox hb; have BK1247 := Aside0.mk (hbox); have GW1247 := Aside0.mk ((by rw [hg]; exact (below_size (beQ HB)) : w.heap.size ≤ gb1247)); have GE1247 := Aside0.mk ((by rw [hg]; exact (below_size (beQ HB)) : w.heap.size ≤ gb1247)); replace HB := Aside0.mk (below_step (beQ HB) hb); have NB1246_1247 := Aside0.mk ((by rw [hg]; exact Nat.ne_of_lt (blk_lt (blkQ BK1246)) : gb1246 ≠ gb1247)); have NB1247_1246 := Aside0.mk ((by rw [hg]; exact Nat.ne_of_gt (blk_lt (blkQ BK1246)) : gb1247 ≠ gb1246)); replace BK1246 := bb BK1246 hb; clear hb hbox hg; have hnb11 := NB1246_1247.out; have hnc11 := NB1247_1246.out; have hcz12_0 : w10.cell? ⟨gb1246, 0, none⟩ = some (.int .i64 a0_0) := bc BK1246 0; have hcz12_1 : w10.cell? ⟨gb1246, 1, none⟩ = some (.slice A0_1 l0_1.length c0_1) := bc BK1246 1; have hfz12_0 := blk_frozen BK1246.out 0; have hfz12_1 := blk_frozen BK1246.out 1) | ((with_reducible refine gate_callee (f := 62) rfl ?_); refine goesL_ (some 7) rfl rfl Tryd.func62 (by kernel_rfl) rfl #[.agg #[.int .i64 a0_0, .slice A0_1 l0_1.length c0_1]] rfl lz ?_; (with_reducible refine (impl_IsAlphabet.calls k a0_0 _ _ l0_1 true _ ?side1 ?side2 ?side3 A3.out).mono ?_); (case side1 => have q_ := Aside0.mk (Kd.C_below HR0_1.out HB.out); exact cQ q_); (case side2 => exact HC0_1.out); (case side3 => exact TabW.below HT.out (beQ HB)); rintro e w13 ⟨rfl, hb⟩; refine ⟨_, rfl, ?_⟩; replace BK1246 := bb BK1246 hb; replace BK1247 := bb BK1247 hb; replace HB := Aside0.mk (below_step (beQ HB) hb); (try clear hb); (try clear hb2); (try clear hk); (try clear hi); (try clear hgw_); have hcz14_0 : w13.cell? ⟨gb1246, 0, none⟩ = some (.int .i64 a0_0) := bc BK1246 0; have hcz14_1 : w13.cell? ⟨gb1246, 1, none⟩ = some (.slice A0_1 l0_1.length c0_1) := bc BK1246 1; have hfz14_0 := blk_frozen BK1246.out 0; have hfz14_1 := blk_frozen BK1246.out 1) | ((with_reducible refine gate_callee (f := 89) rfl ?_); refine goesL_ (some 13) rfl rfl Tryd.func89 (by kernel_rfl) rfl #[.int .i64 a1, .int .i64 a0_0] rfl lz ?_; (with_reducible refine (impl_IsMask.calls a1 a0_0 true _ A5.out).mono ?_); rintro e w' ⟨rfl, ⟨nd, rfl⟩⟩; refine ⟨_, rfl, ?_⟩; (try (rw [drewN_self w13]; generalize hq_ : World.drewN w13 _ = w13; have n0_ : Aside0 (w13.heap[gb1246]? = some (.cells #[.int .i64 a0_0, .slice A0_1 l0_1.length c0_1] 26 (0, 0))) := ⟨by rw [← hq_]; exact (blkQ BK1246)⟩; have n1_ : Aside0 (w13.heap[gb1247]? = some (.cells #[.int .i64 0, .slice none 0 0] 26 (0, 0))) := ⟨by rw [← hq_]; exact (blkQ BK1247)⟩; have n2_ : Aside0 (Below w.heap.size w w13) := ⟨by rw [← hq_]; exact (beQ HB)⟩; clear BK1246 BK1247 HB hq_; have BK1246 := n0_; have BK1247 := n1_; have HB := n2_; clear n0_ n1_ n2_))))
   replace BK1246 := Aside0.mk (blk_drew BK1246.out); replace BK1247 := Aside0.mk (blk_drew BK1247.out); replace HB := Aside0.mk (below_drew1 HB.out)
   refine start_ (n := 6) (S := fun w' => w'.cell? ⟨gb1246, 0, none⟩ = some (.int .i64 a0_0) ∧ w'.cell? ⟨gb1246, 1, none⟩ = some (.slice A0_1 l0_1.length c0_1)) (ds := []) #[false, false, false, false, false, false] (by kernel_rfl) rfl rfl ⟨bc BK1246 0, bc BK1246 1⟩ (fun hHeld => ?_)
   generalize w13.drew = w15 at BK1246 BK1247 HB hHeld ⊢
   refine pure_ (i := 1) (N := some 17) (v := ?_) (a' := ?_) #[false, true, false, false, false, false] rfl rfl (by kernel_rfl) (fun _ _ _ h => h) (Or.inl ⟨by rfl, ?_⟩) ?_ ?_
   rotate_left
   ·intro w'
    go_simp
    with_reducible rfl
   rotate_left
   ·simp only [Act.put, s1, s2, s3, i64_w, i32_w]
    rfl
   refine take_ (i := 0) (N := some 16) (v := ?_) (a' := ?_) #[true, true, false, false, false, false] rfl rfl (by kernel_rfl) (fun _ _ _ h => h) (Or.inl ⟨by rfl, ?_⟩) hHeld ?_ ?_
   rotate_left
   ·rintro w' ⟨s0, s1⟩
    go_simp
    with_reducible rfl
   rotate_left
   ·simp only [Act.put, s1, s2, s3, i64_w, i32_w]
    rfl
   refine one_ (i := 2) (N := some 18) #[true, true, true, false, false, false] rfl rfl (by kernel_rfl) (by decide) (fun K hK => ?_)
   refine goes_ Tryd.func104 (by kernel_rfl) rfl #[.int .i64 a1] (by rfl) rfl rfl lz ?_
   with_reducible refine (impl_members.calls k a1 t1250 _ ?side1 A7.out).mono ?_
   (case side1 => exact TabW.below HT.out (beQ HB))
   rintro e w16 ⟨v1251, rfl, ho0, hb⟩
   refine ⟨_, rfl, ?_⟩
   have HO1252 := Aside0.mk (Kd.R_lower ho0 (below_size (beQ HB))); replace BK1246 := bb BK1246 hb; replace BK1247 := bb BK1247 hb; replace HB := Aside0.mk (below_step (beQ HB) hb)
   (try clear hb)
   (try clear hb2)
   (try clear hk)
   (try clear hi)
   (try clear hgw_)
   (try clear ho0)
   obtain ⟨Ao17, co17, eo17⟩ := Kd.R_slice HO1252.out
   (first | subst eo17 | (injection eo17 with f1_ f2_ f3_; have f4_ := f1_.symm; have f5_ := f3_.symm; clear f1_ f2_ f3_; subst f4_; subst f5_))
   refine hK.out _ _ ⟨bc BK1246 0, bc BK1246 1⟩ (fun hHeld => ?_)
   clear hK K
   refine norm_ (a' := ?_) ?_ ?_
   rotate_left
   ·show Act.put _ (some 18) _ = _
    simp only [Act.put, s1, s2, s3, i64_w, i32_w]
    rfl
   refine one_ (i := 3) (N := some 19) #[true, true, true, true, false, false] rfl rfl (by kernel_rfl) (by decide) (fun K hK => ?_)
   refine goes_ Tryd.func103 (by kernel_rfl) rfl #[.agg #[.int .i64 a0_0, .slice A0_1 l0_1.length c0_1], .slice Ao17 t1250.length co17] (by rfl) rfl rfl lz ?_
   with_reducible refine (impl_arranged.calls k a0_0 _ _ l0_1 _ _ t1250 t1253 t1254 _ ?side1 ?side2 ?side3 ?side4 A8.out).mono ?_
   (case side1 => have q_ := Aside0.mk (Kd.C_below HR0_1.out HB.out); exact cQ q_)
   (case side2 => exact HC0_1.out)
   (case side3 => have q_ := Aside0.mk (Kd.R_reads' HO1252.out).2.2; exact cQ q_)
   (case side4 => exact (Kd.R_reads' HO1252.out).2.1)
   rintro e w18 ⟨v1255, rfl, ho0, hb⟩
   refine ⟨_, rfl, ?_⟩
   have HO1256 := Aside0.mk (Kd.R_lower (Kd.R_new' ho0 (Kd.R_lt (kdQ HO1252))) (below_size (beQ HB))); replace HO1252 := Aside0.mk (Kd.R_elder' (kdQ HO1252) (Kd.R_base ho0) hb); replace BK1246 := bb BK1246 hb; replace BK1247 := bb BK1247 hb; replace HB := Aside0.mk (below_step (beQ HB) hb)
   (try clear hb)
   (try clear hb2)
   (try clear hk)
   (try clear hi)
   (try clear hgw_)
   (try clear ho0)
   obtain ⟨Ao20, co20, eo20⟩ := Kd.R_slice HO1256.out
   (first | subst eo20 | (injection eo20 with f1_ f2_ f3_; have f4_ := f1_.symm; have f5_ := f3_.symm; clear f1_ f2_ f3_; subst f4_; subst f5_))
   refine hK.out _ _ ⟨bc BK1246 0, bc BK1246 1⟩ (fun hHeld => ?_)
   clear hK K
   refine norm_ (a' := ?_) ?_ ?_
   rotate_left
   ·show Act.put _ (some 19) _ = _
    simp only [Act.put, s1, s2, s3, i64_w, i32_w]
    rfl
   refine one_ (i := 4) (N := none) #[true, true, true, true, true, false] rfl rfl (by kernel_rfl) (by decide) (fun K hK => ?_)
   have hs19 : w18.cell? ⟨gb1247, 0, none⟩ = some (.int .i64 0) := bc BK1247 0
   have hfs19 := blk_frozen BK1247.out 0; have hns19_0 := NB1246_1247.out; have hms19_0 := NB1247_1246.out
   have hs21 : w18.cell? ⟨gb1247, 1, none⟩ = some (.slice none 0 0) := bc BK1247 1
   have hfs21 := blk_frozen BK1247.out 1; have hns21_0 := NB1246_1247.out; have hms21_0 := NB1247_1246.out
   refine skip_ (w1 := ?_) (by rfl) rfl ?_ ?_
   rotate_left
   ·go_simp
    rfl
   refine hK.out _ _ ⟨((cell_far (p := ⟨gb1247, _, none⟩) NB1246_1247.out _).trans (((cell_far (p := ⟨gb1247, _, none⟩) NB1246_1247.out _).trans (hHeld.1)))), ((cell_far (p := ⟨gb1247, _, none⟩) NB1246_1247.out _).trans (((cell_far (p := ⟨gb1247, _, none⟩) NB1246_1247.out _).trans (hHeld.2))))⟩ (fun hHeld => ?_)
   clear hK K
   refine pure_ (i := 5) (N := some 5) (v := ?_) (a' := ?_) #[true, true, true, true, true, true] rfl rfl (by kernel_rfl) (fun _ _ _ h => h) (Or.inl ⟨by rfl, ?_⟩) ?_ ?_
   rotate_left
   ·intro w'
    go_simp
    with_reducible rfl
   rotate_left
   ·simp only [Act.put, s1, s2, s3, i64_w, i32_w]
    rfl
   refine done_ (by kernel_rfl) ?_
   try go_wp2
   refine bodyPost_ret (results_ct rfl _ _ gb1247 26 #[.int .i64 t1253, .slice Ao20 t1254.length co20] (0, 0) _ rfl (by (with_reducible repeat (first | refine blk_drewN ?_ _ | refine blk_drew ?_ | refine blk_alloc ?_ _)); refine blk_put (cs := #[.int .i64 t1253, .slice none 0 0]) ?_ 1 _ rfl; (with_reducible repeat (first | refine blk_drewN ?_ _ | refine blk_drew ?_ | refine blk_alloc ?_ _)); refine blk_put (cs := #[.int .i64 0, .slice none 0 0]) ?_ 0 _ rfl; (with_reducible repeat (first | refine blk_drewN ?_ _ | refine blk_drew ?_ | refine blk_alloc ?_ _)); exact BK1247.out) Tryd.underlying26 rfl (by kernel_rfl)) rfl ?_
   exact ⟨_, rz, by (with_reducible repeat (first | apply Kd.R_alloc | apply Kd.R_drewN | apply Kd.R_drew)); exact Kd.R_mono (Kd.R_far (p := ⟨gb1247, 1, none⟩) (Kd.R_far (p := ⟨gb1247, 0, none⟩) (Kd.R_types HO1256.out BK1247.out (by decide)) (fun _ hk => hk.2) (.int .i64 t1253)) (fun _ hk => hk.2) (.slice Ao20 t1254.length co20)) (fun _ hk => trivial), beQ HB⟩
  ·replace c6 := Bool.eq_false_iff.mpr c6
   subst c6
   have H1 : (some (0, ([] : List Int), 2)) = some (r1, r2, r3) := by rw [if_neg (show ¬ (false = true) by decide)] at H; exact H
   clear H; have H := H1; clear H1
   simp only [Option.some.injEq, Prod.mk.injEq] at H
   obtain ⟨rfl, rfl, rfl⟩ := H
   go_enter Tryd.func46, Tryd.ntmps46
   go_wp2_with (first | ((with_reducible refine gate_dst (N := 2) rfl ?_); refine box_event ?hg (N := 2) ?hd (cs := #[.int .i64 a0_0, .slice A0_1 l0_1.length c0_1]) (t := 26) ?hr ?_; (case hd => rfl); (case hg => rfl); (case hr => first | (go_simp; done) | (go_simp; rfl)); intro gb1246 hg w22 hbox hb; have BK1246 := Aside0.mk (hbox); have GW1246 := Aside0.mk ((by rw [hg]; exact (below_size (beQ HB)) : w.heap.size ≤ gb1246)); have GE1246 := Aside0.mk ((by rw [hg]; exact (below_size (beQ HB)) : w.heap.size ≤ gb1246)); replace HB := Aside0.mk (below_step (beQ HB) hb); clear hb hbox hg) | ((with_reducible refine gate_dst (N := 4) rfl ?_); refine box_event ?hg (N := 4) ?hd (cs := #[.int .i64 0, .slice none 0 0]) (t := 26) ?hr ?_; (case hd => rfl); (case hg => rfl); (case hr => first | (go_simp; done) | (go_simp; rfl)); intro gb1247 hg w23 hbox hb; have BK1247 := Aside0.mk (hbox); have GW1247 := Aside0.mk ((by rw [hg]; exact (below_size (beQ HB)) : w.heap.size ≤ gb1247)); have GE1247 := Aside0.mk ((by rw [hg]; exact (below_size (beQ HB)) : w.heap.size ≤ gb1247)); replace HB := Aside0.mk (below_step (beQ HB) hb); have NB1246_1247 := Aside0.mk ((by rw [hg]; exact Nat.ne_of_lt (blk_lt (blkQ BK1246)) : gb1246 ≠ gb1247)); have NB1247_1246 := Aside0.mk ((by rw [hg]; exact Nat.ne_of_gt (blk_lt (blkQ BK1246)) : gb1247 ≠ gb1246)); replace BK1246 := bb BK1246 hb; clear hb hbox hg; have hnb24 := NB1246_1247.out; have hnc24 := NB1247_1246.out; have hcz25_0 : w23.cell? ⟨gb1246, 0, none⟩ = some (.int .i64 a0_0) := bc BK1246 0; have hcz25_1 : w23.cell? ⟨gb1246, 1, none⟩ = some (.slice A0_1 l0_1.length c0_1) := bc BK1246 1; have hfz25_0 := blk_frozen BK1246.out 0; have hfz25_1 := blk_frozen BK1246.out 1) | ((with_reducible refine gate_callee (f := 62) rfl ?_); refine goesL_ (some 7) rfl rfl Tryd.func62 (by kernel_rfl) rfl #[.agg #[.int .i64 a0_0, .slice A0_1 l0_1.length c0_1]] rfl lz ?_; (with_reducible refine (impl_IsAlphabet.calls k a0_0 _ _ l0_1 true _ ?side1 ?side2 ?side3 A3.out).mono ?_); (case side1 => have q_ := Aside0.mk (Kd.C_below HR0_1.out HB.out); exact cQ q_); (case side2 => exact HC0_1.out); (case side3 => exact TabW.below HT.out (beQ HB)); rintro e w26 ⟨rfl, hb⟩; refine ⟨_, rfl, ?_⟩; replace BK1246 := bb BK1246 hb; replace BK1247 := bb BK1247 hb; replace HB := Aside0.mk (below_step (beQ HB) hb); (try clear hb); (try clear hb2); (try clear hk); (try clear hi); (try clear hgw_); have hcz27_0 : w26.cell? ⟨gb1246, 0, none⟩ = some (.int .i64 a0_0) := bc BK1246 0; have hcz27_1 : w26.cell? ⟨gb1246, 1, none⟩ = some (.slice A0_1 l0_1.length c0_1) := bc BK1246 1; have hfz27_0 := blk_frozen BK1246.out 0; have hfz27_1 := blk_frozen BK1246.out 1) | ((with_reducible refine gate_callee (f := 89) rfl ?_); refine goesL_ (some 13) rfl rfl Tryd.func89 (by kernel_rfl) rfl #[.int .i64 a1, .int .i64 a0_0] rfl lz ?_; (with_reducible refine (impl_IsMask.calls a1 a0_0 false _ A5.out).mono ?_); rintro e w' ⟨rfl, ⟨nd, rfl⟩⟩; refine ⟨_, rfl, ?_⟩; (try (rw [drewN_self w26]; generalize hq_ : World.drewN w26 _ = w26; have n0_ : Aside0 (w26.heap[gb1246]? = some (.cells #[.int .i64 a0_0, .slice A0_1 l0_1.length c0_1] 26 (0, 0))) := ⟨by rw [← hq_]; exact (blkQ BK1246)⟩; have n1_ : Aside0 (w26.heap[gb1247]? = some (.cells #[.int .i64 0, .slice none 0 0] 26 (0, 0))) := ⟨by rw [← hq_]; exact (blkQ BK1247)⟩; have n2_ : Aside0 (Below w.heap.size w w26) := ⟨by rw [← hq_]; exact (beQ HB)⟩; clear BK1246 BK1247 HB hq_; have BK1246 := n0_; have BK1247 := n1_; have HB := n2_; clear n0_ n1_ n2_)); have hcz28_0 : w26.cell? ⟨gb1247, 0, none⟩ = some (.int .i64 0) := bc BK1247 0; have hcz28_1 : w26.cell? ⟨gb1247, 1, none⟩ = some (.slice none 0 0) := bc BK1247 1; have hfz28_0 := blk_frozen BK1247.out 0; have hfz28_1 := blk_frozen BK1247.out 1))
   refine bodyPost_ret (results_ct rfl _ _ gb1247 26 #[.int .i64 0, .slice none 0 0] (0, 0) _ rfl (by (with_reducible repeat (first | refine blk_drewN ?_ _ | refine blk_drew ?_ | refine blk_alloc ?_ _)); refine blk_put (cs := #[.int .i64 0, .slice none 0 0]) ?_ 1 _ rfl; (with_reducible repeat (first | refine blk_drewN ?_ _ | refine blk_drew ?_ | refine blk_alloc ?_ _)); refine blk_put (cs := #[.int .i64 0, .slice none 0 0]) ?_ 0 _ rfl; (with_reducible repeat (first | refine blk_drewN ?_ _ | refine blk_drew ?_ | refine blk_alloc ?_ _)); exact BK1247.out) Tryd.underlying26 rfl (by kernel_rfl)) rfl ?_
   exact ⟨_, rz, by first | exact Kd.R_nil _ _ _ _ _ | exact Kd.N_nil _ _ _ _ _ | exact Kd.V_nil _ _ _ _ _ | exact Kd.Q_nil _ _ _ _ _ | exact Kd.S_nil _ _ _ _ _, beQ HB⟩
 ·replace c4 := Bool.eq_false_iff.mpr c4
  subst c4
  have H1 : (some (0, ([] : List Int), 1)) = some (r1, r2, r3) := by rw [if_neg (show ¬ (false = true) by decide)] at H; exact H
  clear H; have H := H1; clear H1
  simp only [Option.some.injEq, Prod.mk.injEq] at H
  obtain ⟨rfl, rfl, rfl⟩ := H
  go_enter Tryd.func46, Tryd.ntmps46
  go_wp2_with (first | ((with_reducible refine gate_dst (N := 2) rfl ?_); refine box_event ?hg (N := 2) ?hd (cs := #[.int .i64 a0_0, .slice A0_1 l0_1.length c0_1]) (t := 26) ?hr ?_; (case hd => rfl); (case hg => rfl); (case hr => first | (go_simp; done) | (go_simp; rfl)); intro gb1246 hg w29 hbox hb; have BK1246 := Aside0.mk (hbox); have GW1246 := Aside0.mk ((by rw [hg]; exact (below_size (beQ HB)) : w.heap.size ≤ gb1246)); have GE1246 := Aside0.mk ((by rw [hg]; exact (below_size (beQ HB)) : w.heap.size ≤ gb1246)); replace HB := Aside0.mk (below_step (beQ HB) hb); clear hb hbox hg) | ((with_reducible refine gate_dst (N := 4) rfl ?_); refine box_event ?hg (N := 4) ?hd (cs := #[.int .i64 0, .slice none 0 0]) (t := 26) ?hr ?_; (case hd => rfl); (case hg => rfl); (case hr => first | (go_simp; done) | (go_simp; rfl)); intro gb1247 hg w30 hbox hb; have BK1247 := Aside0.mk (hbox); have GW1247 := Aside0.mk ((by rw [hg]; exact (below_size (beQ HB)) : w.heap.size ≤ gb1247)); have GE1247 := Aside0.mk ((by rw [hg]; exact (below_size (beQ HB)) : w.heap.size ≤ gb1247)); replace HB := Aside0.mk (below_step (beQ HB) hb); have NB1246_1247 := Aside0.mk ((by rw [hg]; exact Nat.ne_of_lt (blk_lt (blkQ BK1246)) : gb1246 ≠ gb1247)); have NB1247_1246 := Aside0.mk ((by rw [hg]; exact Nat.ne_of_gt (blk_lt (blkQ BK1246)) : gb1247 ≠ gb1246)); replace BK1246 := bb BK1246 hb; clear hb hbox hg; have hnb31 := NB1246_1247.out; have hnc31 := NB1247_1246.out; have hcz32_0 : w30.cell? ⟨gb1246, 0, none⟩ = some (.int .i64 a0_0) := bc BK1246 0; have hcz32_1 : w30.cell? ⟨gb1246, 1, none⟩ = some (.slice A0_1 l0_1.length c0_1) := bc BK1246 1; have hfz32_0 := blk_frozen BK1246.out 0; have hfz32_1 := blk_frozen BK1246.out 1) | ((with_reducible refine gate_callee (f := 62) rfl ?_); refine goesL_ (some 7) rfl rfl Tryd.func62 (by kernel_rfl) rfl #[.agg #[.int .i64 a0_0, .slice A0_1 l0_1.length c0_1]] rfl lz ?_; (with_reducible refine (impl_IsAlphabet.calls k a0_0 _ _ l0_1 false _ ?side1 ?side2 ?side3 A3.out).mono ?_); (case side1 => have q_ := Aside0.mk (Kd.C_below HR0_1.out HB.out); exact cQ q_); (case side2 => exact HC0_1.out); (case side3 => exact TabW.below HT.out (beQ HB)); rintro e w33 ⟨rfl, hb⟩; refine ⟨_, rfl, ?_⟩; replace BK1246 := bb BK1246 hb; replace BK1247 := bb BK1247 hb; replace HB := Aside0.mk (below_step (beQ HB) hb); (try clear hb); (try clear hb2); (try clear hk); (try clear hi); (try clear hgw_); have hcz34_0 : w33.cell? ⟨gb1247, 0, none⟩ = some (.int .i64 0) := bc BK1247 0; have hcz34_1 : w33.cell? ⟨gb1247, 1, none⟩ = some (.slice none 0 0) := bc BK1247 1; have hfz34_0 := blk_frozen BK1247.out 0; have hfz34_1 := blk_frozen BK1247.out 1))
  refine bodyPost_ret (results_ct rfl _ _ gb1247 26 #[.int .i64 0, .slice none 0 0] (0, 0) _ rfl (by (with_reducible repeat (first | refine blk_drewN ?_ _ | refine blk_drew ?_ | refine blk_alloc ?_ _)); refine blk_put (cs := #[.int .i64 0, .slice none 0 0]) ?_ 1 _ rfl; (with_reducible repeat (first | refine blk_drewN ?_ _ | refine blk_drew ?_ | refine blk_alloc ?_ _)); refine blk_put (cs := #[.int .i64 0, .slice none 0 0]) ?_ 0 _ rfl; (with_reducible repeat (first | refine blk_drewN ?_ _ | refine blk_drew ?_ | refine blk_alloc ?_ _)); exact BK1247.out) Tryd.underlying26 rfl (by kernel_rfl)) rfl ?_
  exact ⟨_, rz, by first | exact Kd.R_nil _ _ _ _ _ | exact Kd.N_nil _ _ _ _ _ | exact Kd.V_nil _ _ _ _ _ | exact Kd.Q_nil _ _ _ _ _ | exact Kd.S_nil _ _ _ _ _, beQ HB⟩
end Go.Proofs.YtleeihpmniabhaaDoor.G
