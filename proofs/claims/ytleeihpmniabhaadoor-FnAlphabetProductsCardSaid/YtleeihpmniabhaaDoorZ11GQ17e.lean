-- A copy, with what one law needs, of a text that print.sh or a program of ours wrote
import Derived.Test.YtleeihpmniabhaaDoorZ11G0
import Derived.Test.YtleeihpmniabhaaDoorZ11GQ00d
import Derived.Test.YtleeihpmniabhaaDoorZ11GQ01b
import Derived.Test.YtleeihpmniabhaaDoorZ11GQ01c
import Derived.Test.YtleeihpmniabhaaDoorZ11GQ17b
import Derived.Test.YtleeihpmniabhaaDoorZ11GQ17d
import Derived.Test.YtleeihpmniabhaaDoorZ11GQ18a
namespace Go.Proofs.YtleeihpmniabhaaDoor.G
open Go.RowKit Go.Proofs.YtleeihpmniabhaaDoorW.PrintWords Go.Proofs.YtleeihpmniabhaaDoorW.PrintLast Go.Proofs.YtleeihpmniabhaaDoorW.PrintMore
attribute [local go_sem] max2_int min2_int max_two min_two max_three min_three max_four min_four   -- for this text's walks alone
set_option linter.unusedVariables false
set_option linter.unusedSimpArgs false
def spec_DirectProduct.f (k : Nat) (a0_0 : Int) (l0_1 : List Int) (a1_0 : Int) (l1_1 : List Int) : Option (Int × List Int × Int) := (spec_l02Beside.f k a0_0 l0_1 a1_0 l1_1 false).bind fun bt1194 => (some (bt1194.1, bt1194.2.1, bt1194.2.2))
set_option maxHeartbeats 8000000 in
set_option maxRecDepth 100000 in
theorem spec_DirectProduct.calls (k : Nat) (a0_0 : Int) (A0_1 : Option Addr) (c0_1 : Nat) (l0_1 : List Int) (a1_0 : Int) (A1_1 : Option Addr) (c1_1 : Nat) (l1_1 : List Int) (r1 : Int) (r2 : List Int) (r3 : Int) (w : World) (hr0_1 : Kd.C (Kd.int .i64) w A0_1 l0_1.length l0_1) (hc0_1 : l0_1.length ≤ c0_1) (hr1_1 : Kd.C (Kd.int .i64) w A1_1 l1_1.length l1_1) (hc1_1 : l1_1.length ≤ c1_1) (h : spec_DirectProduct.f k a0_0 l0_1 a1_0 l1_1 = some (r1, r2, r3)) :
  Calls Tryd.prog 42 #[.agg #[.int .i64 a0_0, .slice A0_1 l0_1.length c0_1], .agg #[.int .i64 a1_0, .slice A1_1 l1_1.length c1_1]] w fun e w' => ∃ v1_ : Value, e = .returned (.tuple #[.agg #[.int .i64 r1, v1_], .int .i64 r3]) ∧ Kd.R (Kd.int .i64) 2 w' w.heap.size (fun _ => True) v1_ r2 ∧ Below w.heap.size w w' := by
 have hu26 := Tryd.underlying26; have HR0_1 := Aside0.mk hr0_1; have HC0_1 := Aside0.mk hc0_1; clear hr0_1 hc0_1; have HR1_1 := Aside0.mk hr1_1; have HC1_1 := Aside0.mk hc1_1; clear hr1_1 hc1_1; have HB := Aside0.mk (Below.refl w.heap.size w)
 have H : ((spec_l02Beside.f k a0_0 l0_1 a1_0 l1_1 false).bind fun bt1194 => (some (bt1194.1, bt1194.2.1, bt1194.2.2))) = some (r1, r2, r3) := h
 clear h; replace H := Option.bind_eq_some_iff.mp H
 obtain ⟨⟨t1194, t1195, t1198⟩, A30, H⟩ := H
 replace H : (some (t1194, t1195, t1198)) = some (r1, r2, r3) := H
 have A3 := Aside0.mk A30; clear A30
 simp only [Option.some.injEq, Prod.mk.injEq] at H
 obtain ⟨rfl, rfl, rfl⟩ := H
 go_enter Tryd.func42, Tryd.ntmps42
 go_wp2_with (first | ((with_reducible refine gate_dst (N := 2) rfl ?_); refine box_event ?hg (N := 2) ?hd (cs := #[.int .i64 a0_0, .slice A0_1 l0_1.length c0_1]) (t := 26) ?hr ?_; (case hd => rfl); (case hg => rfl); (case hr => first | (go_simp; done) | (go_simp; rfl)); intro gb1191 hg w4 hbox hb; have BK1191 := Aside0.mk (hbox); have GW1191 := Aside0.mk ((by rw [hg]; exact (below_size (beQ HB)) : w.heap.size ≤ gb1191)); have GE1191 := Aside0.mk ((by rw [hg]; exact (below_size (beQ HB)) : w.heap.size ≤ gb1191)); replace HB := Aside0.mk (below_step (beQ HB) hb); clear hb hbox hg) | ((with_reducible refine gate_dst (N := 3) rfl ?_); refine box_event ?hg (N := 3) ?hd (cs := #[.int .i64 a1_0, .slice A1_1 l1_1.length c1_1]) (t := 26) ?hr ?_; (case hd => rfl); (case hg => rfl); (case hr => first | (go_simp; done) | (go_simp; rfl)); intro gb1192 hg w5 hbox hb; have BK1192 := Aside0.mk (hbox); have GW1192 := Aside0.mk ((by rw [hg]; exact (below_size (beQ HB)) : w.heap.size ≤ gb1192)); have GE1192 := Aside0.mk ((by rw [hg]; exact (below_size (beQ HB)) : w.heap.size ≤ gb1192)); replace HB := Aside0.mk (below_step (beQ HB) hb); have NB1191_1192 := Aside0.mk ((by rw [hg]; exact Nat.ne_of_lt (blk_lt (blkQ BK1191)) : gb1191 ≠ gb1192)); have NB1192_1191 := Aside0.mk ((by rw [hg]; exact Nat.ne_of_gt (blk_lt (blkQ BK1191)) : gb1192 ≠ gb1191)); replace BK1191 := bb BK1191 hb; clear hb hbox hg) | ((with_reducible refine gate_dst (N := 4) rfl ?_); refine box_event ?hg (N := 4) ?hd (cs := #[.int .i64 0, .slice none 0 0]) (t := 26) ?hr ?_; (case hd => rfl); (case hg => rfl); (case hr => first | (go_simp; done) | (go_simp; rfl)); intro gb1193 hg w6 hbox hb; have BK1193 := Aside0.mk (hbox); have GW1193 := Aside0.mk ((by rw [hg]; exact (below_size (beQ HB)) : w.heap.size ≤ gb1193)); have GE1193 := Aside0.mk ((by rw [hg]; exact (below_size (beQ HB)) : w.heap.size ≤ gb1193)); replace HB := Aside0.mk (below_step (beQ HB) hb); have NB1191_1193 := Aside0.mk ((by rw [hg]; exact Nat.ne_of_lt (blk_lt (blkQ BK1191)) : gb1191 ≠ gb1193)); have NB1193_1191 := Aside0.mk ((by rw [hg]; exact Nat.ne_of_gt (blk_lt (blkQ BK1191)) : gb1193 ≠ gb1191)); replace BK1191 := bb BK1191 hb; have NB1192_1193 := Aside0.mk ((by rw [hg]; exact Nat.ne_of_lt (blk_lt (blkQ BK1192)) : gb1192 ≠ gb1193)); have NB1193_1192 := Aside0.mk ((by rw [hg]; exact Nat.ne_of_gt (blk_lt (blkQ BK1192)) : gb1193 ≠ gb1192)); replace BK1192 := bb BK1192 hb; clear hb hbox hg; have hnb7 := NB1191_1192.out; have hnc7 := NB1192_1191.out; have hnb8 := NB1191_1193.out; have hnc8 := NB1193_1191.out; have hcz9_0 : w6.cell? ⟨gb1191, 0, none⟩ = some (.int .i64 a0_0) := bc BK1191 0; have hcz9_1 : w6.cell? ⟨gb1191, 1, none⟩ = some (.slice A0_1 l0_1.length c0_1) := bc BK1191 1; have hfz9_0 := blk_frozen BK1191.out 0; have hfz9_1 := blk_frozen BK1191.out 1; have hnb10 := NB1192_1193.out; have hnc10 := NB1193_1192.out; have hcz11_0 : w6.cell? ⟨gb1192, 0, none⟩ = some (.int .i64 a1_0) := bc BK1192 0; have hcz11_1 : w6.cell? ⟨gb1192, 1, none⟩ = some (.slice A1_1 l1_1.length c1_1) := bc BK1192 1; have hfz11_0 := blk_frozen BK1192.out 0; have hfz11_1 := blk_frozen BK1192.out 1) | ((with_reducible refine gate_callee (f := 101) rfl ?_); refine goesL_ (some 8) rfl rfl Tryd.func101 (by kernel_rfl) rfl #[.agg #[.int .i64 a0_0, .slice A0_1 l0_1.length c0_1], .agg #[.int .i64 a1_0, .slice A1_1 l1_1.length c1_1], .bool false] rfl lz ?_; (with_reducible refine (spec_l02Beside.calls k a0_0 _ _ l0_1 a1_0 _ _ l1_1 false t1194 t1195 t1198 _ ?side1 ?side2 ?side3 ?side4 A3.out).mono ?_); (case side1 => have q_ := Aside0.mk (Kd.C_below HR0_1.out HB.out); exact cQ q_); (case side2 => exact HC0_1.out); (case side3 => have q_ := Aside0.mk (Kd.C_below HR1_1.out HB.out); exact cQ q_); (case side4 => exact HC1_1.out); rintro e w12 ⟨v1196, rfl, ho0, hb⟩; refine ⟨_, rfl, ?_⟩; have HO1197 := Aside0.mk (Kd.R_lower ho0 (below_size (beQ HB))); replace BK1191 := bb BK1191 hb; replace BK1192 := bb BK1192 hb; replace BK1193 := bb BK1193 hb; replace HB := Aside0.mk (below_step (beQ HB) hb); (try clear hb); (try clear hb2); (try clear hk); (try clear hi); (try clear hgw_); (try clear ho0); have hcz13_0 : w12.cell? ⟨gb1193, 0, none⟩ = some (.int .i64 0) := bc BK1193 0; have hcz13_1 : w12.cell? ⟨gb1193, 1, none⟩ = some (.slice none 0 0) := bc BK1193 1; have hfz13_0 := blk_frozen BK1193.out 0; have hfz13_1 := blk_frozen BK1193.out 1; obtain ⟨Ao14, co14, eo14⟩ := Kd.R_slice HO1197.out; subst eo14))
 refine bodyPost_ret (results_ct rfl _ _ gb1193 26 #[.int .i64 t1194, .slice Ao14 t1195.length co14] (0, 0) _ rfl (by (with_reducible repeat (first | refine blk_drewN ?_ _ | refine blk_drew ?_ | refine blk_alloc ?_ _)); refine blk_put (cs := #[.int .i64 t1194, .slice none 0 0]) ?_ 1 _ rfl; (with_reducible repeat (first | refine blk_drewN ?_ _ | refine blk_drew ?_ | refine blk_alloc ?_ _)); refine blk_put (cs := #[.int .i64 0, .slice none 0 0]) ?_ 0 _ rfl; (with_reducible repeat (first | refine blk_drewN ?_ _ | refine blk_drew ?_ | refine blk_alloc ?_ _)); exact BK1193.out) Tryd.underlying26 rfl (by kernel_rfl)) rfl ?_
 exact ⟨_, rz, by (with_reducible repeat (first | apply Kd.R_alloc | apply Kd.R_drewN | apply Kd.R_drew)); exact Kd.R_mono (Kd.R_far (p := ⟨gb1193, 1, none⟩) (Kd.R_far (p := ⟨gb1193, 0, none⟩) (Kd.R_types HO1197.out BK1193.out (by decide)) (fun _ hk => hk.2) (.int .i64 t1194)) (fun _ hk => hk.2) (.slice Ao14 t1195.length co14)) (fun _ hk => trivial), beQ HB⟩
def laws_likeAlphabet5.f (k : Nat) (a0_0 : Int) (l0_1 : List Int) (a1_0 : Int) (l1_1 : List Int) : Option (Bool) := if a0_0 = a1_0 then ((laws_likeInts.f k l0_1 l1_1).bind fun t1201 => (some t1201)) else (some false)
set_option maxHeartbeats 8000000 in
set_option maxRecDepth 100000 in
theorem laws_likeAlphabet5.calls (k : Nat) (a0_0 : Int) (A0_1 : Option Addr) (c0_1 : Nat) (l0_1 : List Int) (a1_0 : Int) (A1_1 : Option Addr) (c1_1 : Nat) (l1_1 : List Int) (r : Bool) (w : World) (hr0_1 : Kd.C (Kd.int .i64) w A0_1 l0_1.length l0_1) (hc0_1 : l0_1.length ≤ c0_1) (hr1_1 : Kd.C (Kd.int .i64) w A1_1 l1_1.length l1_1) (hc1_1 : l1_1.length ≤ c1_1) (h : laws_likeAlphabet5.f k a0_0 l0_1 a1_0 l1_1 = some r) :
  Calls Tryd.prog 43 #[.agg #[.int .i64 a0_0, .slice A0_1 l0_1.length c0_1], .agg #[.int .i64 a1_0, .slice A1_1 l1_1.length c1_1]] w fun e w' => e = .returned (.bool r) ∧ Below w.heap.size w w' := by
 have hu26 := Tryd.underlying26; have HR0_1 := Aside0.mk hr0_1; have HC0_1 := Aside0.mk hc0_1; clear hr0_1 hc0_1; have HR1_1 := Aside0.mk hr1_1; have HC1_1 := Aside0.mk hc1_1; clear hr1_1 hc1_1; have HB := Aside0.mk (Below.refl w.heap.size w)
 have H : (if a0_0 = a1_0 then ((laws_likeInts.f k l0_1 l1_1).bind fun t1201 => (some t1201)) else (some false)) = some r := h
 clear h
 by_cases c3 : a0_0 = a1_0
 ·rw [if_pos c3] at H
  have c3b0 : (a0_0 == a1_0) = true := beq_iff_eq.mpr c3
  have c3b1 : (a0_0 != a1_0) = false := bne_eq_false_iff_eq.mpr c3
  clear c3; replace H := Option.bind_eq_some_iff.mp H; obtain ⟨t1201, A40, H⟩ := H
  replace H : (some t1201) = some r := H
  have A4 := Aside0.mk A40; clear A40
  obtain rfl := Option.some.inj H
  go_enter Tryd.func43, Tryd.ntmps43
  go_wp2_with (first | ((with_reducible refine gate_dst (N := 2) rfl ?_); refine box_event ?hg (N := 2) ?hd (cs := #[.int .i64 a0_0, .slice A0_1 l0_1.length c0_1]) (t := 26) ?hr ?_; (case hd => rfl); (case hg => rfl); (case hr => first | (go_simp; done) | (go_simp; rfl)); intro gb1199 hg w5 hbox hb; have BK1199 := Aside0.mk (hbox); have GW1199 := Aside0.mk ((by rw [hg]; exact (below_size (beQ HB)) : w.heap.size ≤ gb1199)); have GE1199 := Aside0.mk ((by rw [hg]; exact (below_size (beQ HB)) : w.heap.size ≤ gb1199)); replace HB := Aside0.mk (below_step (beQ HB) hb); clear hb hbox hg) | ((with_reducible refine gate_dst (N := 3) rfl ?_); refine box_event ?hg (N := 3) ?hd (cs := #[.int .i64 a1_0, .slice A1_1 l1_1.length c1_1]) (t := 26) ?hr ?_; (case hd => rfl); (case hg => rfl); (case hr => first | (go_simp; done) | (go_simp; rfl)); intro gb1200 hg w6 hbox hb; have BK1200 := Aside0.mk (hbox); have GW1200 := Aside0.mk ((by rw [hg]; exact (below_size (beQ HB)) : w.heap.size ≤ gb1200)); have GE1200 := Aside0.mk ((by rw [hg]; exact (below_size (beQ HB)) : w.heap.size ≤ gb1200)); replace HB := Aside0.mk (below_step (beQ HB) hb); have NB1199_1200 := Aside0.mk ((by rw [hg]; exact Nat.ne_of_lt (blk_lt (blkQ BK1199)) : gb1199 ≠ gb1200)); have NB1200_1199 := Aside0.mk ((by rw [hg]; exact Nat.ne_of_gt (blk_lt (blkQ BK1199)) : gb1200 ≠ gb1199)); replace BK1199 := bb BK1199 hb; clear hb hbox hg; have hnb7 := NB1199_1200.out; have hnc7 := NB1200_1199.out; have hcz8_0 : w6.cell? ⟨gb1199, 0, none⟩ = some (.int .i64 a0_0) := bc BK1199 0; have hcz8_1 : w6.cell? ⟨gb1199, 1, none⟩ = some (.slice A0_1 l0_1.length c0_1) := bc BK1199 1; have hfz8_0 := blk_frozen BK1199.out 0; have hfz8_1 := blk_frozen BK1199.out 1; have hcz9_0 : w6.cell? ⟨gb1200, 0, none⟩ = some (.int .i64 a1_0) := bc BK1200 0; have hcz9_1 : w6.cell? ⟨gb1200, 1, none⟩ = some (.slice A1_1 l1_1.length c1_1) := bc BK1200 1; have hfz9_0 := blk_frozen BK1200.out 0; have hfz9_1 := blk_frozen BK1200.out 1) | (go_at_call 13; (with_reducible refine (laws_likeInts.calls k _ _ l0_1 _ _ l1_1 t1201 _ ?side1 ?side2 ?side3 ?side4 A4.out).mono ?_); (case side1 => have q_ := Aside0.mk (Kd.C_below HR0_1.out HB.out); exact cQ q_); (case side2 => exact HC0_1.out); (case side3 => have q_ := Aside0.mk (Kd.C_below HR1_1.out HB.out); exact cQ q_); (case side4 => exact HC1_1.out); rintro e w' ⟨rfl, ⟨nd, rfl⟩⟩))
  go_ret
  exact ⟨rz, beQ HB⟩
 ·rw [if_neg c3] at H
  have c3b0 : (a0_0 == a1_0) = false := beq_eq_false_iff_ne.mpr c3
  have c3b1 : (a0_0 != a1_0) = true := bne_iff_ne.mpr c3
  obtain rfl := Option.some.inj H
  go_enter Tryd.func43, Tryd.ntmps43
  go_wp2_with (first | ((with_reducible refine gate_dst (N := 2) rfl ?_); refine box_event ?hg (N := 2) ?hd (cs := #[.int .i64 a0_0, .slice A0_1 l0_1.length c0_1]) (t := 26) ?hr ?_; (case hd => rfl); (case hg => rfl); (case hr => first | (go_simp; done) | (go_simp; rfl)); intro gb1199 hg w10 hbox hb; have BK1199 := Aside0.mk (hbox); have GW1199 := Aside0.mk ((by rw [hg]; exact (below_size (beQ HB)) : w.heap.size ≤ gb1199)); have GE1199 := Aside0.mk ((by rw [hg]; exact (below_size (beQ HB)) : w.heap.size ≤ gb1199)); replace HB := Aside0.mk (below_step (beQ HB) hb); clear hb hbox hg) | ((with_reducible refine gate_dst (N := 3) rfl ?_); refine box_event ?hg (N := 3) ?hd (cs := #[.int .i64 a1_0, .slice A1_1 l1_1.length c1_1]) (t := 26) ?hr ?_; (case hd => rfl); (case hg => rfl); (case hr => first | (go_simp; done) | (go_simp; rfl)); intro gb1200 hg w11 hbox hb; have BK1200 := Aside0.mk (hbox); have GW1200 := Aside0.mk ((by rw [hg]; exact (below_size (beQ HB)) : w.heap.size ≤ gb1200)); have GE1200 := Aside0.mk ((by rw [hg]; exact (below_size (beQ HB)) : w.heap.size ≤ gb1200)); replace HB := Aside0.mk (below_step (beQ HB) hb); have NB1199_1200 := Aside0.mk ((by rw [hg]; exact Nat.ne_of_lt (blk_lt (blkQ BK1199)) : gb1199 ≠ gb1200)); have NB1200_1199 := Aside0.mk ((by rw [hg]; exact Nat.ne_of_gt (blk_lt (blkQ BK1199)) : gb1200 ≠ gb1199)); replace BK1199 := bb BK1199 hb; clear hb hbox hg; have hnb12 := NB1199_1200.out; have hnc12 := NB1200_1199.out; have hcz13_0 : w11.cell? ⟨gb1199, 0, none⟩ = some (.int .i64 a0_0) := bc BK1199 0; have hcz13_1 : w11.cell? ⟨gb1199, 1, none⟩ = some (.slice A0_1 l0_1.length c0_1) := bc BK1199 1; have hfz13_0 := blk_frozen BK1199.out 0; have hfz13_1 := blk_frozen BK1199.out 1; have hcz14_0 : w11.cell? ⟨gb1200, 0, none⟩ = some (.int .i64 a1_0) := bc BK1200 0; have hcz14_1 : w11.cell? ⟨gb1200, 1, none⟩ = some (.slice A1_1 l1_1.length c1_1) := bc BK1200 1; have hfz14_0 := blk_frozen BK1200.out 0; have hfz14_1 := blk_frozen BK1200.out 1))
  go_ret
  exact ⟨rz, beQ HB⟩
def impl_FreeProduct.f (k : Nat) (a0_0 : Int) (l0_1 : List Int) (a1_0 : Int) (l1_1 : List Int) : Option (Int × List Int × Int) := (impl_product.f k a0_0 l0_1 a1_0 l1_1 true).bind fun bt1205 => (some (bt1205.1, bt1205.2.1, bt1205.2.2))
set_option maxHeartbeats 8000000 in
set_option maxRecDepth 100000 in
theorem impl_FreeProduct.calls (k : Nat) (a0_0 : Int) (A0_1 : Option Addr) (c0_1 : Nat) (l0_1 : List Int) (a1_0 : Int) (A1_1 : Option Addr) (c1_1 : Nat) (l1_1 : List Int) (r1 : Int) (r2 : List Int) (r3 : Int) (w : World) (hr0_1 : Kd.C (Kd.int .i64) w A0_1 l0_1.length l0_1) (hc0_1 : l0_1.length ≤ c0_1) (hr1_1 : Kd.C (Kd.int .i64) w A1_1 l1_1.length l1_1) (hc1_1 : l1_1.length ≤ c1_1) (hT : TabW w) (h : impl_FreeProduct.f k a0_0 l0_1 a1_0 l1_1 = some (r1, r2, r3)) :
  Calls Tryd.prog 44 #[.agg #[.int .i64 a0_0, .slice A0_1 l0_1.length c0_1], .agg #[.int .i64 a1_0, .slice A1_1 l1_1.length c1_1]] w fun e w' => ∃ v1_ : Value, e = .returned (.tuple #[.agg #[.int .i64 r1, v1_], .int .i64 r3]) ∧ Kd.R (Kd.int .i64) 2 w' w.heap.size (fun _ => True) v1_ r2 ∧ Below w.heap.size w w' := by
 have hu26 := Tryd.underlying26; have HT := Aside0.mk hT; clear hT; have HR0_1 := Aside0.mk hr0_1; have HC0_1 := Aside0.mk hc0_1; clear hr0_1 hc0_1; have HR1_1 := Aside0.mk hr1_1; have HC1_1 := Aside0.mk hc1_1; clear hr1_1 hc1_1; have HB := Aside0.mk (Below.refl w.heap.size w)
 have H : ((impl_product.f k a0_0 l0_1 a1_0 l1_1 true).bind fun bt1205 => (some (bt1205.1, bt1205.2.1, bt1205.2.2))) = some (r1, r2, r3) := h
 clear h; replace H := Option.bind_eq_some_iff.mp H
 obtain ⟨⟨t1205, t1206, t1209⟩, A30, H⟩ := H
 replace H : (some (t1205, t1206, t1209)) = some (r1, r2, r3) := H
 have A3 := Aside0.mk A30; clear A30
 simp only [Option.some.injEq, Prod.mk.injEq] at H
 obtain ⟨rfl, rfl, rfl⟩ := H
 go_enter Tryd.func44, Tryd.ntmps44
 go_wp2_with (first | ((with_reducible refine gate_dst (N := 2) rfl ?_); refine box_event ?hg (N := 2) ?hd (cs := #[.int .i64 a0_0, .slice A0_1 l0_1.length c0_1]) (t := 26) ?hr ?_; (case hd => rfl); (case hg => rfl); (case hr => first | (go_simp; done) | (go_simp; rfl)); intro gb1202 hg w4 hbox hb; have BK1202 := Aside0.mk (hbox); have GW1202 := Aside0.mk ((by rw [hg]; exact (below_size (beQ HB)) : w.heap.size ≤ gb1202)); have GE1202 := Aside0.mk ((by rw [hg]; exact (below_size (beQ HB)) : w.heap.size ≤ gb1202)); replace HB := Aside0.mk (below_step (beQ HB) hb); clear hb hbox hg) | ((with_reducible refine gate_dst (N := 3) rfl ?_); refine box_event ?hg (N := 3) ?hd (cs := #[.int .i64 a1_0, .slice A1_1 l1_1.length c1_1]) (t := 26) ?hr ?_; (case hd => rfl); (case hg => rfl); (case hr => first | (go_simp; done) | (go_simp; rfl)); intro gb1203 hg w5 hbox hb; have BK1203 := Aside0.mk (hbox); have GW1203 := Aside0.mk ((by rw [hg]; exact (below_size (beQ HB)) : w.heap.size ≤ gb1203)); have GE1203 := Aside0.mk ((by rw [hg]; exact (below_size (beQ HB)) : w.heap.size ≤ gb1203)); replace HB := Aside0.mk (below_step (beQ HB) hb); have NB1202_1203 := Aside0.mk ((by rw [hg]; exact Nat.ne_of_lt (blk_lt (blkQ BK1202)) : gb1202 ≠ gb1203)); have NB1203_1202 := Aside0.mk ((by rw [hg]; exact Nat.ne_of_gt (blk_lt (blkQ BK1202)) : gb1203 ≠ gb1202)); replace BK1202 := bb BK1202 hb; clear hb hbox hg) | ((with_reducible refine gate_dst (N := 4) rfl ?_); refine box_event ?hg (N := 4) ?hd (cs := #[.int .i64 0, .slice none 0 0]) (t := 26) ?hr ?_; (case hd => rfl); (case hg => rfl); (case hr => first | (go_simp; done) | (go_simp; rfl)); intro gb1204 hg w6 hbox hb; have BK1204 := Aside0.mk (hbox); have GW1204 := Aside0.mk ((by rw [hg]; exact (below_size (beQ HB)) : w.heap.size ≤ gb1204)); have GE1204 := Aside0.mk ((by rw [hg]; exact (below_size (beQ HB)) : w.heap.size ≤ gb1204)); replace HB := Aside0.mk (below_step (beQ HB) hb); have NB1202_1204 := Aside0.mk ((by rw [hg]; exact Nat.ne_of_lt (blk_lt (blkQ BK1202)) : gb1202 ≠ gb1204)); have NB1204_1202 := Aside0.mk ((by rw [hg]; exact Nat.ne_of_gt (blk_lt (blkQ BK1202)) : gb1204 ≠ gb1202)); replace BK1202 := bb BK1202 hb; have NB1203_1204 := Aside0.mk ((by rw [hg]; exact Nat.ne_of_lt (blk_lt (blkQ BK1203)) : gb1203 ≠ gb1204)); have NB1204_1203 := Aside0.mk ((by rw [hg]; exact Nat.ne_of_gt (blk_lt (blkQ BK1203)) : gb1204 ≠ gb1203)); replace BK1203 := bb BK1203 hb; clear hb hbox hg; have hnb7 := NB1202_1203.out; have hnc7 := NB1203_1202.out; have hnb8 := NB1202_1204.out; have hnc8 := NB1204_1202.out; have hcz9_0 : w6.cell? ⟨gb1202, 0, none⟩ = some (.int .i64 a0_0) := bc BK1202 0; have hcz9_1 : w6.cell? ⟨gb1202, 1, none⟩ = some (.slice A0_1 l0_1.length c0_1) := bc BK1202 1; have hfz9_0 := blk_frozen BK1202.out 0; have hfz9_1 := blk_frozen BK1202.out 1; have hnb10 := NB1203_1204.out; have hnc10 := NB1204_1203.out; have hcz11_0 : w6.cell? ⟨gb1203, 0, none⟩ = some (.int .i64 a1_0) := bc BK1203 0; have hcz11_1 : w6.cell? ⟨gb1203, 1, none⟩ = some (.slice A1_1 l1_1.length c1_1) := bc BK1203 1; have hfz11_0 := blk_frozen BK1203.out 0; have hfz11_1 := blk_frozen BK1203.out 1) | ((with_reducible refine gate_callee (f := 100) rfl ?_); refine goesL_ (some 8) rfl rfl Tryd.func100 (by kernel_rfl) rfl #[.agg #[.int .i64 a0_0, .slice A0_1 l0_1.length c0_1], .agg #[.int .i64 a1_0, .slice A1_1 l1_1.length c1_1], .bool true] rfl lz ?_; (with_reducible refine (impl_product.calls k a0_0 _ _ l0_1 a1_0 _ _ l1_1 true t1205 t1206 t1209 _ ?side1 ?side2 ?side3 ?side4 ?side5 A3.out).mono ?_); (case side1 => have q_ := Aside0.mk (Kd.C_below HR0_1.out HB.out); exact cQ q_); (case side2 => exact HC0_1.out); (case side3 => have q_ := Aside0.mk (Kd.C_below HR1_1.out HB.out); exact cQ q_); (case side4 => exact HC1_1.out); (case side5 => exact TabW.below HT.out (beQ HB)); rintro e w12 ⟨v1207, rfl, ho0, hb⟩; refine ⟨_, rfl, ?_⟩; have HO1208 := Aside0.mk (Kd.R_lower ho0 (below_size (beQ HB))); replace BK1202 := bb BK1202 hb; replace BK1203 := bb BK1203 hb; replace BK1204 := bb BK1204 hb; replace HB := Aside0.mk (below_step (beQ HB) hb); (try clear hb); (try clear hb2); (try clear hk); (try clear hi); (try clear hgw_); (try clear ho0); have hcz13_0 : w12.cell? ⟨gb1204, 0, none⟩ = some (.int .i64 0) := bc BK1204 0; have hcz13_1 : w12.cell? ⟨gb1204, 1, none⟩ = some (.slice none 0 0) := bc BK1204 1; have hfz13_0 := blk_frozen BK1204.out 0; have hfz13_1 := blk_frozen BK1204.out 1; obtain ⟨Ao14, co14, eo14⟩ := Kd.R_slice HO1208.out; subst eo14))
 refine bodyPost_ret (results_ct rfl _ _ gb1204 26 #[.int .i64 t1205, .slice Ao14 t1206.length co14] (0, 0) _ rfl (by (with_reducible repeat (first | refine blk_drewN ?_ _ | refine blk_drew ?_ | refine blk_alloc ?_ _)); refine blk_put (cs := #[.int .i64 t1205, .slice none 0 0]) ?_ 1 _ rfl; (with_reducible repeat (first | refine blk_drewN ?_ _ | refine blk_drew ?_ | refine blk_alloc ?_ _)); refine blk_put (cs := #[.int .i64 0, .slice none 0 0]) ?_ 0 _ rfl; (with_reducible repeat (first | refine blk_drewN ?_ _ | refine blk_drew ?_ | refine blk_alloc ?_ _)); exact BK1204.out) Tryd.underlying26 rfl (by kernel_rfl)) rfl ?_
 exact ⟨_, rz, by (with_reducible repeat (first | apply Kd.R_alloc | apply Kd.R_drewN | apply Kd.R_drew)); exact Kd.R_mono (Kd.R_far (p := ⟨gb1204, 1, none⟩) (Kd.R_far (p := ⟨gb1204, 0, none⟩) (Kd.R_types HO1208.out BK1204.out (by decide)) (fun _ hk => hk.2) (.int .i64 t1205)) (fun _ hk => hk.2) (.slice Ao14 t1206.length co14)) (fun _ hk => trivial), beQ HB⟩
def impl_ComplementOf.f (k : Nat) (a0_0 : Int) (l0_1 : List Int) : Option (Int × List Int × Int) := (impl_IsAlphabet.f k a0_0 l0_1).bind fun t1221 => (if t1221 = true then ((impl_complement.f k a0_0 l0_1).bind fun bt1222 => (some (bt1222.1, bt1222.2, 0))) else (some (0, ([] : List Int), 1)))
set_option maxHeartbeats 8000000 in
set_option maxRecDepth 100000 in
theorem impl_ComplementOf.calls (k : Nat) (a0_0 : Int) (A0_1 : Option Addr) (c0_1 : Nat) (l0_1 : List Int) (r1 : Int) (r2 : List Int) (r3 : Int) (w : World) (hr0_1 : Kd.C (Kd.int .i64) w A0_1 l0_1.length l0_1) (hc0_1 : l0_1.length ≤ c0_1) (hT : TabW w) (h : impl_ComplementOf.f k a0_0 l0_1 = some (r1, r2, r3)) :
  Calls Tryd.prog 45 #[.agg #[.int .i64 a0_0, .slice A0_1 l0_1.length c0_1]] w fun e w' => ∃ v1_ : Value, e = .returned (.tuple #[.agg #[.int .i64 r1, v1_], .int .i64 r3]) ∧ Kd.R (Kd.int .i64) 2 w' w.heap.size (fun _ => True) v1_ r2 ∧ Below w.heap.size w w' := by
 have hu26 := Tryd.underlying26; have HT := Aside0.mk hT; clear hT; have HR0_1 := Aside0.mk hr0_1; have HC0_1 := Aside0.mk hc0_1; clear hr0_1 hc0_1; have HB := Aside0.mk (Below.refl w.heap.size w)
 have H : ((impl_IsAlphabet.f k a0_0 l0_1).bind fun t1221 => (if t1221 = true then ((impl_complement.f k a0_0 l0_1).bind fun bt1222 => (some (bt1222.1, bt1222.2, 0))) else (some (0, ([] : List Int), 1)))) = some (r1, r2, r3) := h
 clear h; replace H := Option.bind_eq_some_iff.mp H; obtain ⟨t1221, A20, H⟩ := H
 replace H : (if t1221 = true then ((impl_complement.f k a0_0 l0_1).bind fun bt1222 => (some (bt1222.1, bt1222.2, 0))) else (some (0, ([] : List Int), 1))) = some (r1, r2, r3) := H
 have A2 := Aside0.mk A20; clear A20
 by_cases c3 : t1221 = true
 ·subst c3
  have H1 : ((impl_complement.f k a0_0 l0_1).bind fun bt1222 => (some (bt1222.1, bt1222.2, 0))) = some (r1, r2, r3) := by rw [if_pos rfl] at H; exact H
  clear H; have H := H1; clear H1; replace H := Option.bind_eq_some_iff.mp H
  obtain ⟨⟨t1222, t1223⟩, A40, H⟩ := H
  replace H : (some (t1222, t1223, 0)) = some (r1, r2, r3) := H
  have A4 := Aside0.mk A40; clear A40
  simp only [Option.some.injEq, Prod.mk.injEq] at H
  obtain ⟨rfl, rfl, rfl⟩ := H
  go_enter Tryd.func45, Tryd.ntmps45
  go_wp2_with (first | ((with_reducible refine gate_dst (N := 1) rfl ?_); refine box_event ?hg (N := 1) ?hd (cs := #[.int .i64 a0_0, .slice A0_1 l0_1.length c0_1]) (t := 26) ?hr ?_; (case hd => rfl); (case hg => rfl); (case hr => first | (go_simp; done) | (go_simp; rfl)); intro gb1219 hg w5 hbox hb; have BK1219 := Aside0.mk (hbox); have GW1219 := Aside0.mk ((by rw [hg]; exact (below_size (beQ HB)) : w.heap.size ≤ gb1219)); have GE1219 := Aside0.mk ((by rw [hg]; exact (below_size (beQ HB)) : w.heap.size ≤ gb1219)); replace HB := Aside0.mk (below_step (beQ HB) hb); clear hb hbox hg) | ((with_reducible refine gate_dst (N := 2) rfl ?_); refine box_event ?hg (N := 2) ?hd (cs := #[.int .i64 0, .slice none 0 0]) (t := 26) ?hr ?_; (case hd => rfl); (case hg => rfl); (case hr => first | (go_simp; done) | (go_simp; rfl)); intro gb1220 hg w6 hbox hb; have BK1220 := Aside0.mk (hbox); have GW1220 := Aside0.mk ((by rw [hg]; exact (below_size (beQ HB)) : w.heap.size ≤ gb1220)); have GE1220 := Aside0.mk ((by rw [hg]; exact (below_size (beQ HB)) : w.heap.size ≤ gb1220)); replace HB := Aside0.mk (below_step (beQ HB) hb); have NB1219_1220 := Aside0.mk ((by rw [hg]; exact Nat.ne_of_lt (blk_lt (blkQ BK1219)) : gb1219 ≠ gb1220)); have NB1220_1219 := Aside0.mk ((by rw [hg]; exact Nat.ne_of_gt (blk_lt (blkQ BK1219)) : gb1220 ≠ gb1219)); replace BK1219 := bb BK1219 hb; clear hb hbox hg; have hnb7 := NB1219_1220.out; have hnc7 := NB1220_1219.out; have hcz8_0 : w6.cell? ⟨gb1219, 0, none⟩ = some (.int .i64 a0_0) := bc BK1219 0; have hcz8_1 : w6.cell? ⟨gb1219, 1, none⟩ = some (.slice A0_1 l0_1.length c0_1) := bc BK1219 1; have hfz8_0 := blk_frozen BK1219.out 0; have hfz8_1 := blk_frozen BK1219.out 1) | ((with_reducible refine gate_callee (f := 62) rfl ?_); refine goesL_ (some 5) rfl rfl Tryd.func62 (by kernel_rfl) rfl #[.agg #[.int .i64 a0_0, .slice A0_1 l0_1.length c0_1]] rfl lz ?_; (with_reducible refine (impl_IsAlphabet.calls k a0_0 _ _ l0_1 true _ ?side1 ?side2 ?side3 A2.out).mono ?_); (case side1 => have q_ := Aside0.mk (Kd.C_below HR0_1.out HB.out); exact cQ q_); (case side2 => exact HC0_1.out); (case side3 => exact TabW.below HT.out (beQ HB)); rintro e w9 ⟨rfl, hb⟩; refine ⟨_, rfl, ?_⟩; replace BK1219 := bb BK1219 hb; replace BK1220 := bb BK1220 hb; replace HB := Aside0.mk (below_step (beQ HB) hb); (try clear hb); (try clear hb2); (try clear hk); (try clear hi); (try clear hgw_); have hcz10_0 : w9.cell? ⟨gb1219, 0, none⟩ = some (.int .i64 a0_0) := bc BK1219 0; have hcz10_1 : w9.cell? ⟨gb1219, 1, none⟩ = some (.slice A0_1 l0_1.length c0_1) := bc BK1219 1; have hfz10_0 := blk_frozen BK1219.out 0; have hfz10_1 := blk_frozen BK1219.out 1) | ((with_reducible refine gate_callee (f := 102) rfl ?_); refine goesL_ (some 9) rfl rfl Tryd.func102 (by kernel_rfl) rfl #[.agg #[.int .i64 a0_0, .slice A0_1 l0_1.length c0_1]] rfl lz ?_; (with_reducible refine (impl_complement.calls k a0_0 _ _ l0_1 t1222 t1223 _ ?side1 ?side2 A4.out).mono ?_); (case side1 => have q_ := Aside0.mk (Kd.C_below HR0_1.out HB.out); exact cQ q_); (case side2 => exact HC0_1.out); rintro e w11 ⟨v1224, rfl, ho0, hb⟩; refine ⟨_, rfl, ?_⟩; have HO1225 := Aside0.mk (Kd.R_lower ho0 (below_size (beQ HB))); replace BK1219 := bb BK1219 hb; replace BK1220 := bb BK1220 hb; replace HB := Aside0.mk (below_step (beQ HB) hb); (try clear hb); (try clear hb2); (try clear hk); (try clear hi); (try clear hgw_); (try clear ho0); have hcz12_0 : w11.cell? ⟨gb1220, 0, none⟩ = some (.int .i64 0) := bc BK1220 0; have hcz12_1 : w11.cell? ⟨gb1220, 1, none⟩ = some (.slice none 0 0) := bc BK1220 1; have hfz12_0 := blk_frozen BK1220.out 0; have hfz12_1 := blk_frozen BK1220.out 1; obtain ⟨Ao13, co13, eo13⟩ := Kd.R_slice HO1225.out; subst eo13))
  refine bodyPost_ret (results_ct rfl _ _ gb1220 26 #[.int .i64 t1222, .slice Ao13 t1223.length co13] (0, 0) _ rfl (by (with_reducible repeat (first | refine blk_drewN ?_ _ | refine blk_drew ?_ | refine blk_alloc ?_ _)); refine blk_put (cs := #[.int .i64 t1222, .slice none 0 0]) ?_ 1 _ rfl; (with_reducible repeat (first | refine blk_drewN ?_ _ | refine blk_drew ?_ | refine blk_alloc ?_ _)); refine blk_put (cs := #[.int .i64 0, .slice none 0 0]) ?_ 0 _ rfl; (with_reducible repeat (first | refine blk_drewN ?_ _ | refine blk_drew ?_ | refine blk_alloc ?_ _)); exact BK1220.out) Tryd.underlying26 rfl (by kernel_rfl)) rfl ?_
  exact ⟨_, rz, by (with_reducible repeat (first | apply Kd.R_alloc | apply Kd.R_drewN | apply Kd.R_drew)); exact Kd.R_mono (Kd.R_far (p := ⟨gb1220, 1, none⟩) (Kd.R_far (p := ⟨gb1220, 0, none⟩) (Kd.R_types HO1225.out BK1220.out (by decide)) (fun _ hk => hk.2) (.int .i64 t1222)) (fun _ hk => hk.2) (.slice Ao13 t1223.length co13)) (fun _ hk => trivial), beQ HB⟩
 ·replace c3 := Bool.eq_false_iff.mpr c3
  subst c3
  have H1 : (some (0, ([] : List Int), 1)) = some (r1, r2, r3) := by rw [if_neg (show ¬ (false = true) by decide)] at H; exact H
  clear H; have H := H1; clear H1
  simp only [Option.some.injEq, Prod.mk.injEq] at H
  obtain ⟨rfl, rfl, rfl⟩ := H
  go_enter Tryd.func45, Tryd.ntmps45
  go_wp2_with (first | ((with_reducible refine gate_dst (N := 1) rfl ?_); refine box_event ?hg (N := 1) ?hd (cs := #[.int .i64 a0_0, .slice A0_1 l0_1.length c0_1]) (t := 26) ?hr ?_; (case hd => rfl); (case hg => rfl); (case hr => first | (go_simp; done) | (go_simp; rfl)); intro gb1219 hg w14 hbox hb; have BK1219 := Aside0.mk (hbox); have GW1219 := Aside0.mk ((by rw [hg]; exact (below_size (beQ HB)) : w.heap.size ≤ gb1219)); have GE1219 := Aside0.mk ((by rw [hg]; exact (below_size (beQ HB)) : w.heap.size ≤ gb1219)); replace HB := Aside0.mk (below_step (beQ HB) hb); clear hb hbox hg) | ((with_reducible refine gate_dst (N := 2) rfl ?_); refine box_event ?hg (N := 2) ?hd (cs := #[.int .i64 0, .slice none 0 0]) (t := 26) ?hr ?_; (case hd => rfl); (case hg => rfl); (case hr => first | (go_simp; done) | (go_simp; rfl)); intro gb1220 hg w15 hbox hb; have BK1220 := Aside0.mk (hbox); have GW1220 := Aside0.mk ((by rw [hg]; exact (below_size (beQ HB)) : w.heap.size ≤ gb1220)); have GE1220 := Aside0.mk ((by rw [hg]; exact (below_size (beQ HB)) : w.heap.size ≤ gb1220)); replace HB := Aside0.mk (below_step (beQ HB) hb); have NB1219_1220 := Aside0.mk ((by rw [hg]; exact Nat.ne_of_lt (blk_lt (blkQ BK1219)) : gb1219 ≠ gb1220)); have NB1220_1219 := Aside0.mk ((by rw [hg]; exact Nat.ne_of_gt (blk_lt (blkQ BK1219)) : gb1220 ≠ gb1219)); replace BK1219 := bb BK1219 hb; clear hb hbox hg; have hnb16 := NB1219_1220.out; have hnc16 := NB1220_1219.out; have hcz17_0 : w15.cell? ⟨gb1219, 0, none⟩ = some (.int .i64 a0_0) := bc BK1219 0; have hcz17_1 : w15.cell? ⟨gb1219, 1, none⟩ = some (.slice A0_1 l0_1.length c0_1) := bc BK1219 1; have hfz17_0 := blk_frozen BK1219.out 0; have hfz17_1 := blk_frozen BK1219.out 1) | ((with_reducible refine gate_callee (f := 62) rfl ?_); refine goesL_ (some 5) rfl rfl Tryd.func62 (by kernel_rfl) rfl #[.agg #[.int .i64 a0_0, .slice A0_1 l0_1.length c0_1]] rfl lz ?_; (with_reducible refine (impl_IsAlphabet.calls k a0_0 _ _ l0_1 false _ ?side1 ?side2 ?side3 A2.out).mono ?_); (case side1 => have q_ := Aside0.mk (Kd.C_below HR0_1.out HB.out); exact cQ q_); (case side2 => exact HC0_1.out); (case side3 => exact TabW.below HT.out (beQ HB)); rintro e w18 ⟨rfl, hb⟩; refine ⟨_, rfl, ?_⟩; replace BK1219 := bb BK1219 hb; replace BK1220 := bb BK1220 hb; replace HB := Aside0.mk (below_step (beQ HB) hb); (try clear hb); (try clear hb2); (try clear hk); (try clear hi); (try clear hgw_); have hcz19_0 : w18.cell? ⟨gb1220, 0, none⟩ = some (.int .i64 0) := bc BK1220 0; have hcz19_1 : w18.cell? ⟨gb1220, 1, none⟩ = some (.slice none 0 0) := bc BK1220 1; have hfz19_0 := blk_frozen BK1220.out 0; have hfz19_1 := blk_frozen BK1220.out 1))
  refine bodyPost_ret (results_ct rfl _ _ gb1220 26 #[.int .i64 0, .slice none 0 0] (0, 0) _ rfl (by (with_reducible repeat (first | refine blk_drewN ?_ _ | refine blk_drew ?_ | refine blk_alloc ?_ _)); refine blk_put (cs := #[.int .i64 0, .slice none 0 0]) ?_ 1 _ rfl; (with_reducible repeat (first | refine blk_drewN ?_ _ | refine blk_drew ?_ | refine blk_alloc ?_ _)); refine blk_put (cs := #[.int .i64 0, .slice none 0 0]) ?_ 0 _ rfl; (with_reducible repeat (first | refine blk_drewN ?_ _ | refine blk_drew ?_ | refine blk_alloc ?_ _)); exact BK1220.out) Tryd.underlying26 rfl (by kernel_rfl)) rfl ?_
  exact ⟨_, rz, by first | exact Kd.R_nil _ _ _ _ _ | exact Kd.N_nil _ _ _ _ _ | exact Kd.V_nil _ _ _ _ _ | exact Kd.Q_nil _ _ _ _ _ | exact Kd.S_nil _ _ _ _ _, beQ HB⟩
def impl_loose.l0 : Nat → Int → Int → Int → List Int → Option (Int × List Int)
 | 0, _, _, _, _ => none
 | k + 1, x7, x8, x1228000, x1228001 => if x8 < x7 then ((impl_one.f x8).bind fun t1228 => (if x1228001.length < 17592186044416 then (impl_loose.l0 k x7 (wrap64 (x8 + 1)) x1228000 (x1228001 ++ [t1228])) else (none))) else (some (x1228000, x1228001))
def impl_loose.f (k : Nat) (a0 : Int) : Option (Int × List Int) := impl_loose.l0 k a0 0 a0 ([] : List Int)
def impl_loose.T5 : Bool × List (List Nat × List Nat) := (true, [([], []), ([0], [0]), ([], []), ([2], [2]), ([3], [3]), ([1, 4, 3], [1, 4]), ([0, 1, 2, 3, 4, 5], []), ([6, 5, 5, 0, 1, 2, 3, 4, 5], [5, 6])])
def impl_loose.B5 : List Nat := [0, 1, 0, 4, 12, 31, 63, 127]
theorem impl_loose.tab5 : rtab .any (opsOf Tryd.f137 5) = impl_loose.T5 := by kernel_rfl
theorem impl_loose.bits5 : waitsOk impl_loose.T5.2 impl_loose.B5 = true := by kernel_rfl
set_option maxHeartbeats 8000000 in
set_option maxRecDepth 100000 in
theorem impl_loose.calls (k : Nat) (a0 : Int) (r1 : Int) (r2 : List Int) (w : World) (h : impl_loose.f k a0 = some (r1, r2)) :
  Calls Tryd.prog 137 #[.int .i64 a0] w fun e w' => ∃ v1_ : Value, e = .returned (.agg #[.int .i64 r1, v1_]) ∧ Kd.R (Kd.int .i64) 2 w' w.heap.size (fun _ => True) v1_ r2 ∧ Below w.heap.size w w' := by
 have hu26 := Tryd.underlying26; have HB := Aside0.mk (Below.refl w.heap.size w)
 have H : (impl_loose.l0 k a0 0 a0 ([] : List Int)) = some (r1, r2) := h
 clear h
 have H' := Aside0.mk H
 clear H
 go_enter Tryd.func137, Tryd.ntmps137
 go_wp2_with (first | ((with_reducible refine gate_dst (N := 2) rfl ?_); refine box_event ?hg (N := 2) ?hd (cs := #[.int .i64 0, .slice none 0 0]) (t := 26) ?hr ?_; (case hd => rfl); (case hg => rfl); (case hr => first | (go_simp; done) | (go_simp; rfl)); intro gb1226 hg w2 hbox hb; have BK1226 := Aside0.mk (hbox); have GW1226 := Aside0.mk ((by rw [hg]; exact (below_size (beQ HB)) : w.heap.size ≤ gb1226)); have GE1226 := Aside0.mk ((by rw [hg]; exact (below_size (beQ HB)) : w.heap.size ≤ gb1226)); replace HB := Aside0.mk (below_step (beQ HB) hb); clear hb hbox hg) | ((with_reducible refine gate_dst (N := 3) rfl ?_); refine box_event ?hg (N := 3) ?hd (cs := #[.int .i64 0, .slice none 0 0]) (t := 26) ?hr ?_; (case hd => rfl); (case hg => rfl); (case hr => first | (go_simp; done) | (go_simp; rfl)); intro gb1227 hg w3 hbox hb; have BK1227 := Aside0.mk (hbox); have GW1227 := Aside0.mk ((by rw [hg]; exact (below_size (beQ HB)) : w.heap.size ≤ gb1227)); have GE1227 := Aside0.mk ((by rw [hg]; exact (below_size (beQ HB)) : w.heap.size ≤ gb1227)); replace HB := Aside0.mk (below_step (beQ HB) hb); have NB1226_1227 := Aside0.mk ((by rw [hg]; exact Nat.ne_of_lt (blk_lt (blkQ BK1226)) : gb1226 ≠ gb1227)); have NB1227_1226 := Aside0.mk ((by rw [hg]; exact Nat.ne_of_gt (blk_lt (blkQ BK1226)) : gb1227 ≠ gb1226)); replace BK1226 := bb BK1226 hb; clear hb hbox hg; have hnb4 := NB1227_1226.out; have hnc4 := NB1226_1227.out; have hcz5_0 : w3.cell? ⟨gb1227, 0, none⟩ = some (.int .i64 0) := bc BK1227 0; have hcz5_1 : w3.cell? ⟨gb1227, 1, none⟩ = some (.slice none 0 0) := bc BK1227 1; have hfz5_0 := blk_frozen BK1227.out 0; have hfz5_1 := blk_frozen BK1227.out 1))
 go_loopg [8] k (fun kq v8 w' => ∃ (x8_1 : Int) (x1228001_1 : List Int) (u1228001 : Value), v8 = .int .i64 x8_1 ∧ Aside0 (impl_loose.l0 kq a0 x8_1 a0 x1228001_1 = some (r1, r2)) ∧ Aside0 (kq ≤ k) ∧ Aside0 (Kd.R (Kd.int .i64) 2 w' w.heap.size (fun _ => True) u1228001 x1228001_1) ∧ Aside0 (w'.heap[gb1226]? = some (.cells #[.int .i64 0, (.slice none 0 0)] 26 (0, 0))) ∧ Aside0 (w'.heap[gb1227]? = some (.cells #[.int .i64 a0, u1228001] 26 (0, 0))) ∧ Aside0 (Below w.heap.size w w'))
 case atStart => exact ⟨(0), (([] : List Int)), (.slice none 0 0), sz, H', ⟨Nat.le_refl _⟩, ⟨by first | exact Kd.R_nil _ _ _ _ _ | exact Kd.N_nil _ _ _ _ _ | exact Kd.V_nil _ _ _ _ _ | exact Kd.Q_nil _ _ _ _ _ | exact Kd.S_nil _ _ _ _ _⟩, ⟨blkF BK1226⟩, ⟨by (with_reducible repeat (first | refine blk_drewN ?_ _ | refine blk_drew ?_ | refine blk_alloc ?_ _)); refine blk_put (cs := #[.int .i64 a0, .slice none 0 0]) ?_ 1 _ rfl; (with_reducible repeat (first | refine blk_drewN ?_ _ | refine blk_drew ?_ | refine blk_alloc ?_ _)); refine blk_put (cs := #[.int .i64 0, .slice none 0 0]) ?_ 0 _ rfl; (with_reducible repeat (first | refine blk_drewN ?_ _ | refine blk_drew ?_ | refine blk_alloc ?_ _)); exact BK1227.out⟩, ⟨beQ HB⟩⟩
 case round =>
  clear H'
  try clear c1
  try clear p2
  try clear c4
  try clear hcz5_0
  try clear hcz5_1
  try clear hfz5_0
  try clear hfz5_1
  obtain ⟨x8_1, x1228001_1, u1228001, rfl, HA, HK1, HO_1228001, BK1226, BK1227, HB⟩ := hrel
  cases gk with
  | zero => exact absurd HA.out (by simp [impl_loose.l0])
  | succ k1 =>
   have H := HA.out; clear HA
   simp only [impl_loose.l0] at H
   by_cases c6 : x8_1 < a0
   ·rw [if_pos c6] at H
    have c6b0 : decide (x8_1 < a0) = true := decide_eq_true c6
    clear c6; replace H := Option.bind_eq_some_iff.mp H; obtain ⟨t1228, A70, H⟩ := H
    replace H : (if x1228001_1.length < 17592186044416 then (impl_loose.l0 k1 a0 (wrap64 (x8_1 + 1)) a0 (x1228001_1 ++ [t1228])) else (none)) = some (r1, r2) := H
    have A7 := Aside0.mk A70; clear A70
    by_cases c8 : x1228001_1.length < 17592186044416
    ·rw [if_pos c8] at H
     have LMc8 := Aside0.mk c8; clear c8
     obtain ⟨y1229, hy1229⟩ : ∃ y_ : List Int, y_ = (x1228001_1 ++ [t1228]) := ⟨_, rfl⟩
     replace H : (impl_loose.l0 k1 a0 (wrap64 (x8_1 + 1)) a0 y1229) = some (r1, r2) := by first | (rw [hy1229]; with_reducible exact H) | (have H2_ := (Option.bind_some _ _).symm.trans H; rw [hy1229]; with_reducible exact H2_) | (have H2_ := (Option.bind_some _ _).symm.trans H; with_reducible exact H2_) | with_reducible exact H | (rw [hy1229]; exact H) | exact H
     have Ny1229 := Aside0.mk hy1229; clear hy1229
     have H' := Aside0.mk H
     clear H
     try go_wp2
     replace HO_1228001 := Aside0.mk (Kd.R_drew HO_1228001.out); replace BK1226 := Aside0.mk (blk_drew BK1226.out); replace BK1227 := Aside0.mk (blk_drew BK1227.out); replace HB := Aside0.mk (below_drew1 HB.out)
     refine start_ (n := 8) (S := fun w' => w'.cell? ⟨gb1227, 0, none⟩ = some (.int .i64 a0) ∧ w'.cell? ⟨gb1227, 1, none⟩ = some (u1228001)) (ds := [7]) #[false, false, false, false, false, false, false, false] (by kernel_rfl) rfl rfl ⟨bc BK1227 0, bc BK1227 1⟩ (fun hHeld => ?_); refine with_tabW impl_loose.tab5 impl_loose.bits5 (fun HT_ HW_ => ?_)
     generalize wr.drew = w9 at HO_1228001 BK1226 BK1227 HB hHeld ⊢
     refine pure_ (i := 0) (N := some 11) (v := ?_) (a' := ?_) #[true, false, false, false, false, false, false, false] rfl rfl (any_of HT_.out (by kernel_rfl)) (fun _ _ _ h => h) (Or.inl ⟨by rfl, ?_⟩) ?_ ?_
     rotate_left
     ·intro w'
      go_simp
      with_reducible rfl
     rotate_left
     ·simp only [Act.put, s1, s2, s3, i64_w, i32_w]
      rfl
     refine pure_ (i := 2) (N := some 13) (v := ?_) (a' := ?_) #[true, false, true, false, false, false, false, false] rfl rfl (any_of HT_.out (by kernel_rfl)) (fun _ _ _ h => h) (Or.inl ⟨by rfl, ?_⟩) ?_ ?_
     rotate_left
     ·intro w'
      go_simp
      with_reducible rfl
     rotate_left
     ·simp only [Act.put, s1, s2, s3, i64_w, i32_w]
      rfl
     refine take_ (i := 1) (N := some 12) (v := ?_) (a' := ?_) #[true, true, true, false, false, false, false, false] rfl rfl (take_ofW HT_.out HW_.out (by kernel_rfl)) (fun _ _ _ h => h) (Or.inl ⟨by rfl, ?_⟩) hHeld ?_ ?_
     rotate_left
     ·rintro w' ⟨s0, s1⟩
      go_simp
      with_reducible rfl
     rotate_left
     ·simp only [Act.put, s1, s2, s3, i64_w, i32_w]
      rfl
     refine one_ (i := 3) (N := some 14) #[true, true, true, true, false, false, false, false] rfl rfl (one_of HT_.out (by kernel_rfl)) (by decide) (fun K hK => ?_)
     refine goes_ Tryd.func121 (by kernel_rfl) rfl #[.int .i64 x8_1] (by rfl) rfl rfl lz ?_
     with_reducible refine (impl_one.calls x8_1 t1228 _ A7.out).mono ?_
     rintro e w' ⟨rfl, ⟨nd, rfl⟩⟩
     refine ⟨_, rfl, ?_⟩
     refine hK.out _ _ ⟨bc BK1227 0, bc BK1227 1⟩ (fun hHeld => ?_)
     clear hK K
     refine norm_ (a' := ?_) ?_ ?_
     rotate_left
     ·show Act.put _ (some 14) _ = _
      simp only [Act.put, s1, s2, s3, i64_w, i32_w]
      rfl
     refine one_ (i := 4) (N := some 15) #[true, true, true, true, true, false, false, false] rfl rfl (one_of HT_.out (by kernel_rfl)) (by decide) (fun K hK => ?_)
     refine value_ (w1 := ?_) (v := ?_) (by rfl) rfl ?_ ?_
     rotate_left 2
     ·go_simp
      constructor
      ·rfl
      ·rfl
     refine hK.out _ _ ⟨(blk_cell (blk_alloc BK1227.out _) 0).trans rfl, (blk_cell (blk_alloc BK1227.out _) 1).trans rfl⟩ (fun hHeld => ?_)
     clear hK K
     refine norm_ (a' := ?_) ?_ ?_
     rotate_left
     ·show Act.put _ (some 15) _ = _
      simp only [Act.put, s1, s2, s3, i64_w, i32_w]
      rfl
     refine one_ (i := 5) (N := some 16) #[true, true, true, true, true, true, false, false] rfl rfl (one_of HT_.out (by kernel_rfl)) (by decide) (fun K hK => ?_)
     refine Kd.R_append_step (Kd.int .i64) (w0 := w) w.heap.size (by rfl) (.tmp 12) (.tmp 15) 24 2 (.int .i64 0) 8 rfl Tryd.underlying24 info2 rfl (by decide) (by omega) u1228001 x1228001_1 t1228 [.int .i64 t1228] (fun _ => True) (fun _ => False) rfl rfl ?aP (fun _ hk => hk.elim) ?aF ?aO ?aB ?aS ?aL ?_
     (case aP => exact rfl)
     (case aB => exact (beQ HB))
     (case aF => exact (fun _ _ => trivial))
     (case aO => exact (kdQ HO_1228001))
     (case aS => exact (below_size (beQ HB)))
     (case aL => have := LMc8.out; omega)
     intro v1230 w10 ho hb hg hat
     rw [← Ny1229.out] at ho
     have n0_ := Aside0.mk (blk_grown (g := gb1226) (o := .cells #[.int .i64 0, .slice none 0 0] 26 (0, 0)) (blkQ BK1226) hg (Kd.R_ne HO_1228001.out BK1226.out (by decide)))
     have n1_ := Aside0.mk (blk_grown (g := gb1227) (o := .cells #[.int .i64 a0, u1228001] 26 (0, 0)) (blkQ BK1227) hg (Kd.R_ne HO_1228001.out BK1227.out (by decide)))
     have n2_ := Aside0.mk (hb); have n3_ := Aside0.mk (ho); clear BK1226; clear BK1227; clear HB; clear HO_1228001; have BK1226 := n0_; have BK1227 := n1_; have HB := n2_; have HO1231 := n3_; clear n0_ n1_ n2_ n3_; clear ho hb hg hat; obtain ⟨Ao11, co11, eo11⟩ := Kd.R_slice HO1231.out
     (first | subst eo11 | (injection eo11 with f1_ f2_ f3_; have f4_ := f1_.symm; have f5_ := f3_.symm; clear f1_ f2_ f3_; subst f4_; subst f5_))
     refine hK.out _ _ ⟨bc BK1227 0, bc BK1227 1⟩ (fun hHeld => ?_)
     clear hK K
     refine norm_ (a' := ?_) ?_ ?_
     rotate_left
     ·show Act.put _ (some 16) _ = _
      simp only [Act.put, s1, s2, s3, i64_w, i32_w]
      rfl
     refine pure_ (i := 6) (N := some 17) (v := ?_) (a' := ?_) #[true, true, true, true, true, true, true, false] rfl rfl (any_of HT_.out (by kernel_rfl)) (fun _ _ _ h => h) (Or.inl ⟨by rfl, ?_⟩) ?_ ?_
     rotate_left
     ·intro w'
      go_simp
      with_reducible rfl
     rotate_left
     ·simp only [Act.put, s1, s2, s3, i64_w, i32_w]
      rfl
     refine last_ (i := 7) (N := none) #[true, true, true, true, true, true, true, true] rfl rfl (one_of HT_.out (by kernel_rfl)) (by decide) (fun K hK => ?_)
     have hs12 : w10.cell? ⟨gb1227, 1, none⟩ = some (u1228001) := bc BK1227 1
     have hfs12 := blk_frozen BK1227.out 1; have hns12_0 := NB1226_1227.out; have hms12_0 := NB1227_1226.out
     refine skip_ (w1 := ?_) (by rfl) rfl ?_ ?_
     rotate_left
     ·go_simp
      rfl
     refine hK.out _ _ ?_
     clear hK K
     refine done_ (done_of HT_.out (by kernel_rfl)) ?_
     try go_wp2
     go_roundg k1
     case measure => have := HK1.out; omega
     case rel => exact ⟨(wrap64 (x8_1 + 1)), (y1229), (.slice Ao11 y1229.length co11), sz, H', ⟨by have := HK1.out; omega⟩, ⟨by (with_reducible repeat (first | apply Kd.R_alloc | apply Kd.R_drewN | apply Kd.R_drew)); exact Kd.R_mono (Kd.R_far (p := ⟨gb1227, 1, none⟩) (Kd.R_types HO1231.out BK1227.out (by decide)) (fun _ hk => hk.2) (.slice Ao11 y1229.length co11)) (fun _ hk => trivial)⟩, ⟨blkF BK1226⟩, ⟨by (with_reducible repeat (first | refine blk_drewN ?_ _ | refine blk_drew ?_ | refine blk_alloc ?_ _)); refine blk_put (cs := #[.int .i64 a0, u1228001]) ?_ 1 _ rfl; (with_reducible repeat (first | refine blk_drewN ?_ _ | refine blk_drew ?_ | refine blk_alloc ?_ _)); exact BK1227.out⟩, ⟨beQ HB⟩⟩
    ·rw [if_neg c8] at H
     exact absurd H (by simp)
   ·rw [if_neg c6] at H
    have c6b0 : decide (x8_1 < a0) = false := decide_eq_false c6
    clear c6
    simp only [Option.some.injEq, Prod.mk.injEq] at H
    obtain ⟨rfl, rfl⟩ := H; have hnb13 := NB1227_1226.out; have hnc13 := NB1226_1227.out
    have hcz14_0 : wr.cell? ⟨gb1227, 0, none⟩ = some (.int .i64 a0) := bc BK1227 0
    have hcz14_1 : wr.cell? ⟨gb1227, 1, none⟩ = some (u1228001) := bc BK1227 1
    have hfz14_0 := blk_frozen BK1227.out 0; have hfz14_1 := blk_frozen BK1227.out 1
    have hcz15_0 : wr.cell? ⟨gb1226, 0, none⟩ = some (.int .i64 0) := bc BK1226 0
    have hcz15_1 : wr.cell? ⟨gb1226, 1, none⟩ = some (.slice none 0 0) := bc BK1226 1
    have hfz15_0 := blk_frozen BK1226.out 0; have hfz15_1 := blk_frozen BK1226.out 1; obtain ⟨Ao16, co16, eo16⟩ := Kd.R_slice HO_1228001.out; subst eo16
    go_wp2
    refine bodyPost_ret (results_cell_row rfl _ _ gb1226 26 #[.int .i64 a0, .slice Ao16 x1228001_1.length co16] (0, 0) _ rfl (by (with_reducible repeat (first | refine blk_drewN ?_ _ | refine blk_drew ?_ | refine blk_alloc ?_ _)); refine blk_put (cs := #[.int .i64 a0, .slice none 0 0]) ?_ 1 _ rfl; (with_reducible repeat (first | refine blk_drewN ?_ _ | refine blk_drew ?_ | refine blk_alloc ?_ _)); refine blk_put (cs := #[.int .i64 0, .slice none 0 0]) ?_ 0 _ rfl; (with_reducible repeat (first | refine blk_drewN ?_ _ | refine blk_drew ?_ | refine blk_alloc ?_ _)); exact BK1226.out) Tryd.underlying26 rfl (by kernel_rfl)) rfl ?_
    exact ⟨_, rz, by (with_reducible repeat (first | apply Kd.R_alloc | apply Kd.R_drewN | apply Kd.R_drew)); exact Kd.R_mono (Kd.R_far (p := ⟨gb1226, 1, none⟩) (Kd.R_far (p := ⟨gb1226, 0, none⟩) (Kd.R_types HO_1228001.out BK1226.out (by decide)) (fun _ hk => hk.2) (.int .i64 a0)) (fun _ hk => hk.2) (.slice Ao16 x1228001_1.length co16)) (fun _ hk => trivial), beQ HB⟩
end Go.Proofs.YtleeihpmniabhaaDoor.G
