-- A copy, with what one law needs, of a text that print.sh or a program of ours wrote
import Derived.Test.YtleeihpmniabhaaDoorZ11G0
import Derived.Test.YtleeihpmniabhaaDoorZ11GQ00a
import Derived.Test.YtleeihpmniabhaaDoorZ11GQ00c
import Derived.Test.YtleeihpmniabhaaDoorZ11GQ01b
namespace Go.Proofs.YtleeihpmniabhaaDoor.G
open Go.RowKit Go.Proofs.YtleeihpmniabhaaDoorW.PrintWords Go.Proofs.YtleeihpmniabhaaDoorW.PrintLast Go.Proofs.YtleeihpmniabhaaDoorW.PrintMore
theorem zQ17ax0 {p : Prop} (h : p := by repeat (first | (with_reducible first | exact HI1132.out | apply IsS104.alloc | apply IsS104.drewN | apply IsS104.drew | apply IsS104.set_1 | apply IsS104.set_2 | refine IsS104.far ?_ NB1132_1127.out _ | refine IsS104.far ?_ NB1132_1128.out _) | exact HI1132.out)) : p := h
theorem zQ17ax1 {p : Prop} (h : p := by repeat (first | (with_reducible first | exact HB.out | apply below_alloc | apply pw_below_drewN | apply below_drew1 | refine below_set ?_ (IsS104.ge HI1132.out) | refine below_set ?_ GE1127.out | refine below_set ?_ GE1128.out) | exact HB.out)) : p := h
theorem zQ17ax2 {p : Prop} (h : p := by repeat (first | (with_reducible first | exact HI1132.out | apply IsS104.alloc | apply IsS104.drewN | apply IsS104.drew | apply IsS104.set_1 | apply IsS104.set_2 | refine IsS104.far ?_ NB1132_1127.out _ | refine IsS104.far ?_ NB1132_1128.out _ | refine IsS104.far ?_ NB1132_1139.out _) | exact HI1132.out)) : p := h
theorem zQ17ax3 {p : Prop} (h : p := by repeat (first | (with_reducible first | exact HB.out | apply below_alloc | apply pw_below_drewN | apply below_drew1 | refine below_set ?_ (IsS104.ge HI1132.out) | refine below_set ?_ GE1127.out | refine below_set ?_ GE1128.out | refine below_set ?_ GE1139.out) | exact HB.out)) : p := h
theorem zQ17ax4 {p : Prop} (h : p := by repeat (first | (with_reducible first | exact HB.out | apply below_alloc | apply pw_below_drewN | apply below_drew1 | refine below_set ?_ (IsS104.ge HI1132.out) | refine below_set ?_ GE1127.out | refine below_set ?_ GE1128.out | refine below_set ?_ GE1139.out | refine below_set ?_ GE1146.out) | exact HB.out)) : p := h
theorem zQ17ax5 {p : Prop} (h : p := by repeat (first | (with_reducible first | exact HB.out | apply below_alloc | apply pw_below_drewN | apply below_drew1) | exact HB.out)) : p := h
theorem zQ17ax6 {p : Prop} (h : p := by repeat (first | (with_reducible first | exact HK.out | apply Kept.alloc | apply Kept.drewN | apply Kept.drew) | exact HK.out)) : p := h
theorem zQ17ax7 {p : Prop} (h : p := by repeat (first | (with_reducible first | exact HK.out | apply Kept.alloc | apply Kept.drewN | apply Kept.drew | refine Kept.setCell ?_ HMgo7.out _ | refine Kept.setCell ?_ (.inr GW1147.out) _) | exact HK.out)) : p := h
theorem zQ17ax8 {p : Prop} (h : p := by repeat (first | (with_reducible first | exact HB.out | apply below_alloc | apply pw_below_drewN | apply below_drew1 | refine below_set ?_ GB7.out | refine below_set ?_ GE1147.out) | exact HB.out)) : p := h
attribute [local go_sem] max2_int min2_int max_two min_two max_three min_three max_four min_four   -- for this text's walks alone
set_option linter.unusedVariables false
set_option linter.unusedSimpArgs false
def spec_DrawDirectProduct.f (k : Nat) (l0 : List Int) : Option (Int × List Int × Int × List Int) := (spec_l01From.f k l0).bind fun bt1129 => ((spec_l02Spoil.f k bt1129.1 bt1129.2.1 bt1129.2.2 5).bind fun bt1133 => ((spec_l02Spoil.f k bt1129.1 bt1133.2.2.1 bt1133.2.2.2 5).bind fun bt1140 => (some (bt1133.1, bt1133.2.1, bt1140.1, bt1140.2.1))))
set_option maxHeartbeats 8000000 in
set_option maxRecDepth 100000 in
theorem spec_DrawDirectProduct.calls (k : Nat) (A0 : Option Addr) (c0 : Nat) (l0 : List Int) (r1 : Int) (r2 : List Int) (r3 : Int) (r4 : List Int) (w : World) (hr0 : Kd.C (Kd.int .u8) w A0 l0.length l0) (hc0 : l0.length ≤ c0) (h : spec_DrawDirectProduct.f k l0 = some (r1, r2, r3, r4)) :
  Calls Tryd.prog 40 #[.slice A0 l0.length c0] w fun e w' => ∃ v1_ v3_ : Value, e = .returned (.tuple #[.agg #[.int .i64 r1, v1_], .agg #[.int .i64 r3, v3_]]) ∧ Kd.R (Kd.int .i64) 2 w' w.heap.size (fun k_ => some k_ ≠ (v3_ : Value).ownBlock) v1_ r2 ∧ Kd.R (Kd.int .i64) 2 w' w.heap.size (fun k_ => some k_ ≠ (v1_ : Value).ownBlock) v3_ r4 ∧ Below w.heap.size w w' := by
 have hu26 := Tryd.underlying26; have HR0 := Aside0.mk hr0; have HC0 := Aside0.mk hc0; clear hr0 hc0; have HB := Aside0.mk (Below.refl w.heap.size w)
 have H : ((spec_l01From.f k l0).bind fun bt1129 => ((spec_l02Spoil.f k bt1129.1 bt1129.2.1 bt1129.2.2 5).bind fun bt1133 => ((spec_l02Spoil.f k bt1129.1 bt1133.2.2.1 bt1133.2.2.2 5).bind fun bt1140 => (some (bt1133.1, bt1133.2.1, bt1140.1, bt1140.2.1))))) = some (r1, r2, r3, r4) := h
 clear h; replace H := Option.bind_eq_some_iff.mp H
 obtain ⟨⟨t1129, t1130, t1131⟩, A20, H⟩ := H
 replace H : ((spec_l02Spoil.f k t1129 t1130 t1131 5).bind fun bt1133 => ((spec_l02Spoil.f k t1129 bt1133.2.2.1 bt1133.2.2.2 5).bind fun bt1140 => (some (bt1133.1, bt1133.2.1, bt1140.1, bt1140.2.1)))) = some (r1, r2, r3, r4) := H
 have A2 := Aside0.mk A20; clear A20; replace H := Option.bind_eq_some_iff.mp H
 obtain ⟨⟨t1133, t1134, t1137, t1138⟩, A30, H⟩ := H
 replace H : ((spec_l02Spoil.f k t1129 t1137 t1138 5).bind fun bt1140 => (some (t1133, t1134, bt1140.1, bt1140.2.1))) = some (r1, r2, r3, r4) := H
 have A3 := Aside0.mk A30; clear A30; replace H := Option.bind_eq_some_iff.mp H
 obtain ⟨⟨t1140, t1141, t1144, t1145⟩, A40, H⟩ := H
 replace H : (some (t1133, t1134, t1140, t1141)) = some (r1, r2, r3, r4) := H
 have A4 := Aside0.mk A40; clear A40
 simp only [Option.some.injEq, Prod.mk.injEq] at H
 obtain ⟨rfl, rfl, rfl, rfl⟩ := H
 go_enter Tryd.func40, Tryd.ntmps40
 try go_wp2_with (first | ((with_reducible refine gate_dst (N := 2) rfl ?_); refine box_event ?hg (N := 2) ?hd (cs := #[.int .i64 0, .slice none 0 0]) (t := 26) ?hr ?_; (case hd => rfl); (case hg => rfl); (case hr => first | (go_simp; done) | (go_simp; rfl)); intro gb1127 hg w5 hbox hb; have BK1127 := Aside0.mk (hbox); have GW1127 := Aside0.mk ((by rw [hg]; exact (below_size (beQ HB)) : w.heap.size ≤ gb1127)); have GE1127 := Aside0.mk ((by rw [hg]; exact (below_size (beQ HB)) : w.heap.size ≤ gb1127)); replace HB := Aside0.mk (below_step (beQ HB) hb); clear hb hbox hg) | ((with_reducible refine gate_dst (N := 3) rfl ?_); refine box_event ?hg (N := 3) ?hd (cs := #[.int .i64 0, .slice none 0 0]) (t := 26) ?hr ?_; (case hd => rfl); (case hg => rfl); (case hr => first | (go_simp; done) | (go_simp; rfl)); intro gb1128 hg w6 hbox hb; have BK1128 := Aside0.mk (hbox); have GW1128 := Aside0.mk ((by rw [hg]; exact (below_size (beQ HB)) : w.heap.size ≤ gb1128)); have GE1128 := Aside0.mk ((by rw [hg]; exact (below_size (beQ HB)) : w.heap.size ≤ gb1128)); replace HB := Aside0.mk (below_step (beQ HB) hb); have NB1127_1128 := Aside0.mk ((by rw [hg]; exact Nat.ne_of_lt (blk_lt (blkQ BK1127)) : gb1127 ≠ gb1128)); have NB1128_1127 := Aside0.mk ((by rw [hg]; exact Nat.ne_of_gt (blk_lt (blkQ BK1127)) : gb1128 ≠ gb1127)); replace BK1127 := bb BK1127 hb; clear hb hbox hg) | ((with_reducible refine gate_callee (f := 98) rfl ?_); refine goesL_ (some 8) rfl rfl Tryd.func98 (by kernel_rfl) rfl #[.slice A0 l0.length c0] rfl lz ?_; (with_reducible refine (spec_l01From.calls k _ _ l0 t1129 t1130 t1131 w _ ?side1 ?side2 ?side3 A2.out).mono ?_); (case side1 => repeat (first | (with_reducible first | exact HB.out | apply below_alloc | apply pw_below_drewN | apply below_drew1 | refine below_set ?_ GE1127.out | refine below_set ?_ GE1128.out) | exact HB.out)); (case side2 => exact HR0.out); (case side3 => exact HC0.out); rintro e w7 ⟨g1132, rfl, hi, hb, hb2, hgw_⟩; refine ⟨_, rfl, ?_⟩; replace HB := Aside0.mk (hb); have HI1132 := Aside0.mk (hi); have NB1132_1127 := Aside0.mk (IsS104.ne_blk hi (blk_below (blkQ BK1127) hb2) (by decide)); have NB1127_1132 := Aside0.mk (Ne.symm (IsS104.ne_blk hi (blk_below (blkQ BK1127) hb2) (by decide))); replace BK1127 := Aside0.mk (blk_below (blkQ BK1127) hb2); have NB1132_1128 := Aside0.mk (IsS104.ne_blk hi (blk_below (blkQ BK1128) hb2) (by decide)); have NB1128_1132 := Aside0.mk (Ne.symm (IsS104.ne_blk hi (blk_below (blkQ BK1128) hb2) (by decide))); replace BK1128 := Aside0.mk (blk_below (blkQ BK1128) hb2); (try clear hb); (try clear hb2); (try clear hk); (try clear hi); (try clear hgw_)) | ((with_reducible refine gate_callee (f := 99) rfl ?_); refine goesL_ (some 10) rfl rfl Tryd.func99 (by kernel_rfl) rfl #[.pointer (some ⟨g1132, 0, none⟩), .int .i64 5] rfl lz ?_; (with_reducible refine (spec_l02Spoil.calls k g1132 t1129 t1130 t1131 5 t1133 t1134 t1137 t1138 w _ ?side1 ?side2 A3.out).mono ?_); (case side1 => exact zQ17ax0); (case side2 => exact zQ17ax1); rintro e w8 ⟨v1135, rfl, ho0, hi, hb, hk⟩; refine ⟨_, rfl, ?_⟩; replace BK1127 := Aside0.mk (KeepBut.blk hk (g' := gb1127) (o := .cells #[.int .i64 0, .slice none 0 0] 26 (0, 0)) (blkQ BK1127) NB1127_1132.out (by simp)); replace BK1128 := Aside0.mk (KeepBut.blk hk (g' := gb1128) (o := .cells #[.int .i64 0, .slice none 0 0] 26 (0, 0)) (blkQ BK1128) NB1128_1132.out (by simp)); have HO1136 := Aside0.mk (Kd.R_lower ho0 (below_size (zQ17ax1))); replace HB := Aside0.mk (hb); replace HI1132 := Aside0.mk (hi); (try clear hb); (try clear hb2); (try clear hk); (try clear hi); (try clear hgw_); (try clear ho0)) | ((with_reducible refine gate_dst (N := 5) rfl ?_); refine box_event ?hg (N := 5) ?hd (cs := #[.int .i64 0, .slice none 0 0]) (t := 26) ?hr ?_; (case hd => rfl); (case hg => rfl); (case hr => first | (go_simp; done) | (go_simp; rfl)); intro gb1139 hg w9 hbox hb; replace HO1136 := kb HO1136 hb; have BK1139 := Aside0.mk (hbox); have GW1139 := Aside0.mk ((by rw [hg]; exact (below_size (zQ17ax1)) : w.heap.size ≤ gb1139)); have GE1139 := Aside0.mk ((by rw [hg]; exact (below_size (zQ17ax1)) : w.heap.size ≤ gb1139)); replace HB := Aside0.mk (below_step (zQ17ax1) hb); have NB1127_1139 := Aside0.mk ((by rw [hg]; exact Nat.ne_of_lt (blk_lt (blkQ BK1127)) : gb1127 ≠ gb1139)); have NB1139_1127 := Aside0.mk ((by rw [hg]; exact Nat.ne_of_gt (blk_lt (blkQ BK1127)) : gb1139 ≠ gb1127)); replace BK1127 := bb BK1127 hb; have NB1128_1139 := Aside0.mk ((by rw [hg]; exact Nat.ne_of_lt (blk_lt (blkQ BK1128)) : gb1128 ≠ gb1139)); have NB1139_1128 := Aside0.mk ((by rw [hg]; exact Nat.ne_of_gt (blk_lt (blkQ BK1128)) : gb1139 ≠ gb1128)); replace BK1128 := bb BK1128 hb; have NB1132_1139 := Aside0.mk ((by rw [hg]; exact Nat.ne_of_lt (IsS104.lt (show IsS104 w _ g1132 t1129 t1137 t1138 from zQ17ax0)) : g1132 ≠ gb1139)); have NB1139_1132 := Aside0.mk ((by rw [hg]; exact Nat.ne_of_gt (IsS104.lt (show IsS104 w _ g1132 t1129 t1137 t1138 from zQ17ax0)) : gb1139 ≠ g1132)); replace HI1132 := Aside0.mk (IsS104.below (zQ17ax0) hb); clear hb hbox hg; have hnb10 := NB1139_1127.out; have hnc10 := NB1127_1139.out; have hnb11 := NB1139_1128.out; have hnc11 := NB1128_1139.out; have hnb12 := NB1139_1132.out; have hnc12 := NB1132_1139.out; have hcz13_0 : w9.cell? ⟨gb1139, 0, none⟩ = some (.int .i64 0) := bc BK1139 0; have hcz13_1 : w9.cell? ⟨gb1139, 1, none⟩ = some (.slice none 0 0) := bc BK1139 1; have hfz13_0 := blk_frozen BK1139.out 0; have hfz13_1 := blk_frozen BK1139.out 1; obtain ⟨Ao14, co14, eo14⟩ := Kd.R_slice HO1136.out; subst eo14) | ((with_reducible refine gate_callee (f := 99) rfl ?_); refine goesL_ (some 12) rfl rfl Tryd.func99 (by kernel_rfl) rfl #[.pointer (some ⟨g1132, 0, none⟩), .int .i64 5] rfl lz ?_; (with_reducible refine (spec_l02Spoil.calls k g1132 t1129 t1137 t1138 5 t1140 t1141 t1144 t1145 w _ ?side1 ?side2 A4.out).mono ?_); (case side1 => exact zQ17ax2); (case side2 => exact zQ17ax3); rintro e w15 ⟨v1142, rfl, ho0, hi, hb, hk⟩; refine ⟨_, rfl, ?_⟩; replace BK1127 := Aside0.mk (KeepBut.blk hk (g' := gb1127) (o := .cells #[.int .i64 0, .slice none 0 0] 26 (0, 0)) (blkF BK1127) NB1127_1132.out (by simp)); replace BK1128 := Aside0.mk (KeepBut.blk hk (g' := gb1128) (o := .cells #[.int .i64 0, .slice none 0 0] 26 (0, 0)) (blkF BK1128) NB1128_1132.out (by simp)); have HO1143 := Aside0.mk (Kd.R_lower (Kd.R_new' ho0 (Kd.R_lt (by (with_reducible repeat (first | apply Kd.R_alloc | apply Kd.R_drewN | apply Kd.R_drew)); exact (Kd.R_mono (Kd.R_far (p := ⟨gb1139, 1, none⟩) (Kd.R_far (p := ⟨gb1139, 0, none⟩) (Kd.R_types HO1136.out BK1139.out (by decide)) (fun _ hk => hk.2) (.int .i64 t1133)) (fun _ hk => hk.2) (.slice Ao14 t1134.length co14)) (fun _ h_ => h_.1))))) (below_size (zQ17ax3))); replace HO1136 := Aside0.mk (Kd.R_mono (Kd.R_told (Kd.R_oldK (IsS104.apart (show IsS104 w _ g1132 t1129 t1137 t1138 from zQ17ax2) (by (with_reducible repeat (first | apply Kd.R_alloc | apply Kd.R_drewN | apply Kd.R_drew)); exact (Kd.R_mono (Kd.R_far (p := ⟨gb1139, 1, none⟩) (Kd.R_far (p := ⟨gb1139, 0, none⟩) (Kd.R_types HO1136.out BK1139.out (by decide)) (fun _ hk => hk.2) (.int .i64 t1133)) (fun _ hk => hk.2) (.slice Ao14 t1134.length co14)) (fun _ h_ => h_.1))) (by decide)) hk) (Kd.R_base ho0)) (fun _ h_ => h_.1)); replace BK1139 := Aside0.mk (KeepBut.blk hk (g' := gb1139) (o := .cells #[.int .i64 t1133, .slice Ao14 t1134.length co14] 26 (0, 0)) (by (with_reducible repeat (first | refine blk_drewN ?_ _ | refine blk_drew ?_ | refine blk_alloc ?_ _)); refine blk_put (cs := #[.int .i64 t1133, .slice none 0 0]) ?_ 1 _ rfl; (with_reducible repeat (first | refine blk_drewN ?_ _ | refine blk_drew ?_ | refine blk_alloc ?_ _)); refine blk_put (cs := #[.int .i64 0, .slice none 0 0]) ?_ 0 _ rfl; (with_reducible repeat (first | refine blk_drewN ?_ _ | refine blk_drew ?_ | refine blk_alloc ?_ _)); exact BK1139.out) NB1139_1132.out (by simp)); replace HB := Aside0.mk (hb); replace HI1132 := Aside0.mk (hi); (try clear hb); (try clear hb2); (try clear hk); (try clear hi); (try clear hgw_); (try clear ho0)) | ((with_reducible refine gate_dst (N := 6) rfl ?_); refine box_event ?hg (N := 6) ?hd (cs := #[.int .i64 0, .slice none 0 0]) (t := 26) ?hr ?_; (case hd => rfl); (case hg => rfl); (case hr => first | (go_simp; done) | (go_simp; rfl)); intro gb1146 hg w16 hbox hb; replace HO1136 := kb HO1136 hb; replace HO1143 := kb HO1143 hb; have BK1146 := Aside0.mk (hbox); have GW1146 := Aside0.mk ((by rw [hg]; exact (below_size (zQ17ax3)) : w.heap.size ≤ gb1146)); have GE1146 := Aside0.mk ((by rw [hg]; exact (below_size (zQ17ax3)) : w.heap.size ≤ gb1146)); replace HB := Aside0.mk (below_step (zQ17ax3) hb); have NB1127_1146 := Aside0.mk ((by rw [hg]; exact Nat.ne_of_lt (blk_lt (blkQ BK1127)) : gb1127 ≠ gb1146)); have NB1146_1127 := Aside0.mk ((by rw [hg]; exact Nat.ne_of_gt (blk_lt (blkQ BK1127)) : gb1146 ≠ gb1127)); replace BK1127 := bb BK1127 hb; have NB1128_1146 := Aside0.mk ((by rw [hg]; exact Nat.ne_of_lt (blk_lt (blkQ BK1128)) : gb1128 ≠ gb1146)); have NB1146_1128 := Aside0.mk ((by rw [hg]; exact Nat.ne_of_gt (blk_lt (blkQ BK1128)) : gb1146 ≠ gb1128)); replace BK1128 := bb BK1128 hb; have NB1139_1146 := Aside0.mk ((by rw [hg]; exact Nat.ne_of_lt (blk_lt (blkQ BK1139)) : gb1139 ≠ gb1146)); have NB1146_1139 := Aside0.mk ((by rw [hg]; exact Nat.ne_of_gt (blk_lt (blkQ BK1139)) : gb1146 ≠ gb1139)); replace BK1139 := bb BK1139 hb; have NB1132_1146 := Aside0.mk ((by rw [hg]; exact Nat.ne_of_lt (IsS104.lt (show IsS104 w _ g1132 t1129 t1144 t1145 from zQ17ax2)) : g1132 ≠ gb1146)); have NB1146_1132 := Aside0.mk ((by rw [hg]; exact Nat.ne_of_gt (IsS104.lt (show IsS104 w _ g1132 t1129 t1144 t1145 from zQ17ax2)) : gb1146 ≠ g1132)); replace HI1132 := Aside0.mk (IsS104.below (zQ17ax2) hb); clear hb hbox hg; have hnb17 := NB1146_1127.out; have hnc17 := NB1127_1146.out; have hnb18 := NB1146_1128.out; have hnc18 := NB1128_1146.out; have hnb19 := NB1146_1139.out; have hnc19 := NB1139_1146.out; have hnb20 := NB1146_1132.out; have hnc20 := NB1132_1146.out; have hcz21_0 : w16.cell? ⟨gb1146, 0, none⟩ = some (.int .i64 0) := bc BK1146 0; have hcz21_1 : w16.cell? ⟨gb1146, 1, none⟩ = some (.slice none 0 0) := bc BK1146 1; have hfz21_0 := blk_frozen BK1146.out 0; have hfz21_1 := blk_frozen BK1146.out 1; obtain ⟨Ao22, co22, eo22⟩ := Kd.R_slice HO1143.out; subst eo22))
 have n0_ : Aside0 (Kd.R (Kd.int .i64) 2 ((w16.setCell ⟨gb1146, 0, none⟩ (.int .i64 t1140)).setCell ⟨gb1146, 1, none⟩ (.slice Ao22 t1141.length co22)) w.heap.size (fun k_ => some k_ ≠ (.slice Ao22 t1141.length co22 : Value).ownBlock) (.slice Ao14 t1134.length co14) t1134) := ⟨by (with_reducible repeat (first | apply Kd.R_alloc | apply Kd.R_drewN | apply Kd.R_drew)); exact Kd.R_mono (Kd.R_far (p := ⟨gb1146, 1, none⟩) (Kd.R_far (p := ⟨gb1146, 0, none⟩) (Kd.R_types HO1136.out BK1146.out (by decide)) (fun _ hk => hk.2) (.int .i64 t1140)) (fun _ hk => hk.2) (.slice Ao22 t1141.length co22)) (fun _ hk => hk.1.2)⟩
 have n1_ : Aside0 (Kd.R (Kd.int .i64) 2 ((w16.setCell ⟨gb1146, 0, none⟩ (.int .i64 t1140)).setCell ⟨gb1146, 1, none⟩ (.slice Ao22 t1141.length co22)) w.heap.size (fun k_ => some k_ ≠ (.slice Ao14 t1134.length co14 : Value).ownBlock) (.slice Ao22 t1141.length co22) t1141) := ⟨by (with_reducible repeat (first | apply Kd.R_alloc | apply Kd.R_drewN | apply Kd.R_drew)); exact Kd.R_mono (Kd.R_far (p := ⟨gb1146, 1, none⟩) (Kd.R_far (p := ⟨gb1146, 0, none⟩) (Kd.R_types HO1143.out BK1146.out (by decide)) (fun _ hk => hk.2) (.int .i64 t1140)) (fun _ hk => hk.2) (.slice Ao22 t1141.length co22)) (fun _ hk => hk.1.2)⟩
 have n2_ : Aside0 (((w16.setCell ⟨gb1146, 0, none⟩ (.int .i64 t1140)).setCell ⟨gb1146, 1, none⟩ (.slice Ao22 t1141.length co22)).heap[gb1127]? = some (.cells #[.int .i64 0, .slice none 0 0] 26 (0, 0))) := ⟨blkF BK1127⟩
 have n3_ : Aside0 (((w16.setCell ⟨gb1146, 0, none⟩ (.int .i64 t1140)).setCell ⟨gb1146, 1, none⟩ (.slice Ao22 t1141.length co22)).heap[gb1128]? = some (.cells #[.int .i64 0, .slice none 0 0] 26 (0, 0))) := ⟨blkF BK1128⟩
 have n4_ : Aside0 (((w16.setCell ⟨gb1146, 0, none⟩ (.int .i64 t1140)).setCell ⟨gb1146, 1, none⟩ (.slice Ao22 t1141.length co22)).heap[gb1139]? = some (.cells #[.int .i64 t1133, .slice Ao14 t1134.length co14] 26 (0, 0))) := ⟨blkF BK1139⟩
 have n5_ : Aside0 (((w16.setCell ⟨gb1146, 0, none⟩ (.int .i64 t1140)).setCell ⟨gb1146, 1, none⟩ (.slice Ao22 t1141.length co22)).heap[gb1146]? = some (.cells #[.int .i64 t1140, .slice Ao22 t1141.length co22] 26 (0, 0))) := ⟨by (with_reducible repeat (first | refine blk_drewN ?_ _ | refine blk_drew ?_ | refine blk_alloc ?_ _)); refine blk_put (cs := #[.int .i64 t1140, .slice none 0 0]) ?_ 1 _ rfl; (with_reducible repeat (first | refine blk_drewN ?_ _ | refine blk_drew ?_ | refine blk_alloc ?_ _)); refine blk_put (cs := #[.int .i64 0, .slice none 0 0]) ?_ 0 _ rfl; (with_reducible repeat (first | refine blk_drewN ?_ _ | refine blk_drew ?_ | refine blk_alloc ?_ _)); exact BK1146.out⟩
 have n6_ : Aside0 (IsS104 w ((w16.setCell ⟨gb1146, 0, none⟩ (.int .i64 t1140)).setCell ⟨gb1146, 1, none⟩ (.slice Ao22 t1141.length co22)) g1132 t1129 t1144 t1145) := ⟨by repeat (first | (with_reducible first | exact HI1132.out | apply IsS104.alloc | apply IsS104.drewN | apply IsS104.drew | apply IsS104.set_1 | apply IsS104.set_2 | refine IsS104.far ?_ NB1132_1127.out _ | refine IsS104.far ?_ NB1132_1128.out _ | refine IsS104.far ?_ NB1132_1139.out _ | refine IsS104.far ?_ NB1132_1146.out _) | exact HI1132.out)⟩
 have n7_ : Aside0 (Below w.heap.size w ((w16.setCell ⟨gb1146, 0, none⟩ (.int .i64 t1140)).setCell ⟨gb1146, 1, none⟩ (.slice Ao22 t1141.length co22))) := ⟨zQ17ax4⟩
 (try clear HO1136)
 (try clear HO1143)
 (try clear BK1127)
 (try clear BK1128)
 (try clear BK1139)
 (try clear BK1146)
 (try clear HI1132)
 (try clear HB)
 generalize ((w16.setCell ⟨gb1146, 0, none⟩ (.int .i64 t1140)).setCell ⟨gb1146, 1, none⟩ (.slice Ao22 t1141.length co22)) = w23 at n0_ n1_ n2_ n3_ n4_ n5_ n6_ n7_ ⊢
 have HO1136 := n0_; have HO1143 := n1_; have BK1127 := n2_; have BK1128 := n3_; have BK1139 := n4_; have BK1146 := n5_; have HI1132 := n6_; have HB := n7_; clear n0_ n1_ n2_ n3_ n4_ n5_ n6_ n7_; replace HO1136 := Aside0.mk (Kd.R_drew HO1136.out); replace HO1143 := Aside0.mk (Kd.R_drew HO1143.out); replace BK1127 := Aside0.mk (blk_drew BK1127.out); replace BK1128 := Aside0.mk (blk_drew BK1128.out); replace BK1139 := Aside0.mk (blk_drew BK1139.out); replace BK1146 := Aside0.mk (blk_drew BK1146.out); replace HI1132 := Aside0.mk (IsS104.drew HI1132.out); replace HB := Aside0.mk (below_drew1 HB.out)
 refine start_ (n := 4) (S := fun w' => w'.cell? ⟨gb1139, 0, none⟩ = some (.int .i64 t1133) ∧ w'.cell? ⟨gb1139, 1, none⟩ = some (.slice Ao14 t1134.length co14) ∧ w'.cell? ⟨gb1146, 0, none⟩ = some (.int .i64 t1140) ∧ w'.cell? ⟨gb1146, 1, none⟩ = some (.slice Ao22 t1141.length co22)) (ds := []) #[false, false, false, false] (by kernel_rfl) rfl rfl ⟨bc BK1139 0, bc BK1139 1, bc BK1146 0, bc BK1146 1⟩ (fun hHeld => ?_)
 generalize w23.drew = w24 at HO1136 HO1143 BK1127 BK1128 BK1139 BK1146 HI1132 HB hHeld ⊢
 refine take_ (i := 0) (N := some 13) (v := ?_) (a' := ?_) #[true, false, false, false] rfl rfl (by kernel_rfl) (fun _ _ _ h => h) (Or.inl ⟨by rfl, ?_⟩) hHeld ?_ ?_
 rotate_left
 ·rintro w' ⟨s0, s1, s2, s3⟩
  go_simp
  with_reducible rfl
 rotate_left
 ·simp only [Act.put, s1, s2, s3, i64_w, i32_w]
  rfl
 refine take_ (i := 1) (N := some 14) (v := ?_) (a' := ?_) #[true, true, false, false] rfl rfl (by kernel_rfl) (fun _ _ _ h => h) (Or.inl ⟨by rfl, ?_⟩) hHeld ?_ ?_
 rotate_left
 ·rintro w' ⟨s0, s1, s2, s3⟩
  go_simp
  with_reducible rfl
 rotate_left
 ·simp only [Act.put, s1, s2, s3, i64_w, i32_w]
  rfl
 refine one_ (i := 2) (N := none) #[true, true, true, false] rfl rfl (by kernel_rfl) (by decide) (fun K hK => ?_)
 have hs25 : w24.cell? ⟨gb1127, 0, none⟩ = some (.int .i64 0) := bc BK1127 0
 have hfs25 := blk_frozen BK1127.out 0; have hns25_1 := NB1128_1127.out; have hns25_2 := NB1139_1127.out; have hns25_3 := NB1146_1127.out; have hms25_1 := NB1127_1128.out; have hms25_2 := NB1127_1139.out; have hms25_3 := NB1127_1146.out
 have hs26 : w24.cell? ⟨gb1127, 1, none⟩ = some (.slice none 0 0) := bc BK1127 1
 have hfs26 := blk_frozen BK1127.out 1; have hns26_1 := NB1128_1127.out; have hns26_2 := NB1139_1127.out; have hns26_3 := NB1146_1127.out; have hms26_1 := NB1127_1128.out; have hms26_2 := NB1127_1139.out; have hms26_3 := NB1127_1146.out
 refine skip_ (w1 := ?_) (by rfl) rfl ?_ ?_
 rotate_left
 ·go_simp
  rfl
 refine hK.out _ _ ⟨((cell_far (p := ⟨gb1127, _, none⟩) NB1139_1127.out _).trans (((cell_far (p := ⟨gb1127, _, none⟩) NB1139_1127.out _).trans (hHeld.1)))), ((cell_far (p := ⟨gb1127, _, none⟩) NB1139_1127.out _).trans (((cell_far (p := ⟨gb1127, _, none⟩) NB1139_1127.out _).trans (hHeld.2.1)))), ((cell_far (p := ⟨gb1127, _, none⟩) NB1146_1127.out _).trans (((cell_far (p := ⟨gb1127, _, none⟩) NB1146_1127.out _).trans (hHeld.2.2.1)))), ((cell_far (p := ⟨gb1127, _, none⟩) NB1146_1127.out _).trans (((cell_far (p := ⟨gb1127, _, none⟩) NB1146_1127.out _).trans (hHeld.2.2.2))))⟩ (fun hHeld => ?_)
 clear hK K
 refine one_ (i := 3) (N := none) #[true, true, true, true] rfl rfl (by kernel_rfl) (by decide) (fun K hK => ?_)
 have hs27 : w24.cell? ⟨gb1128, 0, none⟩ = some (.int .i64 0) := bc BK1128 0
 have hfs27 := blk_frozen BK1128.out 0; have hns27_0 := NB1127_1128.out; have hns27_2 := NB1139_1128.out; have hns27_3 := NB1146_1128.out; have hms27_0 := NB1128_1127.out; have hms27_2 := NB1128_1139.out; have hms27_3 := NB1128_1146.out
 have hs28 : w24.cell? ⟨gb1128, 1, none⟩ = some (.slice none 0 0) := bc BK1128 1
 have hfs28 := blk_frozen BK1128.out 1; have hns28_0 := NB1127_1128.out; have hns28_2 := NB1139_1128.out; have hns28_3 := NB1146_1128.out; have hms28_0 := NB1128_1127.out; have hms28_2 := NB1128_1139.out; have hms28_3 := NB1128_1146.out
 refine skip_ (w1 := ?_) (by rfl) rfl ?_ ?_
 rotate_left
 ·go_simp
  rfl
 refine hK.out _ _ ⟨((cell_far (p := ⟨gb1128, _, none⟩) NB1139_1128.out _).trans (((cell_far (p := ⟨gb1128, _, none⟩) NB1139_1128.out _).trans (hHeld.1)))), ((cell_far (p := ⟨gb1128, _, none⟩) NB1139_1128.out _).trans (((cell_far (p := ⟨gb1128, _, none⟩) NB1139_1128.out _).trans (hHeld.2.1)))), ((cell_far (p := ⟨gb1128, _, none⟩) NB1146_1128.out _).trans (((cell_far (p := ⟨gb1128, _, none⟩) NB1146_1128.out _).trans (hHeld.2.2.1)))), ((cell_far (p := ⟨gb1128, _, none⟩) NB1146_1128.out _).trans (((cell_far (p := ⟨gb1128, _, none⟩) NB1146_1128.out _).trans (hHeld.2.2.2))))⟩ (fun hHeld => ?_)
 clear hK K
 refine done_ (by kernel_rfl) ?_
 try go_wp2
 refine bodyPost_ret (results_cc rfl _ _ gb1127 gb1128 26 26 #[.int .i64 t1133, .slice Ao14 t1134.length co14] #[.int .i64 t1140, .slice Ao22 t1141.length co22] (0, 0) (0, 0) _ _ rfl (by (with_reducible repeat (first | refine blk_drewN ?_ _ | refine blk_drew ?_ | refine blk_alloc ?_ _)); refine blk_far ?_ NB1127_1128.out _; (with_reducible repeat (first | refine blk_drewN ?_ _ | refine blk_drew ?_ | refine blk_alloc ?_ _)); refine blk_far ?_ NB1127_1128.out _; (with_reducible repeat (first | refine blk_drewN ?_ _ | refine blk_drew ?_ | refine blk_alloc ?_ _)); refine blk_put (cs := #[.int .i64 t1133, .slice none 0 0]) ?_ 1 _ rfl; (with_reducible repeat (first | refine blk_drewN ?_ _ | refine blk_drew ?_ | refine blk_alloc ?_ _)); refine blk_put (cs := #[.int .i64 0, .slice none 0 0]) ?_ 0 _ rfl; (with_reducible repeat (first | refine blk_drewN ?_ _ | refine blk_drew ?_ | refine blk_alloc ?_ _)); exact BK1127.out) Tryd.underlying26 rfl (by kernel_rfl) rfl (by (with_reducible repeat (first | refine blk_drewN ?_ _ | refine blk_drew ?_ | refine blk_alloc ?_ _)); refine blk_put (cs := #[.int .i64 t1140, .slice none 0 0]) ?_ 1 _ rfl; (with_reducible repeat (first | refine blk_drewN ?_ _ | refine blk_drew ?_ | refine blk_alloc ?_ _)); refine blk_put (cs := #[.int .i64 0, .slice none 0 0]) ?_ 0 _ rfl; (with_reducible repeat (first | refine blk_drewN ?_ _ | refine blk_drew ?_ | refine blk_alloc ?_ _)); refine blk_far ?_ NB1128_1127.out _; (with_reducible repeat (first | refine blk_drewN ?_ _ | refine blk_drew ?_ | refine blk_alloc ?_ _)); refine blk_far ?_ NB1128_1127.out _; (with_reducible repeat (first | refine blk_drewN ?_ _ | refine blk_drew ?_ | refine blk_alloc ?_ _)); exact BK1128.out) Tryd.underlying26 rfl (by kernel_rfl)) rfl ?_
 exact ⟨_, _, rz, by (with_reducible repeat (first | apply Kd.R_alloc | apply Kd.R_drewN | apply Kd.R_drew)); exact Kd.R_mono (Kd.R_far (p := ⟨gb1128, 1, none⟩) (Kd.R_far (p := ⟨gb1128, 0, none⟩) (Kd.R_far (p := ⟨gb1127, 1, none⟩) (Kd.R_far (p := ⟨gb1127, 0, none⟩) (Kd.R_types (Kd.R_types HO1136.out BK1127.out (by decide)) BK1128.out (by decide)) (fun _ hk => hk.1.2) (.int .i64 t1133)) (fun _ hk => hk.1.2) (.slice Ao14 t1134.length co14)) (fun _ hk => hk.2) (.int .i64 t1140)) (fun _ hk => hk.2) (.slice Ao22 t1141.length co22)) (fun _ hk => hk.1.1), by (with_reducible repeat (first | apply Kd.R_alloc | apply Kd.R_drewN | apply Kd.R_drew)); exact Kd.R_mono (Kd.R_far (p := ⟨gb1128, 1, none⟩) (Kd.R_far (p := ⟨gb1128, 0, none⟩) (Kd.R_far (p := ⟨gb1127, 1, none⟩) (Kd.R_far (p := ⟨gb1127, 0, none⟩) (Kd.R_types (Kd.R_types HO1143.out BK1127.out (by decide)) BK1128.out (by decide)) (fun _ hk => hk.1.2) (.int .i64 t1133)) (fun _ hk => hk.1.2) (.slice Ao14 t1134.length co14)) (fun _ hk => hk.2) (.int .i64 t1140)) (fun _ hk => hk.2) (.slice Ao22 t1141.length co22)) (fun _ hk => hk.1.1), zQ17ax4⟩
def slices_Clone_int64_int64_133.f (l0 : List Int) : Option (List Int) := if l0.length < 17592186044416 then (some l0) else (none)
set_option maxHeartbeats 8000000 in
set_option maxRecDepth 100000 in
theorem slices_Clone_int64_int64_133.calls (A0 : Option Addr) (c0 : Nat) (l0 : List Int) (r : List Int) (w : World) (hr0 : Kd.C (Kd.int .i64) w A0 l0.length l0) (hc0 : l0.length ≤ c0) (h : slices_Clone_int64_int64_133.f l0 = some r) :
    Calls Tryd.prog 133 #[.slice A0 l0.length c0] w fun e w' => ∃ v0_ : Value, e = .returned (v0_) ∧ Kd.R (Kd.int .i64) 2 w' w.heap.size (fun _ => True) v0_ r ∧ Below w.heap.size w w' := by
  have HR0 := Aside0.mk hr0
  have HC0 := Aside0.mk hc0
  clear hr0 hc0
  have HB := Aside0.mk (Below.refl w.heap.size w)
  have H : (if l0.length < 17592186044416 then (some l0) else (none)) = some r := h
  clear h
  by_cases c2 : l0.length < 17592186044416
  · rw [if_pos c2] at H
    obtain rfl := Option.some.inj H
    have LMc2 := Aside0.mk c2
    clear c2 H
    cases A0 with
    | none =>
      have hl : l0 = [] := by
        cases hh : l0 with
        | nil => rfl
        | cons x t =>
          subst hh
          obtain ⟨ad, e0, _⟩ := Kd.at_int HR0.out 0 (by decide) (by simp)
          cases e0
      subst hl
      have he : ∀ (w : World) (n : Nat), (binOp .eql 24 (.slice none n c0) (.slice none 0 0)).run Tryd.prog w = .ok (.bool true) w := fun _ _ => rfl
      go_enter Tryd.func133, Tryd.ntmps133
      go_wp2
      go_ret
      exact ⟨_, by first | rfl | (simp [errW_none, errW_some] <;> rfl), Kd.R_nil _ _ _ _ _, zQ17ax5⟩
    | some ad0 =>
      obtain ⟨y326, hy326⟩ : ∃ y_ : List Int, y_ = (([] : List Int)) := ⟨_, rfl⟩
      have Ny326 := Aside0.mk hy326
      clear hy326
      have LM2 : Aside0 (y326.length + l0.length < 17592186044416) := ⟨by rw [Ny326.out]; simpa using LMc2.out⟩
      obtain ⟨y329, hy329⟩ : ∃ y_ : List Int, y_ = (y326 ++ l0) := ⟨_, rfl⟩
      have Ny329 := Aside0.mk hy329
      have Nl : Aside0 (y329 = l0) := ⟨by rw [hy329, Ny326.out]; rfl⟩
      clear hy329
      have he : ∀ (w : World) (n : Nat), (binOp .eql 24 (.slice (some ad0) n c0) (.slice none 0 0)).run Tryd.prog w = .ok (.bool false) w := fun _ _ => rfl
      go_enter Tryd.func133, Tryd.ntmps133
      go_wp2_with (first | ((with_reducible refine gate_dst (N := 5) rfl ?_); refine Kd.R_lit (Kd.int .i64) _ 2 ?hg (N := 5) ?hd (xs := ([] : List Int)) (inner := []) (ok := fun _ => True) (okp := fun _ => True) ?hr ?hp (fun _ hk => hk) trivial (Below.refl _ _) (Nat.le_refl _) (by simp) ?_; (case hd => rfl); (case hg => rfl); (case hr => first | (go_simp; done) | (go_simp; rfl)); (case hp => exact (Reps.none _ _)); intro v327 w3 ho4 hb hg_ hnew_; clear hg_ hnew_; (first | rw [← Ny326.out] at ho4 | (simp only [Int.reduceToNat] at ho4; rw [← Ny326.out] at ho4)); have n0_ := Aside0.mk (Kd.R_lower ho4 (below_size (zQ17ax5))); have n1_ := Aside0.mk (below_step (zQ17ax5) hb); clear HB; have HO328 := n0_; have HB := n1_; clear n0_ n1_; clear hb ho4) | ((with_reducible refine gate_builtin (b := .append) (xs := #[.tmp 5, .tmp 6]) rfl ?_); at_builtin; refine Kd.R_append_rows (Kd.int .i64) (w0 := w) w.heap.size rfl (.tmp 5) (.tmp 6) 24 2 (.int .i64 0) 8 rfl Tryd.underlying24 info2 rfl (by decide) (by omega) v327 y326 l0 _ _ _ (fun _ => True) (fun _ => False) rfl rfl ?aO ?aR (fun _ _ h => h) (fun _ h => h.elim) ?aF ?aB ?aS ?aL ?_; (case aR => repeat (first | exact (Kd.C_below HR0.out HB.out) | (with_reducible refine Kd.C_alloc ?_ _) | (with_reducible refine Kd.C_drewN ?_ _) | (with_reducible refine Kd.C_drew ?_))); (case aB => exact (zQ17ax5)); (case aF => exact (fun _ _ => trivial)); (case aO => exact (by (with_reducible repeat (first | apply Kd.R_alloc | apply Kd.R_drewN | apply Kd.R_drew)); exact HO328.out)); (case aS => exact (below_size (zQ17ax5))); (case aL => have := LM2.out; omega); intro v330 w5 ho hb hg hat; rw [← Ny329.out] at ho; have n0_ := Aside0.mk (hb); have n1_ := Aside0.mk (ho); clear HB; clear HO328; have HB := n0_; have HO331 := n1_; clear n0_ n1_; clear ho hb hg hat))
      go_ret
      rw [← Nl.out]
      exact ⟨_, by first | rfl | (simp [errW_none, errW_some] <;> rfl) | (simp [*, errW_none, errW_some] <;> rfl), by (with_reducible repeat (first | apply Kd.R_alloc | apply Kd.R_drewN | apply Kd.R_drew)); exact HO331.out, zQ17ax5⟩
  · rw [if_neg c2] at H
    exact absurd H (by simp)
def impl_Alphabet_tie.f (a0_0 : Int) (l0_1 : List Int) (a1 : Int) (a2 : Int) : Option (List Int) := if 0 ≤ a1 then (if a1 < (l0_1.length : Int) then ((impl_one.f a2).bind fun t1149 => ((some (l0_1.set (a1 : Int).toNat (Go.bits .or .i64 (rd l0_1 a1) t1149) : List Int)).bind fun y1150 => (if 0 ≤ a2 then (if a2 < (l0_1.length : Int) then ((impl_one.f a1).bind fun t1152 => (some (y1150.set (a2 : Int).toNat (Go.bits .or .i64 (rd y1150 a2) t1152)))) else (none)) else (none)))) else (none)) else (none)
def impl_Alphabet_tie.T1 : Bool × List (List Nat × List Nat) := (true, [([], []), ([0], [0]), ([], []), ([1, 2], [1, 2]), ([3], [3]), ([], []), ([5], [5]), ([4, 6], [4, 6]), ([1, 2, 0, 1, 2, 3, 4, 5, 6, 7], [1, 2]), ([8, 7, 6, 0, 1, 2, 3, 4, 5, 6, 7], [7, 8])])
def impl_Alphabet_tie.B1 : List Nat := [0, 1, 0, 7, 15, 0, 32, 127, 255, 511]
theorem impl_Alphabet_tie.tab1 : rtab .any (opsOf Tryd.f134 1) = impl_Alphabet_tie.T1 := by kernel_rfl
theorem impl_Alphabet_tie.bits1 : waitsOk impl_Alphabet_tie.T1.2 impl_Alphabet_tie.B1 = true := by kernel_rfl
def impl_Alphabet_tie.T2 : Bool × List (List Nat × List Nat) := (true, [([], []), ([0], [0]), ([], []), ([1, 2], [1, 2]), ([3], [3]), ([], []), ([5], [5]), ([4, 6], [4, 6]), ([1, 2, 0, 1, 2, 3, 4, 5, 6, 7], [1, 2]), ([8, 7, 6, 0, 1, 2, 3, 4, 5, 6, 7], [7, 8])])
def impl_Alphabet_tie.B2 : List Nat := [0, 1, 0, 7, 15, 0, 32, 127, 255, 511]
theorem impl_Alphabet_tie.tab2 : rtab .any (opsOf Tryd.f134 2) = impl_Alphabet_tie.T2 := by kernel_rfl
theorem impl_Alphabet_tie.bits2 : waitsOk impl_Alphabet_tie.T2.2 impl_Alphabet_tie.B2 = true := by kernel_rfl
set_option maxHeartbeats 8000000 in
set_option maxRecDepth 100000 in
theorem impl_Alphabet_tie.calls (a0_0 : Int) (P0_1_ : Nat → Prop) (u9000_ : Value) (l0_1 : List Int) (a1 : Int) (a2 : Int) (r : List Int) (w0 w : World) (hB : Below w0.heap.size w0 w) (ho0_1 : Kd.R (Kd.int .i64) 2 w w0.heap.size P0_1_ u9000_ l0_1) (h : impl_Alphabet_tie.f a0_0 l0_1 a1 a2 = some r) :
  Calls Tryd.prog 134 #[.agg #[.int .i64 a0_0, u9000_], .int .i64 a1, .int .i64 a2] w fun e w' => e = .returned (.tuple #[]) ∧ Kd.R (Kd.int .i64) 2 w' w0.heap.size (fun k_ => (P0_1_ k_ ∨ w.heap.size ≤ k_)) u9000_ r ∧ Below w0.heap.size w0 w' ∧ Kept w w' (fun k_ => P0_1_ k_) := by
 have hu26 := Tryd.underlying26; have HO0_1 := Aside0.mk (show Kd.R (Kd.int .i64) 2 w w0.heap.size (fun k_ => (P0_1_ k_ ∨ w.heap.size ≤ k_)) u9000_ l0_1 from Kd.R_mono ho0_1 (fun k_ hk => (.inl hk))); have HK := Aside0.mk (Kept.refl w (fun k_ => P0_1_ k_)); have HW0 := Aside0.mk hB.size; have HB := Aside0.mk hB; clear hB
 have H : (if 0 ≤ a1 then (if a1 < (l0_1.length : Int) then ((impl_one.f a2).bind fun t1149 => ((some (l0_1.set (a1 : Int).toNat (Go.bits .or .i64 (rd l0_1 a1) t1149) : List Int)).bind fun y1150 => (if 0 ≤ a2 then (if a2 < (l0_1.length : Int) then ((impl_one.f a1).bind fun t1152 => (some (y1150.set (a2 : Int).toNat (Go.bits .or .i64 (rd y1150 a2) t1152)))) else (none)) else (none)))) else (none)) else (none)) = some r := h
 clear h
 by_cases c4 : 0 ≤ a1
 ·rw [if_pos c4] at H
  have c4b0 : decide (0 ≤ a1) = true := decide_eq_true c4
  clear c4
  by_cases c5 : a1 < (l0_1.length : Int)
  ·rw [if_pos c5] at H
   have c5b0 : decide (a1 < (l0_1.length : Int)) = true := decide_eq_true c5
   clear c5; replace H := Option.bind_eq_some_iff.mp H; obtain ⟨t1149, A60, H⟩ := H
   replace H : ((some (l0_1.set (a1 : Int).toNat (Go.bits .or .i64 (rd l0_1 a1) t1149) : List Int)).bind fun y1150 => (if 0 ≤ a2 then (if a2 < (l0_1.length : Int) then ((impl_one.f a1).bind fun t1152 => (some (y1150.set (a2 : Int).toNat (Go.bits .or .i64 (rd y1150 a2) t1152)))) else (none)) else (none))) = some r := H
   have A6 := Aside0.mk A60; clear A60
   obtain ⟨y1150, hy1150⟩ : ∃ y_ : List Int, y_ = (l0_1.set (a1 : Int).toNat (Go.bits .or .i64 (rd l0_1 a1) t1149)) := ⟨_, rfl⟩
   replace H : (if 0 ≤ a2 then (if a2 < (l0_1.length : Int) then ((impl_one.f a1).bind fun t1152 => (some (y1150.set (a2 : Int).toNat (Go.bits .or .i64 (rd y1150 a2) t1152)))) else (none)) else (none)) = some r := by first | (rw [hy1150]; with_reducible exact H) | (have H2_ := (Option.bind_some _ _).symm.trans H; rw [hy1150]; with_reducible exact H2_) | (have H2_ := (Option.bind_some _ _).symm.trans H; with_reducible exact H2_) | with_reducible exact H | (rw [hy1150]; exact H) | exact H
   have Ny1150 := Aside0.mk hy1150; clear hy1150
   by_cases c8 : 0 ≤ a2
   ·rw [if_pos c8] at H
    have c8b0 : decide (0 ≤ a2) = true := decide_eq_true c8
    clear c8
    by_cases c9 : a2 < (l0_1.length : Int)
    ·rw [if_pos c9] at H
     have c9b0 : decide (a2 < (l0_1.length : Int)) = true := decide_eq_true c9
     clear c9; replace H := Option.bind_eq_some_iff.mp H; obtain ⟨t1152, A100, H⟩ := H
     replace H : (some (y1150.set (a2 : Int).toNat (Go.bits .or .i64 (rd y1150 a2) t1152))) = some r := H
     have A10 := Aside0.mk A100; clear A100
     obtain ⟨y1153, hy1153⟩ : ∃ y_ : List Int, y_ = (y1150.set (a2 : Int).toNat (Go.bits .or .i64 (rd y1150 a2) t1152)) := ⟨_, rfl⟩
     replace H : (some y1153) = some r := by first | (rw [hy1153]; with_reducible exact H) | (have H2_ := (Option.bind_some _ _).symm.trans H; rw [hy1153]; with_reducible exact H2_) | (have H2_ := (Option.bind_some _ _).symm.trans H; with_reducible exact H2_) | with_reducible exact H | (rw [hy1153]; exact H) | exact H
     have Ny1153 := Aside0.mk hy1153; clear hy1153
     obtain rfl := Option.some.inj H
     obtain ⟨Ao12, co12, eo12⟩ := Kd.R_slice HO0_1.out; subst eo12
     go_enter Tryd.func134, Tryd.ntmps134
     try go_wp2_with (first | ((with_reducible refine gate_dst (N := 3) rfl ?_); refine box_event ?hg (N := 3) ?hd (cs := #[.int .i64 a0_0, .slice Ao12 l0_1.length co12]) (t := 26) ?hr ?_; (case hd => rfl); (case hg => rfl); (case hr => first | (go_simp; done) | (go_simp; rfl)); intro gb1147 hg w13 hbox hb; replace HO0_1 := Aside0.mk (Kd.R_below (by (with_reducible repeat (first | apply Kd.R_alloc | apply Kd.R_drewN | apply Kd.R_drew)); exact HO0_1.out) hb); have BK1147 := Aside0.mk (hbox); have GW1147 := Aside0.mk ((by rw [hg]; exact (by first | exact HK.out.1 | exact (show Kept w _ (fun k_ => P0_1_ k_) from zQ17ax6).1) : w.heap.size ≤ gb1147)); replace HK := Aside0.mk (Kept.below (S := (fun k_ => P0_1_ k_)) (zQ17ax6) hb); have GE1147 := Aside0.mk ((by rw [hg]; exact (below_size (beQ HB)) : w0.heap.size ≤ gb1147)); replace HB := Aside0.mk (below_step (beQ HB) hb); clear hb hbox hg))
     replace HO0_1 := Aside0.mk (Kd.R_drew HO0_1.out); replace BK1147 := Aside0.mk (blk_drew BK1147.out); replace HK := Aside0.mk (Kept.drew HK.out); replace HB := Aside0.mk (below_drew1 HB.out)
     have p1148 : 0 ≤ (a1 : Int) := of_decide_eq_true (by first | (with_reducible assumption) | assumption)
     have q1148 : a1 < (l0_1.length : Int) := of_decide_eq_true (by first | (with_reducible assumption) | assumption)
     obtain ⟨ad1148, e1148, hx1148_0⟩ := Kd.at_int (Kd.R_reads' HO0_1.out).2.2 a1 p1148 q1148; cases e1148; replace p1148 := eq_true p1148; replace q1148 := eq_true q1148
     refine start_ (n := 10) (S := fun w' => w'.cell? ⟨gb1147, 0, none⟩ = some (.int .i64 a0_0) ∧ w'.cell? ⟨gb1147, 1, none⟩ = some (.slice (some ad1148) l0_1.length co12) ∧ w'.cell? (ad1148.add (a1).toNat) = some (.int .i64 (rd l0_1 a1))) (ds := [9]) #[false, false, false, false, false, false, false, false, false, false] (by kernel_rfl) rfl rfl ⟨bc BK1147 0, bc BK1147 1, hx1148_0⟩ (fun hHeld => ?_); refine with_tabW impl_Alphabet_tie.tab1 impl_Alphabet_tie.bits1 (fun HT_ HW_ => ?_)
     generalize w13.drew = w14 at HO0_1 BK1147 HK HB hx1148_0 hHeld ⊢
     refine pure_ (i := 0) (N := some 6) (v := ?_) (a' := ?_) #[true, false, false, false, false, false, false, false, false, false] rfl rfl (any_of HT_.out (by kernel_rfl)) (fun _ _ _ h => h) (Or.inl ⟨by rfl, ?_⟩) ?_ ?_
     rotate_left
     ·intro w'
      go_simp
      with_reducible rfl
     rotate_left
     ·simp only [Act.put, s1, s2, s3, i64_w, i32_w]
      rfl
     refine pure_ (i := 2) (N := some 8) (v := ?_) (a' := ?_) #[true, false, true, false, false, false, false, false, false, false] rfl rfl (any_of HT_.out (by kernel_rfl)) (fun _ _ _ h => h) (Or.inl ⟨by rfl, ?_⟩) ?_ ?_
     rotate_left
     ·intro w'
      go_simp
      with_reducible rfl
     rotate_left
     ·simp only [Act.put, s1, s2, s3, i64_w, i32_w]
      rfl
     refine pure_ (i := 5) (N := some 11) (v := ?_) (a' := ?_) #[true, false, true, false, false, true, false, false, false, false] rfl rfl (any_of HT_.out (by kernel_rfl)) (fun _ _ _ h => h) (Or.inl ⟨by rfl, ?_⟩) ?_ ?_
     rotate_left
     ·intro w'
      go_simp
      with_reducible rfl
     rotate_left
     ·simp only [Act.put, s1, s2, s3, i64_w, i32_w]
      rfl
     refine take_ (i := 1) (N := some 7) (v := ?_) (a' := ?_) #[true, true, true, false, false, true, false, false, false, false] rfl rfl (take_ofW HT_.out HW_.out (by kernel_rfl)) (fun _ _ _ h => h) (Or.inl ⟨by rfl, ?_⟩) hHeld ?_ ?_
     rotate_left
     ·rintro w' ⟨s0, s1, s2⟩
      go_simp
      with_reducible rfl
     rotate_left
     ·simp only [Act.put, s1, s2, s3, i64_w, i32_w]
      rfl
     refine pure_ (i := 3) (N := some 9) (v := ?_) (a' := ?_) #[true, true, true, true, false, true, false, false, false, false] rfl rfl (any_of HT_.out (by kernel_rfl)) (fun _ _ _ h => h) (Or.inl ⟨by rfl, ?_⟩) ?_ ?_
     rotate_left
     ·intro w'
      go_simp
      with_reducible rfl
     rotate_left
     ·simp only [Act.put, s1, s2, s3, i64_w, i32_w]
      rfl
     refine take_ (i := 4) (N := some 10) (v := ?_) (a' := ?_) #[true, true, true, true, true, true, false, false, false, false] rfl rfl (take_ofW HT_.out HW_.out (by kernel_rfl)) (fun _ _ _ h => h) (Or.inl ⟨by rfl, ?_⟩) hHeld ?_ ?_
     rotate_left
     ·rintro w' ⟨s0, s1, s2⟩
      go_simp
      with_reducible rfl
     rotate_left
     ·simp only [Act.put, s1, s2, s3, i64_w, i32_w]
      rfl
     refine one_ (i := 6) (N := some 12) #[true, true, true, true, true, true, true, false, false, false] rfl rfl (one_of HT_.out (by kernel_rfl)) (by decide) (fun K hK => ?_)
     refine goes_ Tryd.func121 (by kernel_rfl) rfl #[.int .i64 a2] (by rfl) rfl rfl lz ?_
     with_reducible refine (impl_one.calls a2 t1149 _ A6.out).mono ?_
     rintro e w' ⟨rfl, ⟨nd, rfl⟩⟩
     refine ⟨_, rfl, ?_⟩
     have p7 : 0 ≤ (a1 : Int) := of_decide_eq_true (by first | (with_reducible assumption) | assumption)
     have q7 : (a1 : Int) < ((l0_1.length : Int) : Int) := of_decide_eq_true (by first | (with_reducible assumption) | assumption)
     obtain ⟨go7, co7, eo7, gb7, gl7, cl7, HG7⟩ := Kd.R_form HO0_1.out (by omega)
     (first | cases eo7 | (injection eo7 with ea_ en_ ec_; (first | subst ea_ | (injection ea_ with ea_; subst ea_)); subst ec_; clear en_))
     have GB7 := Aside0.mk gb7; have GG7 := Aside0.mk HG7; clear gb7 gl7 HG7; have HMgo7 := Aside0.mk (show (P0_1_ go7 ∨ w.heap.size ≤ go7) from (HO0_1.out.1 _ rfl))
     (first | simp only [add_plain] at hx1148_0 | skip)
     obtain ⟨hx7_0, hf7_0⟩ := Kd.R_celln 0 HO0_1.out (a1 : Int) p7 q7; replace p7 := eq_true p7; replace q7 := eq_true q7; have HP15 := Kd.R_putn HO0_1.out (a1 : Int) (Go.bits .or .i64 (rd l0_1 a1) t1149); rw [← Ny1150.out] at HP15; have HQ15 := Aside0.mk HP15; clear HP15
     refine hK.out _ _ ⟨bc BK1147 0, bc BK1147 1, hHeld.2.2⟩ (fun hHeld => ?_)
     clear hK K
     refine norm_ (a' := ?_) ?_ ?_
     rotate_left
     ·show Act.put _ (some 12) _ = _
      simp only [Act.put, s1, s2, s3, i64_w, i32_w]
      rfl
     refine pure_ (i := 7) (N := some 13) (v := ?_) (a' := ?_) #[true, true, true, true, true, true, true, true, false, false] rfl rfl (any_of HT_.out (by kernel_rfl)) (fun _ _ _ h => h) (Or.inl ⟨by rfl, ?_⟩) ?_ ?_
     rotate_left
     ·intro w'
      go_simp
      with_reducible rfl
     rotate_left
     ·simp only [Act.put, s1, s2, s3, i64_w, i32_w]
      rfl
     refine pure_ (i := 8) (N := some 14) (v := ?_) (a' := ?_) #[true, true, true, true, true, true, true, true, true, false] rfl rfl (any_of HT_.out (by kernel_rfl)) (fun _ _ _ h => h) (Or.inl ⟨by rfl, ?_⟩) ?_ ?_
     rotate_left
     ·intro w'
      go_simp
      with_reducible rfl
     rotate_left
     ·simp only [Act.put, s1, s2, s3, i64_w, i32_w]
      rfl
     refine last_ (i := 9) (N := none) #[true, true, true, true, true, true, true, true, true, true] rfl rfl (one_of HT_.out (by kernel_rfl)) (by decide) (fun K hK => ?_)
     refine skip_ (w1 := ?_) (by rfl) rfl ?_ ?_
     rotate_left
     ·go_simp
      rfl
     refine hK.out _ _ ?_
     clear hK K
     refine done_ (done_of HT_.out (by kernel_rfl)) ?_
     try go_wp2
     have n0_ : Aside0 (Kd.R (Kd.int .i64) 2 (w14.setCell ⟨go7, (a1 : Int).toNat, none⟩ (.int .i64 (Go.bits .or .i64 (rd l0_1 a1) t1149))) w0.heap.size (fun k_ => (P0_1_ k_ ∨ w.heap.size ≤ k_)) (.slice (some ⟨go7, 0, none⟩) l0_1.length co12) y1150) := ⟨by (with_reducible repeat (first | apply Kd.R_alloc | apply Kd.R_drewN | apply Kd.R_drew)); exact HQ15.out⟩
     have n1_ : Aside0 ((w14.setCell ⟨go7, (a1 : Int).toNat, none⟩ (.int .i64 (Go.bits .or .i64 (rd l0_1 a1) t1149))).heap[gb1147]? = some (.cells #[.int .i64 a0_0, .slice (some ⟨go7, 0, none⟩) l0_1.length co12] 26 (0, 0))) := ⟨by (with_reducible repeat (first | refine blk_drewN ?_ _ | refine blk_drew ?_ | refine blk_alloc ?_ _)); refine blk_far ?_ (by have h_ := Kd.R_ne HO0_1.out BK1147.out (by decide); intro e_; exact h_ (by rw [e_]; rfl)) _; (with_reducible repeat (first | refine blk_drewN ?_ _ | refine blk_drew ?_ | refine blk_alloc ?_ _)); exact BK1147.out⟩
     have n2_ : Aside0 (Kept w (w14.setCell ⟨go7, (a1 : Int).toNat, none⟩ (.int .i64 (Go.bits .or .i64 (rd l0_1 a1) t1149))) (fun k_ => P0_1_ k_)) := ⟨zQ17ax7⟩
     have n3_ : Aside0 (Below w0.heap.size w0 (w14.setCell ⟨go7, (a1 : Int).toNat, none⟩ (.int .i64 (Go.bits .or .i64 (rd l0_1 a1) t1149)))) := ⟨zQ17ax8⟩
     (try clear HO0_1)
     (try clear BK1147)
     (try clear HK)
     (try clear HB)
     (try simp only [drewN_set])
     generalize (w14.setCell ⟨go7, (a1 : Int).toNat, none⟩ (.int .i64 (Go.bits .or .i64 (rd l0_1 a1) t1149))) = w16 at n0_ n1_ n2_ n3_ ⊢
     have HO0_1 := n0_; have BK1147 := n1_; have HK := n2_; have HB := n3_; clear n0_ n1_ n2_ n3_
     (try (rw [drewN_self w16]; generalize hq_ : World.drewN w16 _ = w16; have n0_ : Aside0 (Kd.R (Kd.int .i64) 2 w16 w0.heap.size (fun k_ => (P0_1_ k_ ∨ w.heap.size ≤ k_)) (.slice (some ⟨go7, 0, none⟩) l0_1.length co12) y1150) := ⟨by rw [← hq_]; exact (by (with_reducible repeat (first | apply Kd.R_alloc | apply Kd.R_drewN | apply Kd.R_drew)); exact HO0_1.out)⟩; have n1_ : Aside0 (w16.heap[gb1147]? = some (.cells #[.int .i64 a0_0, .slice (some ⟨go7, 0, none⟩) l0_1.length co12] 26 (0, 0))) := ⟨by rw [← hq_]; exact (blkQ BK1147)⟩; have n2_ : Aside0 (Kept w w16 (fun k_ => P0_1_ k_)) := ⟨by rw [← hq_]; exact (by repeat (first | (with_reducible first | exact HK.out | apply Kept.alloc | apply Kept.drewN | apply Kept.drew | refine Kept.setCell ?_ (.inr GW1147.out) _) | exact HK.out))⟩; have n3_ : Aside0 (Below w0.heap.size w0 w16) := ⟨by rw [← hq_]; exact (beQ HB)⟩; clear HO0_1 BK1147 HK HB hq_; have HO0_1 := n0_; have BK1147 := n1_; have HK := n2_; have HB := n3_; clear n0_ n1_ n2_ n3_))
     replace HO0_1 := Aside0.mk (Kd.R_drew HO0_1.out); replace BK1147 := Aside0.mk (blk_drew BK1147.out); replace HK := Aside0.mk (Kept.drew HK.out); replace HB := Aside0.mk (below_drew1 HB.out)
     have p1151 : 0 ≤ (a2 : Int) := of_decide_eq_true (by first | (with_reducible assumption) | assumption)
     have q1151 : a2 < (y1150.length : Int) := (by have h_ : (a2 : Int) < ((l0_1.length : Int) : Int) := of_decide_eq_true (by first | (with_reducible assumption) | assumption); first | (have e_ := (Kd.R_reads' HO0_1.out).1; omega) | simpa only [Ny1150.out, List.length_set] using h_)
     have ql1151 : ((a2 : Int) < ((l0_1.length : Int) : Int)) = True := eq_true (of_decide_eq_true (by first | (with_reducible assumption) | assumption))
     obtain ⟨ad1151, e1151, hx1151_0⟩ := Kd.at_int (Kd.R_reads' HO0_1.out).2.2 a2 p1151 q1151
     obtain rfl : (⟨go7, 0, none⟩ : Addr) = ad1151 := (by injection e1151)
     (first | simp only [add_plain] at hx1151_0 | simp only [add_at] at hx1151_0 | simp only [Addr.add, Nat.zero_add] at hx1151_0 | skip)
     replace p1151 := eq_true p1151; replace q1151 := eq_true q1151
     refine start_ (n := 10) (S := fun w' => w'.cell? ⟨gb1147, 0, none⟩ = some (.int .i64 a0_0) ∧ w'.cell? ⟨gb1147, 1, none⟩ = some (.slice (some ⟨go7, 0, none⟩) l0_1.length co12) ∧ w'.cell? ⟨go7, (a2).toNat, none⟩ = some (.int .i64 (rd y1150 a2))) (ds := [9]) #[false, false, false, false, false, false, false, false, false, false] (by kernel_rfl) rfl rfl ⟨bc BK1147 0, bc BK1147 1, hx1151_0⟩ (fun hHeld => ?_); refine with_tabW impl_Alphabet_tie.tab2 impl_Alphabet_tie.bits2 (fun HT_ HW_ => ?_)
     generalize w16.drew = w17 at HO0_1 BK1147 HK HB HQ15 hx1151_0 hHeld ⊢
     refine pure_ (i := 0) (N := some 15) (v := ?_) (a' := ?_) #[true, false, false, false, false, false, false, false, false, false] rfl rfl (any_of HT_.out (by kernel_rfl)) (fun _ _ _ h => h) (Or.inl ⟨by rfl, ?_⟩) ?_ ?_
     rotate_left
     ·intro w'
      go_simp
      with_reducible rfl
     rotate_left
     ·simp only [Act.put, s1, s2, s3, i64_w, i32_w]
      rfl
     refine pure_ (i := 2) (N := some 17) (v := ?_) (a' := ?_) #[true, false, true, false, false, false, false, false, false, false] rfl rfl (any_of HT_.out (by kernel_rfl)) (fun _ _ _ h => h) (Or.inl ⟨by rfl, ?_⟩) ?_ ?_
     rotate_left
     ·intro w'
      go_simp
      with_reducible rfl
     rotate_left
     ·simp only [Act.put, s1, s2, s3, i64_w, i32_w]
      rfl
     refine pure_ (i := 5) (N := some 20) (v := ?_) (a' := ?_) #[true, false, true, false, false, true, false, false, false, false] rfl rfl (any_of HT_.out (by kernel_rfl)) (fun _ _ _ h => h) (Or.inl ⟨by rfl, ?_⟩) ?_ ?_
     rotate_left
     ·intro w'
      go_simp
      with_reducible rfl
     rotate_left
     ·simp only [Act.put, s1, s2, s3, i64_w, i32_w]
      rfl
     refine take_ (i := 1) (N := some 16) (v := ?_) (a' := ?_) #[true, true, true, false, false, true, false, false, false, false] rfl rfl (take_ofW HT_.out HW_.out (by kernel_rfl)) (fun _ _ _ h => h) (Or.inl ⟨by rfl, ?_⟩) hHeld ?_ ?_
     rotate_left
     ·rintro w' ⟨s0, s1, s2⟩
      go_simp
      with_reducible rfl
     rotate_left
     ·simp only [Act.put, s1, s2, s3, i64_w, i32_w]
      rfl
     refine pure_ (i := 3) (N := some 18) (v := ?_) (a' := ?_) #[true, true, true, true, false, true, false, false, false, false] rfl rfl (any_of HT_.out (by kernel_rfl)) (fun _ _ _ h => h) (Or.inl ⟨by rfl, ?_⟩) ?_ ?_
     rotate_left
     ·intro w'
      go_simp
      with_reducible rfl
     rotate_left
     ·simp only [Act.put, s1, s2, s3, i64_w, i32_w]
      rfl
     refine take_ (i := 4) (N := some 19) (v := ?_) (a' := ?_) #[true, true, true, true, true, true, false, false, false, false] rfl rfl (take_ofW HT_.out HW_.out (by kernel_rfl)) (fun _ _ _ h => h) (Or.inl ⟨by rfl, ?_⟩) hHeld ?_ ?_
     rotate_left
     ·rintro w' ⟨s0, s1, s2⟩
      go_simp
      with_reducible rfl
     rotate_left
     ·simp only [Act.put, s1, s2, s3, i64_w, i32_w]
      rfl
     refine one_ (i := 6) (N := some 21) #[true, true, true, true, true, true, true, false, false, false] rfl rfl (one_of HT_.out (by kernel_rfl)) (by decide) (fun K hK => ?_)
     refine goes_ Tryd.func121 (by kernel_rfl) rfl #[.int .i64 a1] (by rfl) rfl rfl lz ?_
     with_reducible refine (impl_one.calls a1 t1152 _ A10.out).mono ?_
     rintro e w' ⟨rfl, ⟨nd, rfl⟩⟩
     refine ⟨_, rfl, ?_⟩
     have p11 : 0 ≤ (a2 : Int) := of_decide_eq_true (by first | (with_reducible assumption) | assumption)
     have q11 : (a2 : Int) < ((l0_1.length : Int) : Int) := of_decide_eq_true (by first | (with_reducible assumption) | assumption)
     obtain ⟨hx11_0, hf11_0⟩ := Kd.R_celln 0 HO0_1.out (a2 : Int) p11 q11; replace p11 := eq_true p11; replace q11 := eq_true q11; have HP18 := Kd.R_putn HO0_1.out (a2 : Int) (Go.bits .or .i64 (rd y1150 a2) t1152); rw [← Ny1153.out] at HP18; have HQ18 := Aside0.mk HP18; clear HP18
     refine hK.out _ _ ⟨bc BK1147 0, bc BK1147 1, hHeld.2.2⟩ (fun hHeld => ?_)
     clear hK K
     refine norm_ (a' := ?_) ?_ ?_
     rotate_left
     ·show Act.put _ (some 21) _ = _
      simp only [Act.put, s1, s2, s3, i64_w, i32_w]
      rfl
     refine pure_ (i := 7) (N := some 22) (v := ?_) (a' := ?_) #[true, true, true, true, true, true, true, true, false, false] rfl rfl (any_of HT_.out (by kernel_rfl)) (fun _ _ _ h => h) (Or.inl ⟨by rfl, ?_⟩) ?_ ?_
     rotate_left
     ·intro w'
      go_simp
      with_reducible rfl
     rotate_left
     ·simp only [Act.put, s1, s2, s3, i64_w, i32_w]
      rfl
     refine pure_ (i := 8) (N := some 23) (v := ?_) (a' := ?_) #[true, true, true, true, true, true, true, true, true, false] rfl rfl (any_of HT_.out (by kernel_rfl)) (fun _ _ _ h => h) (Or.inl ⟨by rfl, ?_⟩) ?_ ?_
     rotate_left
     ·intro w'
      go_simp
      with_reducible rfl
     rotate_left
     ·simp only [Act.put, s1, s2, s3, i64_w, i32_w]
      rfl
     refine last_ (i := 9) (N := none) #[true, true, true, true, true, true, true, true, true, true] rfl rfl (one_of HT_.out (by kernel_rfl)) (by decide) (fun K hK => ?_)
     refine skip_ (w1 := ?_) (by rfl) rfl ?_ ?_
     rotate_left
     ·go_simp
      rfl
     refine hK.out _ _ ?_
     clear hK K
     refine done_ (done_of HT_.out (by kernel_rfl)) ?_
     try go_wp2
     first | go_end0 | ((try simp only [Exit.inBlock, Exit.then]); refine bodyPost_ret (results_none rfl _ _ _) rfl ?_)
     exact ⟨rz, by (with_reducible repeat (first | apply Kd.R_alloc | apply Kd.R_drewN | apply Kd.R_drew)); exact HQ18.out, zQ17ax8, zQ17ax7⟩
    ·rw [if_neg c9] at H
     exact absurd H (by simp)
   ·rw [if_neg c8] at H
    exact absurd H (by simp)
  ·rw [if_neg c5] at H
   exact absurd H (by simp)
 ·rw [if_neg c4] at H
  exact absurd H (by simp)
end Go.Proofs.YtleeihpmniabhaaDoor.G
