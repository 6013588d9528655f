-- A copy, with what one law needs, of a text that print.sh or a program of ours wrote
import Derived.Test.YtdcggbkbcackaaaDoorZ1G0
import Derived.Test.YtdcggbkbcackaaaDoorZ1GQ01b
import Derived.Test.YtdcggbkbcackaaaDoorZ1GQ01f
import Derived.Test.YtdcggbkbcackaaaDoorZ1GQ02a
import Derived.Test.YtdcggbkbcackaaaDoorZ1GQ02d
import Derived.Test.YtdcggbkbcackaaaDoorZ1GQ02e
import Derived.Test.YtdcggbkbcackaaaDoorZ1GQ02f
namespace Go.Proofs.YtdcggbkbcackaaaDoor.G
open Go.RowKit Go.Proofs.YtdcggbkbcackaaaDoorW.PrintWords Go.Proofs.YtdcggbkbcackaaaDoorW.PrintLast Go.Proofs.YtdcggbkbcackaaaDoorW.PrintMore
theorem zLFnProcessesx0 {p : Prop} (h : p := by first | exact ⟨rfl, _, World.drewN_drewN _ _ _⟩ | exact ⟨rfl, _, Eq.trans (World.drewN_drewN _ _ _) (congrArg (World.drewN _) (Nat.add_assoc _ _ _))⟩) : p := h
attribute [local go_sem] max2_int min2_int max_two min_two max_three min_three max_four min_four   -- for this text's walks alone
set_option linter.unusedVariables false
set_option linter.unusedSimpArgs false
mutual
def laws_FnProcesses.j0 : Nat → List Int → Int → Bool → Int → List Int → Option (Bool)
 | 0, _, _, _, _, _ => none
 | k + 1, x4, x5, x38, x553000, x553001 => if x38 = true then (some false) else (if x5 = 0 then ((impl_AlphabetOfProcesses.f k x553000 x4).bind fun bt562 => ((impl_DomainsOf.f k x553000 x4).bind fun bt568 => (if bt562.2.2 = 0 then (if bt568.2 = 0 then ((laws_likeAlphabet5.f k bt562.1 bt562.2.1 x553000 x553001).bind fun t572 => (if t572 = true then (laws_FnProcesses.j1 k bt568.1 ((bt568.1.length : Int) != x553000) x553000 x553001) else (laws_FnProcesses.j1 k bt568.1 true x553000 x553001))) else (laws_FnProcesses.j1 k bt568.1 true x553000 x553001)) else (laws_FnProcesses.j1 k bt568.1 true x553000 x553001)))) else (some true))
def laws_FnProcesses.j1 : Nat → List Int → Bool → Int → List Int → Option (Bool)
 | 0, _, _, _, _ => none
 | k + 1, x10, x73, x553000, x553001 => if x73 = true then (some false) else (laws_FnProcesses.l0 k x10 0 x553000 x553001)
def laws_FnProcesses.l0 : Nat → List Int → Int → Int → List Int → Option (Bool)
 | 0, _, _, _, _ => none
 | k + 1, x10, x12, x553000, x553001 => if x12 < x553000 then (laws_FnProcesses.l1 k x10 x12 0 x553000 x553001) else (some true)
def laws_FnProcesses.l1 : Nat → List Int → Int → Int → Int → List Int → Option (Bool)
 | 0, _, _, _, _, _ => none
 | k + 1, x10, x12, x13, x553000, x553001 => if x13 < x553000 then ((impl_AreDependent.f k x553000 x553001 x12 x13).bind fun bt573 => (if bt573.2 = 0 then (if 0 ≤ x12 then (if x12 < (x10.length : Int) then (if 0 ≤ x13 then (if x13 < (x10.length : Int) then (if (bt573.1 != ((Go.bits .and .i64 (rd x10 x12) (rd x10 x13)) != 0)) = true then (some false) else (laws_FnProcesses.l1 k x10 x12 (wrap64 (x13 + 1)) x553000 x553001)) else (none)) else (none)) else (none)) else (none)) else (some false))) else (laws_FnProcesses.l0 k x10 (wrap64 (x12 + 1)) x553000 x553001)
end
def laws_FnProcesses.f (k : Nat) (l0 : List Int) : Option (Bool) := (laws_big.f l0).bind fun t547 => (if t547 = true then (some true) else ((spec_DrawProcessesOf.f k l0).bind fun bt548 => ((impl_ProcessesOf.f k bt548.1 bt548.2).bind fun bt553 => ((spec_ProcessesOf.f k bt548.1 bt548.2).bind fun bt557 => (if bt553.2 = bt557.2 then ((laws_likeInts.f k bt553.1 bt557.1).bind fun t561 => (laws_FnProcesses.j0 k bt553.1 bt553.2 (!t561) bt548.1 bt548.2)) else (laws_FnProcesses.j0 k bt553.1 bt553.2 true bt548.1 bt548.2))))))
set_option maxHeartbeats 8000000 in
set_option maxRecDepth 100000 in
theorem laws_FnProcesses.calls (k : Nat) (A0 : Option Addr) (c0 : Nat) (l0 : List Int) (r : Bool) (w : World) (hr0 : Kd.C (Kd.int .u8) w A0 l0.length l0) (hc0 : l0.length ≤ c0) (hT : TabW w) (h : laws_FnProcesses.f k l0 = some r) :
  Calls Tryd.prog 4 #[.slice A0 l0.length c0] w fun e w' => e = .returned (.bool r) ∧ Below w.heap.size w w' := by
 have hu28 := Tryd.underlying28; have HT := Aside0.mk hT; clear hT; have HR0 := Aside0.mk hr0; have HC0 := Aside0.mk hc0; clear hr0 hc0; have HB := Aside0.mk (Below.refl w.heap.size w)
 have H : ((laws_big.f l0).bind fun t547 => (if t547 = true then (some true) else ((spec_DrawProcessesOf.f k l0).bind fun bt548 => ((impl_ProcessesOf.f k bt548.1 bt548.2).bind fun bt553 => ((spec_ProcessesOf.f k bt548.1 bt548.2).bind fun bt557 => (if bt553.2 = bt557.2 then ((laws_likeInts.f k bt553.1 bt557.1).bind fun t561 => (laws_FnProcesses.j0 k bt553.1 bt553.2 (!t561) bt548.1 bt548.2)) else (laws_FnProcesses.j0 k bt553.1 bt553.2 true bt548.1 bt548.2))))))) = some r := h
 clear h; replace H := Option.bind_eq_some_iff.mp H; obtain ⟨t547, A20, H⟩ := H
 replace H : (if t547 = true then (some true) else ((spec_DrawProcessesOf.f k l0).bind fun bt548 => ((impl_ProcessesOf.f k bt548.1 bt548.2).bind fun bt553 => ((spec_ProcessesOf.f k bt548.1 bt548.2).bind fun bt557 => (if bt553.2 = bt557.2 then ((laws_likeInts.f k bt553.1 bt557.1).bind fun t561 => (laws_FnProcesses.j0 k bt553.1 bt553.2 (!t561) bt548.1 bt548.2)) else (laws_FnProcesses.j0 k bt553.1 bt553.2 true bt548.1 bt548.2)))))) = some r := H
 have A2 := Aside0.mk A20; clear A20
 by_cases c3 : t547 = true
 ·subst c3
  have H1 : (some true) = some r := by rw [if_pos rfl] at H; exact H
  clear H; have H := H1; clear H1
  obtain rfl := Option.some.inj H
  go_enter Tryd.func4, Tryd.ntmps4
  go_wp2_with (first | (go_at_call 14; (with_reducible refine (laws_big.calls _ _ l0 true _ ?side1 ?side2 A2.out).mono ?_); (case side1 => have q_ := Aside0.mk HR0.out; exact cQ q_); (case side2 => exact HC0.out); rintro e w' ⟨rfl, ⟨nd, rfl⟩⟩; (try exact zLFnProcessesx0)))
  repeat (go_quiet (first | (go_at_call 14; (with_reducible refine (laws_big.calls _ _ l0 true _ ?side1 ?side2 A2.out).mono ?_); (case side1 => have q_ := Aside0.mk HR0.out; exact cQ q_); (case side2 => exact HC0.out); rintro e w' ⟨rfl, ⟨nd, rfl⟩⟩; (try exact zLFnProcessesx0))); try go_wp2_with (first | (go_at_call 14; (with_reducible refine (laws_big.calls _ _ l0 true _ ?side1 ?side2 A2.out).mono ?_); (case side1 => have q_ := Aside0.mk HR0.out; exact cQ q_); (case side2 => exact HC0.out); rintro e w' ⟨rfl, ⟨nd, rfl⟩⟩; (try exact zLFnProcessesx0))))
  go_ret
  exact ⟨rz, beQ HB⟩
 ·replace c3 := Bool.eq_false_iff.mpr c3
  subst c3
  have H1 : ((spec_DrawProcessesOf.f k l0).bind fun bt548 => ((impl_ProcessesOf.f k bt548.1 bt548.2).bind fun bt553 => ((spec_ProcessesOf.f k bt548.1 bt548.2).bind fun bt557 => (if bt553.2 = bt557.2 then ((laws_likeInts.f k bt553.1 bt557.1).bind fun t561 => (laws_FnProcesses.j0 k bt553.1 bt553.2 (!t561) bt548.1 bt548.2)) else (laws_FnProcesses.j0 k bt553.1 bt553.2 true bt548.1 bt548.2))))) = some r := by rw [if_neg (show ¬ (false = true) by decide)] at H; exact H
  clear H; have H := H1; clear H1; replace H := Option.bind_eq_some_iff.mp H
  obtain ⟨⟨t548, t549⟩, A40, H⟩ := H
  replace H : ((impl_ProcessesOf.f k t548 t549).bind fun bt553 => ((spec_ProcessesOf.f k t548 t549).bind fun bt557 => (if bt553.2 = bt557.2 then ((laws_likeInts.f k bt553.1 bt557.1).bind fun t561 => (laws_FnProcesses.j0 k bt553.1 bt553.2 (!t561) t548 t549)) else (laws_FnProcesses.j0 k bt553.1 bt553.2 true t548 t549)))) = some r := H
  have A4 := Aside0.mk A40; clear A40; replace H := Option.bind_eq_some_iff.mp H
  obtain ⟨⟨t553, t556⟩, A50, H⟩ := H
  replace H : ((spec_ProcessesOf.f k t548 t549).bind fun bt557 => (if t556 = bt557.2 then ((laws_likeInts.f k t553 bt557.1).bind fun t561 => (laws_FnProcesses.j0 k t553 t556 (!t561) t548 t549)) else (laws_FnProcesses.j0 k t553 t556 true t548 t549))) = some r := H
  have A5 := Aside0.mk A50; clear A50; replace H := Option.bind_eq_some_iff.mp H
  obtain ⟨⟨t557, t560⟩, A60, H⟩ := H
  replace H : (if t556 = t560 then ((laws_likeInts.f k t553 t557).bind fun t561 => (laws_FnProcesses.j0 k t553 t556 (!t561) t548 t549)) else (laws_FnProcesses.j0 k t553 t556 true t548 t549)) = some r := H
  have A6 := Aside0.mk A60; clear A60; have HC7 := Aside0.mk H; clear H
  go_enter Tryd.func4, Tryd.ntmps4
  go_upto_region 6 with (first | (go_at_call 14; (with_reducible refine (laws_big.calls _ _ l0 false _ ?side1 ?side2 A2.out).mono ?_); (case side1 => have q_ := Aside0.mk HR0.out; exact cQ q_); (case side2 => exact HC0.out); rintro e w' ⟨rfl, ⟨nd, rfl⟩⟩; (try exact zLFnProcessesx0)) | (go_at_call 15; (with_reducible refine (spec_DrawProcessesOf.calls k _ _ l0 t548 t549 _ ?side1 ?side2 A4.out).mono ?_); (case side1 => have q_ := Aside0.mk HR0.out; exact cQ q_); (case side2 => exact HC0.out); rintro e w8 ⟨v550, rfl, ho0, hb⟩; have HO551 := Aside0.mk (Kd.R_lower ho0 (below_size (beQ HB))); replace HB := Aside0.mk (below_step (beQ HB) hb); (try clear hb); (try clear hb2); (try clear hk); (try clear hi); (try clear hgw_); (try clear ho0)) | ((with_reducible refine gate_dst (N := 3) rfl ?_); (try (refine gate_guard (by rfl) ?_; dsimp only)); refine box_event ?hg (N := 3) ?hd (cs := #[.int .i64 0, .slice none 0 0]) (t := 28) ?hr ?_; (case hd => rfl); (case hg => rfl); (case hr => first | (go_simp; done) | (go_simp; rfl)); intro gb552 hg w9 hbox hb; replace HO551 := kb HO551 hb; have BK552 := Aside0.mk (hbox); have GW552 := Aside0.mk ((by rw [hg]; exact (below_size (beQ HB)) : w.heap.size ≤ gb552)); have GE552 := Aside0.mk ((by rw [hg]; exact (below_size (beQ HB)) : w.heap.size ≤ gb552)); replace HB := Aside0.mk (below_step (beQ HB) hb); clear hb hbox hg; have hcz10_0 : w9.cell? ⟨gb552, 0, none⟩ = some (.int .i64 0) := bc BK552 0; have hcz10_1 : w9.cell? ⟨gb552, 1, none⟩ = some (.slice none 0 0) := bc BK552 1; have hfz10_0 := blk_frozen BK552.out 0; have hfz10_1 := blk_frozen BK552.out 1; obtain ⟨Ao11, co11, eo11⟩ := Kd.R_slice HO551.out; subst eo11) | (go_at_call 8; (with_reducible refine (impl_ProcessesOf.calls k t548 _ _ t549 t553 t556 _ ?side1 ?side2 ?side3 A5.out).mono ?_); (case side1 => refine (Kd.R_reads' (e := 2) (base := w.heap.size) (ok := fun k_ => True) (n := t549.length) (c := co11) ?_).2.2; exact (by (with_reducible repeat (first | apply Kd.R_alloc | apply Kd.R_drewN | apply Kd.R_drew)); exact (Kd.R_mono (Kd.R_far (p := ⟨gb552, 1, none⟩) (Kd.R_far (p := ⟨gb552, 0, none⟩) (Kd.R_types HO551.out BK552.out (by decide)) (fun _ hk => hk.2) (.int .i64 t548)) (fun _ hk => hk.2) (.slice Ao11 t549.length co11)) (fun _ h_ => h_.1)))); (case side2 => exact (Kd.R_reads' HO551.out).2.1); (case side3 => exact TabW.below HT.out (beQ HB)); rintro e w12 ⟨v554, rfl, ho0, hb⟩; have HO555 := Aside0.mk (Kd.R_lower (Kd.R_new' ho0 (Kd.R_lt (by (with_reducible repeat (first | apply Kd.R_alloc | apply Kd.R_drewN | apply Kd.R_drew)); exact (Kd.R_mono (Kd.R_far (p := ⟨gb552, 1, none⟩) (Kd.R_far (p := ⟨gb552, 0, none⟩) (Kd.R_types HO551.out BK552.out (by decide)) (fun _ hk => hk.2) (.int .i64 t548)) (fun _ hk => hk.2) (.slice Ao11 t549.length co11)) (fun _ h_ => h_.1))))) (below_size (beQ HB))); replace HO551 := Aside0.mk (Kd.R_elder' (by (with_reducible repeat (first | apply Kd.R_alloc | apply Kd.R_drewN | apply Kd.R_drew)); exact (Kd.R_mono (Kd.R_far (p := ⟨gb552, 1, none⟩) (Kd.R_far (p := ⟨gb552, 0, none⟩) (Kd.R_types HO551.out BK552.out (by decide)) (fun _ hk => hk.2) (.int .i64 t548)) (fun _ hk => hk.2) (.slice Ao11 t549.length co11)) (fun _ h_ => h_.1))) (Kd.R_base ho0) hb); replace BK552 := Aside0.mk (blk_below (g := gb552) (o := .cells #[.int .i64 t548, .slice Ao11 t549.length co11] 28 (0, 0)) (by (with_reducible repeat (first | refine blk_drewN ?_ _ | refine blk_drew ?_ | refine blk_alloc ?_ _)); refine blk_put (cs := #[.int .i64 t548, .slice none 0 0]) ?_ 1 _ rfl; (with_reducible repeat (first | refine blk_drewN ?_ _ | refine blk_drew ?_ | refine blk_alloc ?_ _)); refine blk_put (cs := #[.int .i64 0, .slice none 0 0]) ?_ 0 _ rfl; (with_reducible repeat (first | refine blk_drewN ?_ _ | refine blk_drew ?_ | refine blk_alloc ?_ _)); exact BK552.out) hb); replace HB := Aside0.mk (below_step (beQ HB) hb); (try clear hb); (try clear hb2); (try clear hk); (try clear hi); (try clear hgw_); (try clear ho0); have hcz13_0 : w12.cell? ⟨gb552, 0, none⟩ = some (.int .i64 t548) := bc BK552 0; have hcz13_1 : w12.cell? ⟨gb552, 1, none⟩ = some (.slice Ao11 t549.length co11) := bc BK552 1; have hfz13_0 := blk_frozen BK552.out 0; have hfz13_1 := blk_frozen BK552.out 1) | (go_at_call 6; (with_reducible refine (spec_ProcessesOf.calls k t548 _ _ t549 t557 t560 _ ?side1 ?side2 A6.out).mono ?_); (case side1 => have q_ := Aside0.mk (Kd.R_reads' HO551.out).2.2; exact cQ q_); (case side2 => exact (Kd.R_reads' HO551.out).2.1); rintro e w14 ⟨v558, rfl, ho0, hb⟩; have HO559 := Aside0.mk (Kd.R_lower (Kd.R_new' (Kd.R_new' ho0 (Kd.R_lt (kdQ HO551))) (Kd.R_lt (kdQ HO555))) (below_size (beQ HB))); replace HO551 := Aside0.mk (Kd.R_elder' (kdQ HO551) (Kd.R_base ho0) hb); replace HO555 := Aside0.mk (Kd.R_elder' (kdQ HO555) (Kd.R_base ho0) hb); replace BK552 := bb BK552 hb; replace HB := Aside0.mk (below_step (beQ HB) hb); (try clear hb); (try clear hb2); (try clear hk); (try clear hi); (try clear hgw_); (try clear ho0)))
  repeat (go_quiet (first | (go_at_call 14; (with_reducible refine (laws_big.calls _ _ l0 false _ ?side1 ?side2 A2.out).mono ?_); (case side1 => have q_ := Aside0.mk HR0.out; exact cQ q_); (case side2 => exact HC0.out); rintro e w' ⟨rfl, ⟨nd, rfl⟩⟩; (try exact zLFnProcessesx0)) | (go_at_call 15; (with_reducible refine (spec_DrawProcessesOf.calls k _ _ l0 t548 t549 _ ?side1 ?side2 A4.out).mono ?_); (case side1 => have q_ := Aside0.mk HR0.out; exact cQ q_); (case side2 => exact HC0.out); rintro e w8 ⟨v550, rfl, ho0, hb⟩; have HO551 := Aside0.mk (Kd.R_lower ho0 (below_size (beQ HB))); replace HB := Aside0.mk (below_step (beQ HB) hb); (try clear hb); (try clear hb2); (try clear hk); (try clear hi); (try clear hgw_); (try clear ho0)) | ((with_reducible refine gate_dst (N := 3) rfl ?_); (try (refine gate_guard (by rfl) ?_; dsimp only)); refine box_event ?hg (N := 3) ?hd (cs := #[.int .i64 0, .slice none 0 0]) (t := 28) ?hr ?_; (case hd => rfl); (case hg => rfl); (case hr => first | (go_simp; done) | (go_simp; rfl)); intro gb552 hg w9 hbox hb; replace HO551 := kb HO551 hb; have BK552 := Aside0.mk (hbox); have GW552 := Aside0.mk ((by rw [hg]; exact (below_size (beQ HB)) : w.heap.size ≤ gb552)); have GE552 := Aside0.mk ((by rw [hg]; exact (below_size (beQ HB)) : w.heap.size ≤ gb552)); replace HB := Aside0.mk (below_step (beQ HB) hb); clear hb hbox hg; have hcz10_0 : w9.cell? ⟨gb552, 0, none⟩ = some (.int .i64 0) := bc BK552 0; have hcz10_1 : w9.cell? ⟨gb552, 1, none⟩ = some (.slice none 0 0) := bc BK552 1; have hfz10_0 := blk_frozen BK552.out 0; have hfz10_1 := blk_frozen BK552.out 1; obtain ⟨Ao11, co11, eo11⟩ := Kd.R_slice HO551.out; subst eo11) | (go_at_call 8; (with_reducible refine (impl_ProcessesOf.calls k t548 _ _ t549 t553 t556 _ ?side1 ?side2 ?side3 A5.out).mono ?_); (case side1 => refine (Kd.R_reads' (e := 2) (base := w.heap.size) (ok := fun k_ => True) (n := t549.length) (c := co11) ?_).2.2; exact (by (with_reducible repeat (first | apply Kd.R_alloc | apply Kd.R_drewN | apply Kd.R_drew)); exact (Kd.R_mono (Kd.R_far (p := ⟨gb552, 1, none⟩) (Kd.R_far (p := ⟨gb552, 0, none⟩) (Kd.R_types HO551.out BK552.out (by decide)) (fun _ hk => hk.2) (.int .i64 t548)) (fun _ hk => hk.2) (.slice Ao11 t549.length co11)) (fun _ h_ => h_.1)))); (case side2 => exact (Kd.R_reads' HO551.out).2.1); (case side3 => exact TabW.below HT.out (beQ HB)); rintro e w12 ⟨v554, rfl, ho0, hb⟩; have HO555 := Aside0.mk (Kd.R_lower (Kd.R_new' ho0 (Kd.R_lt (by (with_reducible repeat (first | apply Kd.R_alloc | apply Kd.R_drewN | apply Kd.R_drew)); exact (Kd.R_mono (Kd.R_far (p := ⟨gb552, 1, none⟩) (Kd.R_far (p := ⟨gb552, 0, none⟩) (Kd.R_types HO551.out BK552.out (by decide)) (fun _ hk => hk.2) (.int .i64 t548)) (fun _ hk => hk.2) (.slice Ao11 t549.length co11)) (fun _ h_ => h_.1))))) (below_size (beQ HB))); replace HO551 := Aside0.mk (Kd.R_elder' (by (with_reducible repeat (first | apply Kd.R_alloc | apply Kd.R_drewN | apply Kd.R_drew)); exact (Kd.R_mono (Kd.R_far (p := ⟨gb552, 1, none⟩) (Kd.R_far (p := ⟨gb552, 0, none⟩) (Kd.R_types HO551.out BK552.out (by decide)) (fun _ hk => hk.2) (.int .i64 t548)) (fun _ hk => hk.2) (.slice Ao11 t549.length co11)) (fun _ h_ => h_.1))) (Kd.R_base ho0) hb); replace BK552 := Aside0.mk (blk_below (g := gb552) (o := .cells #[.int .i64 t548, .slice Ao11 t549.length co11] 28 (0, 0)) (by (with_reducible repeat (first | refine blk_drewN ?_ _ | refine blk_drew ?_ | refine blk_alloc ?_ _)); refine blk_put (cs := #[.int .i64 t548, .slice none 0 0]) ?_ 1 _ rfl; (with_reducible repeat (first | refine blk_drewN ?_ _ | refine blk_drew ?_ | refine blk_alloc ?_ _)); refine blk_put (cs := #[.int .i64 0, .slice none 0 0]) ?_ 0 _ rfl; (with_reducible repeat (first | refine blk_drewN ?_ _ | refine blk_drew ?_ | refine blk_alloc ?_ _)); exact BK552.out) hb); replace HB := Aside0.mk (below_step (beQ HB) hb); (try clear hb); (try clear hb2); (try clear hk); (try clear hi); (try clear hgw_); (try clear ho0); have hcz13_0 : w12.cell? ⟨gb552, 0, none⟩ = some (.int .i64 t548) := bc BK552 0; have hcz13_1 : w12.cell? ⟨gb552, 1, none⟩ = some (.slice Ao11 t549.length co11) := bc BK552 1; have hfz13_0 := blk_frozen BK552.out 0; have hfz13_1 := blk_frozen BK552.out 1) | (go_at_call 6; (with_reducible refine (spec_ProcessesOf.calls k t548 _ _ t549 t557 t560 _ ?side1 ?side2 A6.out).mono ?_); (case side1 => have q_ := Aside0.mk (Kd.R_reads' HO551.out).2.2; exact cQ q_); (case side2 => exact (Kd.R_reads' HO551.out).2.1); rintro e w14 ⟨v558, rfl, ho0, hb⟩; have HO559 := Aside0.mk (Kd.R_lower (Kd.R_new' (Kd.R_new' ho0 (Kd.R_lt (kdQ HO551))) (Kd.R_lt (kdQ HO555))) (below_size (beQ HB))); replace HO551 := Aside0.mk (Kd.R_elder' (kdQ HO551) (Kd.R_base ho0) hb); replace HO555 := Aside0.mk (Kd.R_elder' (kdQ HO555) (Kd.R_base ho0) hb); replace BK552 := bb BK552 hb; replace HB := Aside0.mk (below_step (beQ HB) hb); (try clear hb); (try clear hb2); (try clear hk); (try clear hi); (try clear hgw_); (try clear ho0))); go_upto_region 6 with (first | (go_at_call 14; (with_reducible refine (laws_big.calls _ _ l0 false _ ?side1 ?side2 A2.out).mono ?_); (case side1 => have q_ := Aside0.mk HR0.out; exact cQ q_); (case side2 => exact HC0.out); rintro e w' ⟨rfl, ⟨nd, rfl⟩⟩; (try exact zLFnProcessesx0)) | (go_at_call 15; (with_reducible refine (spec_DrawProcessesOf.calls k _ _ l0 t548 t549 _ ?side1 ?side2 A4.out).mono ?_); (case side1 => have q_ := Aside0.mk HR0.out; exact cQ q_); (case side2 => exact HC0.out); rintro e w8 ⟨v550, rfl, ho0, hb⟩; have HO551 := Aside0.mk (Kd.R_lower ho0 (below_size (beQ HB))); replace HB := Aside0.mk (below_step (beQ HB) hb); (try clear hb); (try clear hb2); (try clear hk); (try clear hi); (try clear hgw_); (try clear ho0)) | ((with_reducible refine gate_dst (N := 3) rfl ?_); (try (refine gate_guard (by rfl) ?_; dsimp only)); refine box_event ?hg (N := 3) ?hd (cs := #[.int .i64 0, .slice none 0 0]) (t := 28) ?hr ?_; (case hd => rfl); (case hg => rfl); (case hr => first | (go_simp; done) | (go_simp; rfl)); intro gb552 hg w9 hbox hb; replace HO551 := kb HO551 hb; have BK552 := Aside0.mk (hbox); have GW552 := Aside0.mk ((by rw [hg]; exact (below_size (beQ HB)) : w.heap.size ≤ gb552)); have GE552 := Aside0.mk ((by rw [hg]; exact (below_size (beQ HB)) : w.heap.size ≤ gb552)); replace HB := Aside0.mk (below_step (beQ HB) hb); clear hb hbox hg; have hcz10_0 : w9.cell? ⟨gb552, 0, none⟩ = some (.int .i64 0) := bc BK552 0; have hcz10_1 : w9.cell? ⟨gb552, 1, none⟩ = some (.slice none 0 0) := bc BK552 1; have hfz10_0 := blk_frozen BK552.out 0; have hfz10_1 := blk_frozen BK552.out 1; obtain ⟨Ao11, co11, eo11⟩ := Kd.R_slice HO551.out; subst eo11) | (go_at_call 8; (with_reducible refine (impl_ProcessesOf.calls k t548 _ _ t549 t553 t556 _ ?side1 ?side2 ?side3 A5.out).mono ?_); (case side1 => refine (Kd.R_reads' (e := 2) (base := w.heap.size) (ok := fun k_ => True) (n := t549.length) (c := co11) ?_).2.2; exact (by (with_reducible repeat (first | apply Kd.R_alloc | apply Kd.R_drewN | apply Kd.R_drew)); exact (Kd.R_mono (Kd.R_far (p := ⟨gb552, 1, none⟩) (Kd.R_far (p := ⟨gb552, 0, none⟩) (Kd.R_types HO551.out BK552.out (by decide)) (fun _ hk => hk.2) (.int .i64 t548)) (fun _ hk => hk.2) (.slice Ao11 t549.length co11)) (fun _ h_ => h_.1)))); (case side2 => exact (Kd.R_reads' HO551.out).2.1); (case side3 => exact TabW.below HT.out (beQ HB)); rintro e w12 ⟨v554, rfl, ho0, hb⟩; have HO555 := Aside0.mk (Kd.R_lower (Kd.R_new' ho0 (Kd.R_lt (by (with_reducible repeat (first | apply Kd.R_alloc | apply Kd.R_drewN | apply Kd.R_drew)); exact (Kd.R_mono (Kd.R_far (p := ⟨gb552, 1, none⟩) (Kd.R_far (p := ⟨gb552, 0, none⟩) (Kd.R_types HO551.out BK552.out (by decide)) (fun _ hk => hk.2) (.int .i64 t548)) (fun _ hk => hk.2) (.slice Ao11 t549.length co11)) (fun _ h_ => h_.1))))) (below_size (beQ HB))); replace HO551 := Aside0.mk (Kd.R_elder' (by (with_reducible repeat (first | apply Kd.R_alloc | apply Kd.R_drewN | apply Kd.R_drew)); exact (Kd.R_mono (Kd.R_far (p := ⟨gb552, 1, none⟩) (Kd.R_far (p := ⟨gb552, 0, none⟩) (Kd.R_types HO551.out BK552.out (by decide)) (fun _ hk => hk.2) (.int .i64 t548)) (fun _ hk => hk.2) (.slice Ao11 t549.length co11)) (fun _ h_ => h_.1))) (Kd.R_base ho0) hb); replace BK552 := Aside0.mk (blk_below (g := gb552) (o := .cells #[.int .i64 t548, .slice Ao11 t549.length co11] 28 (0, 0)) (by (with_reducible repeat (first | refine blk_drewN ?_ _ | refine blk_drew ?_ | refine blk_alloc ?_ _)); refine blk_put (cs := #[.int .i64 t548, .slice none 0 0]) ?_ 1 _ rfl; (with_reducible repeat (first | refine blk_drewN ?_ _ | refine blk_drew ?_ | refine blk_alloc ?_ _)); refine blk_put (cs := #[.int .i64 0, .slice none 0 0]) ?_ 0 _ rfl; (with_reducible repeat (first | refine blk_drewN ?_ _ | refine blk_drew ?_ | refine blk_alloc ?_ _)); exact BK552.out) hb); replace HB := Aside0.mk (below_step (beQ HB) hb); (try clear hb); (try clear hb2); (try clear hk); (try clear hi); (try clear hgw_); (try clear ho0); have hcz13_0 : w12.cell? ⟨gb552, 0, none⟩ = some (.int .i64 t548) := bc BK552 0; have hcz13_1 : w12.cell? ⟨gb552, 1, none⟩ = some (.slice Ao11 t549.length co11) := bc BK552 1; have hfz13_0 := blk_frozen BK552.out 0; have hfz13_1 := blk_frozen BK552.out 1) | (go_at_call 6; (with_reducible refine (spec_ProcessesOf.calls k t548 _ _ t549 t557 t560 _ ?side1 ?side2 A6.out).mono ?_); (case side1 => have q_ := Aside0.mk (Kd.R_reads' HO551.out).2.2; exact cQ q_); (case side2 => exact (Kd.R_reads' HO551.out).2.1); rintro e w14 ⟨v558, rfl, ho0, hb⟩; have HO559 := Aside0.mk (Kd.R_lower (Kd.R_new' (Kd.R_new' ho0 (Kd.R_lt (kdQ HO551))) (Kd.R_lt (kdQ HO555))) (below_size (beQ HB))); replace HO551 := Aside0.mk (Kd.R_elder' (kdQ HO551) (Kd.R_base ho0) hb); replace HO555 := Aside0.mk (Kd.R_elder' (kdQ HO555) (Kd.R_base ho0) hb); replace BK552 := bb BK552 hb; replace HB := Aside0.mk (below_step (beQ HB) hb); (try clear hb); (try clear hb2); (try clear hk); (try clear hi); (try clear hgw_); (try clear ho0))))
  (try simp only [Act.put, List.setIfInBounds_toArray, List.set_cons_zero, List.set_cons_succ])
  go_cut [38] (fun v38 wc => ∃ (kq : Nat) (x38_6 : Bool), v38 = .bool x38_6 ∧ Aside0 (laws_FnProcesses.j0 kq t553 t556 x38_6 t548 t549 = some r) ∧ Aside0 (kq ≤ k) ∧ Aside0 (Kd.R (Kd.int .i64) 2 wc w.heap.size (fun k_ => some k_ ≠ ((.slice Ao11 t549.length co11) : Value).ownBlock) v554 t553) ∧ Aside0 (Kd.R (Kd.int .i64) 2 wc w.heap.size (fun k_ => some k_ ≠ (v554 : Value).ownBlock) (.slice Ao11 t549.length co11) t549) ∧ Aside0 (wc.heap[gb552]? = some (.cells #[.int .i64 t548, (.slice Ao11 t549.length co11)] 28 (0, 0))) ∧ Aside0 (Below w.heap.size w wc))
  case first =>
   have H := HC7.out; clear HC7
   by_cases c15 : t556 = t560
   ·rw [if_pos c15] at H
    have c15b0 : (t556 == t560) = true := beq_iff_eq.mpr c15
    have c15b1 : (t556 != t560) = false := bne_eq_false_iff_eq.mpr c15
    clear c15
    (first | rw [c15b0] | (simp only [i64_w, i32_w]; rw [c15b0]) | skip)
    replace H := Option.bind_eq_some_iff.mp H; obtain ⟨t561, A160, H⟩ := H
    replace H : (laws_FnProcesses.j0 k t553 t556 (!t561) t548 t549) = some r := H
    have A16 := Aside0.mk A160; clear A160
    have H' := Aside0.mk H
    clear H; obtain ⟨Ao17, co17, eo17⟩ := Kd.R_slice HO555.out; subst eo17; obtain ⟨Ao18, co18, eo18⟩ := Kd.R_slice HO559.out; subst eo18
    go_wp2_with (first | (go_at_call 16; (with_reducible refine (laws_likeInts.calls k _ _ t553 _ _ t557 t561 _ ?side1 ?side2 ?side3 ?side4 A16.out).mono ?_); (case side1 => have q_ := Aside0.mk (Kd.R_reads' HO555.out).2.2; exact cQ q_); (case side2 => exact (Kd.R_reads' HO555.out).2.1); (case side3 => have q_ := Aside0.mk (Kd.R_reads' HO559.out).2.2; exact cQ q_); (case side4 => exact (Kd.R_reads' HO559.out).2.1); rintro e w' ⟨rfl, ⟨nd, rfl⟩⟩; (try exact zLFnProcessesx0)))
    repeat (go_quiet (first | (go_at_call 16; (with_reducible refine (laws_likeInts.calls k _ _ t553 _ _ t557 t561 _ ?side1 ?side2 ?side3 ?side4 A16.out).mono ?_); (case side1 => have q_ := Aside0.mk (Kd.R_reads' HO555.out).2.2; exact cQ q_); (case side2 => exact (Kd.R_reads' HO555.out).2.1); (case side3 => have q_ := Aside0.mk (Kd.R_reads' HO559.out).2.2; exact cQ q_); (case side4 => exact (Kd.R_reads' HO559.out).2.1); rintro e w' ⟨rfl, ⟨nd, rfl⟩⟩; (try exact zLFnProcessesx0))); try go_wp2_with (first | (go_at_call 16; (with_reducible refine (laws_likeInts.calls k _ _ t553 _ _ t557 t561 _ ?side1 ?side2 ?side3 ?side4 A16.out).mono ?_); (case side1 => have q_ := Aside0.mk (Kd.R_reads' HO555.out).2.2; exact cQ q_); (case side2 => exact (Kd.R_reads' HO555.out).2.1); (case side3 => have q_ := Aside0.mk (Kd.R_reads' HO559.out).2.2; exact cQ q_); (case side4 => exact (Kd.R_reads' HO559.out).2.1); rintro e w' ⟨rfl, ⟨nd, rfl⟩⟩; (try exact zLFnProcessesx0))))
    go_meet
    case rel => exact ⟨_, (!t561), sz, H', ⟨by first | omega | exact Nat.le_refl _⟩, ⟨by (with_reducible repeat (first | apply Kd.R_alloc | apply Kd.R_drewN | apply Kd.R_drew)); exact Kd.R_mono HO555.out (fun _ hk => hk.1.2)⟩, ⟨by (with_reducible repeat (first | apply Kd.R_alloc | apply Kd.R_drewN | apply Kd.R_drew)); exact Kd.R_mono HO551.out (fun _ hk => hk.1.2)⟩, ⟨blkQ BK552⟩, ⟨beQ HB⟩⟩
   ·rw [if_neg c15] at H
    have c15b0 : (t556 == t560) = false := beq_eq_false_iff_ne.mpr c15
    have c15b1 : (t556 != t560) = true := bne_iff_ne.mpr c15
    (first | rw [c15b0] | (simp only [i64_w, i32_w]; rw [c15b0]) | skip)
    have H' := Aside0.mk H
    clear H
    go_wp2
    repeat (go_quiet (fail); try go_wp2)
    go_meet
    case rel => exact ⟨_, (true), sz, H', ⟨by first | omega | exact Nat.le_refl _⟩, ⟨by (with_reducible repeat (first | apply Kd.R_alloc | apply Kd.R_drewN | apply Kd.R_drew)); exact Kd.R_mono HO555.out (fun _ hk => hk.1.2)⟩, ⟨by (with_reducible repeat (first | apply Kd.R_alloc | apply Kd.R_drewN | apply Kd.R_drew)); exact Kd.R_mono HO551.out (fun _ hk => hk.1.2)⟩, ⟨blkQ BK552⟩, ⟨beQ HB⟩⟩
  case rest =>
   clear HC7
   try clear c1
   try clear p2
   try clear c3
   try clear c4
   try clear c15
   try clear c15b0
   try clear c15b1
   try clear hcz10_0
   try clear hcz10_1
   try clear hcz13_0
   try clear hcz13_1
   try clear hfz10_0
   try clear hfz10_1
   try clear hfz13_0
   try clear hfz13_1
   obtain ⟨kq, x38_6, rfl, HA, HJ6, HO_4, HO_553001, BK552, HB⟩ := hcut
   cases kq with
   | zero => exact absurd HA.out (by simp [laws_FnProcesses.j0])
   | succ kj6 =>
    have H := HA.out; clear HA
    simp only [laws_FnProcesses.j0] at H
    by_cases c19 : x38_6 = true
    ·subst c19
     have H1 : (some false) = some r := by rw [if_pos rfl] at H; exact H
     clear H; have H := H1; clear H1
     obtain rfl := Option.some.inj H
     go_wp2
     repeat (go_quiet (fail); try go_wp2)
     go_ret
     exact ⟨rz, beQ HB⟩
    ·replace c19 := Bool.eq_false_iff.mpr c19
     subst c19
     have H1 : (if t556 = 0 then ((impl_AlphabetOfProcesses.f kj6 t548 t553).bind fun bt562 => ((impl_DomainsOf.f kj6 t548 t553).bind fun bt568 => (if bt562.2.2 = 0 then (if bt568.2 = 0 then ((laws_likeAlphabet5.f kj6 bt562.1 bt562.2.1 t548 t549).bind fun t572 => (if t572 = true then (laws_FnProcesses.j1 kj6 bt568.1 ((bt568.1.length : Int) != t548) t548 t549) else (laws_FnProcesses.j1 kj6 bt568.1 true t548 t549))) else (laws_FnProcesses.j1 kj6 bt568.1 true t548 t549)) else (laws_FnProcesses.j1 kj6 bt568.1 true t548 t549)))) else (some true)) = some r := by rw [if_neg (show ¬ (false = true) by decide)] at H; exact H
     clear H; have H := H1; clear H1
     by_cases c20 : t556 = 0
     ·rw [if_pos c20] at H
      have c20b0 : (t556 == 0) = true := beq_iff_eq.mpr c20
      have c20b1 : (t556 != 0) = false := bne_eq_false_iff_eq.mpr c20
      clear c20; replace H := Option.bind_eq_some_iff.mp H
      obtain ⟨⟨t562, t563, t566⟩, A210, H⟩ := H
      replace H : ((impl_DomainsOf.f kj6 t548 t553).bind fun bt568 => (if t566 = 0 then (if bt568.2 = 0 then ((laws_likeAlphabet5.f kj6 t562 t563 t548 t549).bind fun t572 => (if t572 = true then (laws_FnProcesses.j1 kj6 bt568.1 ((bt568.1.length : Int) != t548) t548 t549) else (laws_FnProcesses.j1 kj6 bt568.1 true t548 t549))) else (laws_FnProcesses.j1 kj6 bt568.1 true t548 t549)) else (laws_FnProcesses.j1 kj6 bt568.1 true t548 t549))) = some r := H
      have A21 := Aside0.mk A210; clear A210; replace H := Option.bind_eq_some_iff.mp H
      obtain ⟨⟨t568, t569⟩, A220, H⟩ := H
      replace H : (if t566 = 0 then (if t569 = 0 then ((laws_likeAlphabet5.f kj6 t562 t563 t548 t549).bind fun t572 => (if t572 = true then (laws_FnProcesses.j1 kj6 t568 ((t568.length : Int) != t548) t548 t549) else (laws_FnProcesses.j1 kj6 t568 true t548 t549))) else (laws_FnProcesses.j1 kj6 t568 true t548 t549)) else (laws_FnProcesses.j1 kj6 t568 true t548 t549)) = some r := H
      have A22 := Aside0.mk A220; clear A220; have HC23 := Aside0.mk H; clear H
      have hcz24_0 : wc.cell? ⟨gb552, 0, none⟩ = some (.int .i64 t548) := bc BK552 0
      have hcz24_1 : wc.cell? ⟨gb552, 1, none⟩ = some (.slice Ao11 t549.length co11) := bc BK552 1
      have hfz24_0 := blk_frozen BK552.out 0; have hfz24_1 := blk_frozen BK552.out 1; obtain ⟨Ao25, co25, eo25⟩ := Kd.R_slice HO_4.out; subst eo25
      go_upto_region 12 with (first | (go_at_call 17; (with_reducible refine (impl_AlphabetOfProcesses.calls kj6 t548 _ _ t553 t562 t563 t566 _ ?side1 ?side2 ?side3 A21.out).mono ?_); (case side1 => have q_ := Aside0.mk (Kd.R_reads' HO_4.out).2.2; exact cQ q_); (case side2 => exact (Kd.R_reads' HO_4.out).2.1); (case side3 => exact TabW.below HT.out (beQ HB)); rintro e w26 ⟨v564, rfl, ho0, hb⟩; have HO565 := Aside0.mk (Kd.R_lower (Kd.R_new' (Kd.R_new' ho0 (Kd.R_lt (kdQ HO_4))) (Kd.R_lt (kdQ HO_553001))) (below_size (beQ HB))); replace HO_4 := Aside0.mk (Kd.R_elder' (kdQ HO_4) (Kd.R_base ho0) hb); replace HO_553001 := Aside0.mk (Kd.R_elder' (kdQ HO_553001) (Kd.R_base ho0) hb); replace BK552 := bb BK552 hb; replace HB := Aside0.mk (below_step (beQ HB) hb); (try clear hb); (try clear hb2); (try clear hk); (try clear hi); (try clear hgw_); (try clear ho0)) | ((with_reducible refine gate_dst (N := 8) rfl ?_); (try (refine gate_guard (by rfl) ?_; dsimp only)); refine box_event ?hg (N := 8) ?hd (cs := #[.int .i64 0, .slice none 0 0]) (t := 28) ?hr ?_; (case hd => rfl); (case hg => rfl); (case hr => first | (go_simp; done) | (go_simp; rfl)); intro gb567 hg w27 hbox hb; replace HO_4 := kb HO_4 hb; replace HO_553001 := kb HO_553001 hb; replace HO565 := kb HO565 hb; have BK567 := Aside0.mk (hbox); have GW567 := Aside0.mk ((by rw [hg]; exact (below_size (beQ HB)) : w.heap.size ≤ gb567)); have GE567 := Aside0.mk ((by rw [hg]; exact (below_size (beQ HB)) : w.heap.size ≤ gb567)); replace HB := Aside0.mk (below_step (beQ HB) hb); have NB552_567 := Aside0.mk ((by rw [hg]; exact Nat.ne_of_lt (blk_lt (blkQ BK552)) : gb552 ≠ gb567)); have NB567_552 := Aside0.mk ((by rw [hg]; exact Nat.ne_of_gt (blk_lt (blkQ BK552)) : gb567 ≠ gb552)); replace BK552 := bb BK552 hb; clear hb hbox hg; have hnb28 := NB567_552.out; have hnc28 := NB552_567.out; have hcz29_0 : w27.cell? ⟨gb567, 0, none⟩ = some (.int .i64 0) := bc BK567 0; have hcz29_1 : w27.cell? ⟨gb567, 1, none⟩ = some (.slice none 0 0) := bc BK567 1; have hfz29_0 := blk_frozen BK567.out 0; have hfz29_1 := blk_frozen BK567.out 1; obtain ⟨Ao30, co30, eo30⟩ := Kd.R_slice HO565.out; subst eo30; have hcz31_0 : w27.cell? ⟨gb552, 0, none⟩ = some (.int .i64 t548) := bc BK552 0; have hcz31_1 : w27.cell? ⟨gb552, 1, none⟩ = some (.slice Ao11 t549.length co11) := bc BK552 1; have hfz31_0 := blk_frozen BK552.out 0; have hfz31_1 := blk_frozen BK552.out 1) | (go_at_call 18; (with_reducible refine (impl_DomainsOf.calls kj6 t548 _ _ t553 t568 t569 _ ?side1 ?side2 ?side3 A22.out).mono ?_); (case side1 => refine (Kd.R_reads' (e := 2) (base := w.heap.size) (ok := fun k_ => (some k_ ≠ (.slice Ao11 t549.length co11 : Value).ownBlock ∧ some k_ ≠ (.slice Ao30 t563.length co30 : Value).ownBlock)) (n := t553.length) (c := co25) ?_).2.2; exact (by (with_reducible repeat (first | apply Kd.R_alloc | apply Kd.R_drewN | apply Kd.R_drew)); exact (Kd.R_mono (Kd.R_far (p := ⟨gb567, 1, none⟩) (Kd.R_far (p := ⟨gb567, 0, none⟩) (Kd.R_types HO_4.out BK567.out (by decide)) (fun _ hk => hk.2) (.int .i64 t562)) (fun _ hk => hk.2) (.slice Ao30 t563.length co30)) (fun _ h_ => h_.1)))); (case side2 => exact (Kd.R_reads' HO_4.out).2.1); (case side3 => exact TabW.below HT.out (beQ HB)); rintro e w32 ⟨v570, rfl, ho0, hb⟩; have HO571 := Aside0.mk (Kd.R_lower (Kd.R_new' (Kd.R_new' (Kd.R_new' ho0 (Kd.R_lt (by (with_reducible repeat (first | apply Kd.R_alloc | apply Kd.R_drewN | apply Kd.R_drew)); exact (Kd.R_mono (Kd.R_far (p := ⟨gb567, 1, none⟩) (Kd.R_far (p := ⟨gb567, 0, none⟩) (Kd.R_types HO_4.out BK567.out (by decide)) (fun _ hk => hk.2) (.int .i64 t562)) (fun _ hk => hk.2) (.slice Ao30 t563.length co30)) (fun _ h_ => h_.1))))) (Kd.R_lt (by (with_reducible repeat (first | apply Kd.R_alloc | apply Kd.R_drewN | apply Kd.R_drew)); exact (Kd.R_mono (Kd.R_far (p := ⟨gb567, 1, none⟩) (Kd.R_far (p := ⟨gb567, 0, none⟩) (Kd.R_types HO_553001.out BK567.out (by decide)) (fun _ hk => hk.2) (.int .i64 t562)) (fun _ hk => hk.2) (.slice Ao30 t563.length co30)) (fun _ h_ => h_.1))))) (Kd.R_lt (by (with_reducible repeat (first | apply Kd.R_alloc | apply Kd.R_drewN | apply Kd.R_drew)); exact (Kd.R_mono (Kd.R_far (p := ⟨gb567, 1, none⟩) (Kd.R_far (p := ⟨gb567, 0, none⟩) (Kd.R_types HO565.out BK567.out (by decide)) (fun _ hk => hk.2) (.int .i64 t562)) (fun _ hk => hk.2) (.slice Ao30 t563.length co30)) (fun _ h_ => h_.1))))) (below_size (beQ HB))); replace HO_4 := Aside0.mk (Kd.R_elder' (by (with_reducible repeat (first | apply Kd.R_alloc | apply Kd.R_drewN | apply Kd.R_drew)); exact (Kd.R_mono (Kd.R_far (p := ⟨gb567, 1, none⟩) (Kd.R_far (p := ⟨gb567, 0, none⟩) (Kd.R_types HO_4.out BK567.out (by decide)) (fun _ hk => hk.2) (.int .i64 t562)) (fun _ hk => hk.2) (.slice Ao30 t563.length co30)) (fun _ h_ => h_.1))) (Kd.R_base ho0) hb); replace HO_553001 := Aside0.mk (Kd.R_elder' (by (with_reducible repeat (first | apply Kd.R_alloc | apply Kd.R_drewN | apply Kd.R_drew)); exact (Kd.R_mono (Kd.R_far (p := ⟨gb567, 1, none⟩) (Kd.R_far (p := ⟨gb567, 0, none⟩) (Kd.R_types HO_553001.out BK567.out (by decide)) (fun _ hk => hk.2) (.int .i64 t562)) (fun _ hk => hk.2) (.slice Ao30 t563.length co30)) (fun _ h_ => h_.1))) (Kd.R_base ho0) hb); replace HO565 := Aside0.mk (Kd.R_elder' (by (with_reducible repeat (first | apply Kd.R_alloc | apply Kd.R_drewN | apply Kd.R_drew)); exact (Kd.R_mono (Kd.R_far (p := ⟨gb567, 1, none⟩) (Kd.R_far (p := ⟨gb567, 0, none⟩) (Kd.R_types HO565.out BK567.out (by decide)) (fun _ hk => hk.2) (.int .i64 t562)) (fun _ hk => hk.2) (.slice Ao30 t563.length co30)) (fun _ h_ => h_.1))) (Kd.R_base ho0) hb); replace BK552 := Aside0.mk (blk_below (blkF BK552) hb); replace BK567 := Aside0.mk (blk_below (g := gb567) (o := .cells #[.int .i64 t562, .slice Ao30 t563.length co30] 28 (0, 0)) (by (with_reducible repeat (first | refine blk_drewN ?_ _ | refine blk_drew ?_ | refine blk_alloc ?_ _)); refine blk_put (cs := #[.int .i64 t562, .slice none 0 0]) ?_ 1 _ rfl; (with_reducible repeat (first | refine blk_drewN ?_ _ | refine blk_drew ?_ | refine blk_alloc ?_ _)); refine blk_put (cs := #[.int .i64 0, .slice none 0 0]) ?_ 0 _ rfl; (with_reducible repeat (first | refine blk_drewN ?_ _ | refine blk_drew ?_ | refine blk_alloc ?_ _)); exact BK567.out) hb); replace HB := Aside0.mk (below_step (beQ HB) hb); (try clear hb); (try clear hb2); (try clear hk); (try clear hi); (try clear hgw_); (try clear ho0)))
      repeat (go_quiet (first | (go_at_call 17; (with_reducible refine (impl_AlphabetOfProcesses.calls kj6 t548 _ _ t553 t562 t563 t566 _ ?side1 ?side2 ?side3 A21.out).mono ?_); (case side1 => have q_ := Aside0.mk (Kd.R_reads' HO_4.out).2.2; exact cQ q_); (case side2 => exact (Kd.R_reads' HO_4.out).2.1); (case side3 => exact TabW.below HT.out (beQ HB)); rintro e w26 ⟨v564, rfl, ho0, hb⟩; have HO565 := Aside0.mk (Kd.R_lower (Kd.R_new' (Kd.R_new' ho0 (Kd.R_lt (kdQ HO_4))) (Kd.R_lt (kdQ HO_553001))) (below_size (beQ HB))); replace HO_4 := Aside0.mk (Kd.R_elder' (kdQ HO_4) (Kd.R_base ho0) hb); replace HO_553001 := Aside0.mk (Kd.R_elder' (kdQ HO_553001) (Kd.R_base ho0) hb); replace BK552 := bb BK552 hb; replace HB := Aside0.mk (below_step (beQ HB) hb); (try clear hb); (try clear hb2); (try clear hk); (try clear hi); (try clear hgw_); (try clear ho0)) | ((with_reducible refine gate_dst (N := 8) rfl ?_); (try (refine gate_guard (by rfl) ?_; dsimp only)); refine box_event ?hg (N := 8) ?hd (cs := #[.int .i64 0, .slice none 0 0]) (t := 28) ?hr ?_; (case hd => rfl); (case hg => rfl); (case hr => first | (go_simp; done) | (go_simp; rfl)); intro gb567 hg w27 hbox hb; replace HO_4 := kb HO_4 hb; replace HO_553001 := kb HO_553001 hb; replace HO565 := kb HO565 hb; have BK567 := Aside0.mk (hbox); have GW567 := Aside0.mk ((by rw [hg]; exact (below_size (beQ HB)) : w.heap.size ≤ gb567)); have GE567 := Aside0.mk ((by rw [hg]; exact (below_size (beQ HB)) : w.heap.size ≤ gb567)); replace HB := Aside0.mk (below_step (beQ HB) hb); have NB552_567 := Aside0.mk ((by rw [hg]; exact Nat.ne_of_lt (blk_lt (blkQ BK552)) : gb552 ≠ gb567)); have NB567_552 := Aside0.mk ((by rw [hg]; exact Nat.ne_of_gt (blk_lt (blkQ BK552)) : gb567 ≠ gb552)); replace BK552 := bb BK552 hb; clear hb hbox hg; have hnb28 := NB567_552.out; have hnc28 := NB552_567.out; have hcz29_0 : w27.cell? ⟨gb567, 0, none⟩ = some (.int .i64 0) := bc BK567 0; have hcz29_1 : w27.cell? ⟨gb567, 1, none⟩ = some (.slice none 0 0) := bc BK567 1; have hfz29_0 := blk_frozen BK567.out 0; have hfz29_1 := blk_frozen BK567.out 1; obtain ⟨Ao30, co30, eo30⟩ := Kd.R_slice HO565.out; subst eo30; have hcz31_0 : w27.cell? ⟨gb552, 0, none⟩ = some (.int .i64 t548) := bc BK552 0; have hcz31_1 : w27.cell? ⟨gb552, 1, none⟩ = some (.slice Ao11 t549.length co11) := bc BK552 1; have hfz31_0 := blk_frozen BK552.out 0; have hfz31_1 := blk_frozen BK552.out 1) | (go_at_call 18; (with_reducible refine (impl_DomainsOf.calls kj6 t548 _ _ t553 t568 t569 _ ?side1 ?side2 ?side3 A22.out).mono ?_); (case side1 => refine (Kd.R_reads' (e := 2) (base := w.heap.size) (ok := fun k_ => (some k_ ≠ (.slice Ao11 t549.length co11 : Value).ownBlock ∧ some k_ ≠ (.slice Ao30 t563.length co30 : Value).ownBlock)) (n := t553.length) (c := co25) ?_).2.2; exact (by (with_reducible repeat (first | apply Kd.R_alloc | apply Kd.R_drewN | apply Kd.R_drew)); exact (Kd.R_mono (Kd.R_far (p := ⟨gb567, 1, none⟩) (Kd.R_far (p := ⟨gb567, 0, none⟩) (Kd.R_types HO_4.out BK567.out (by decide)) (fun _ hk => hk.2) (.int .i64 t562)) (fun _ hk => hk.2) (.slice Ao30 t563.length co30)) (fun _ h_ => h_.1)))); (case side2 => exact (Kd.R_reads' HO_4.out).2.1); (case side3 => exact TabW.below HT.out (beQ HB)); rintro e w32 ⟨v570, rfl, ho0, hb⟩; have HO571 := Aside0.mk (Kd.R_lower (Kd.R_new' (Kd.R_new' (Kd.R_new' ho0 (Kd.R_lt (by (with_reducible repeat (first | apply Kd.R_alloc | apply Kd.R_drewN | apply Kd.R_drew)); exact (Kd.R_mono (Kd.R_far (p := ⟨gb567, 1, none⟩) (Kd.R_far (p := ⟨gb567, 0, none⟩) (Kd.R_types HO_4.out BK567.out (by decide)) (fun _ hk => hk.2) (.int .i64 t562)) (fun _ hk => hk.2) (.slice Ao30 t563.length co30)) (fun _ h_ => h_.1))))) (Kd.R_lt (by (with_reducible repeat (first | apply Kd.R_alloc | apply Kd.R_drewN | apply Kd.R_drew)); exact (Kd.R_mono (Kd.R_far (p := ⟨gb567, 1, none⟩) (Kd.R_far (p := ⟨gb567, 0, none⟩) (Kd.R_types HO_553001.out BK567.out (by decide)) (fun _ hk => hk.2) (.int .i64 t562)) (fun _ hk => hk.2) (.slice Ao30 t563.length co30)) (fun _ h_ => h_.1))))) (Kd.R_lt (by (with_reducible repeat (first | apply Kd.R_alloc | apply Kd.R_drewN | apply Kd.R_drew)); exact (Kd.R_mono (Kd.R_far (p := ⟨gb567, 1, none⟩) (Kd.R_far (p := ⟨gb567, 0, none⟩) (Kd.R_types HO565.out BK567.out (by decide)) (fun _ hk => hk.2) (.int .i64 t562)) (fun _ hk => hk.2) (.slice Ao30 t563.length co30)) (fun _ h_ => h_.1))))) (below_size (beQ HB))); replace HO_4 := Aside0.mk (Kd.R_elder' (by (with_reducible repeat (first | apply Kd.R_alloc | apply Kd.R_drewN | apply Kd.R_drew)); exact (Kd.R_mono (Kd.R_far (p := ⟨gb567, 1, none⟩) (Kd.R_far (p := ⟨gb567, 0, none⟩) (Kd.R_types HO_4.out BK567.out (by decide)) (fun _ hk => hk.2) (.int .i64 t562)) (fun _ hk => hk.2) (.slice Ao30 t563.length co30)) (fun _ h_ => h_.1))) (Kd.R_base ho0) hb); replace HO_553001 := Aside0.mk (Kd.R_elder' (by (with_reducible repeat (first | apply Kd.R_alloc | apply Kd.R_drewN | apply Kd.R_drew)); exact (Kd.R_mono (Kd.R_far (p := ⟨gb567, 1, none⟩) (Kd.R_far (p := ⟨gb567, 0, none⟩) (Kd.R_types HO_553001.out BK567.out (by decide)) (fun _ hk => hk.2) (.int .i64 t562)) (fun _ hk => hk.2) (.slice Ao30 t563.length co30)) (fun _ h_ => h_.1))) (Kd.R_base ho0) hb); replace HO565 := Aside0.mk (Kd.R_elder' (by (with_reducible repeat (first | apply Kd.R_alloc | apply Kd.R_drewN | apply Kd.R_drew)); exact (Kd.R_mono (Kd.R_far (p := ⟨gb567, 1, none⟩) (Kd.R_far (p := ⟨gb567, 0, none⟩) (Kd.R_types HO565.out BK567.out (by decide)) (fun _ hk => hk.2) (.int .i64 t562)) (fun _ hk => hk.2) (.slice Ao30 t563.length co30)) (fun _ h_ => h_.1))) (Kd.R_base ho0) hb); replace BK552 := Aside0.mk (blk_below (blkF BK552) hb); replace BK567 := Aside0.mk (blk_below (g := gb567) (o := .cells #[.int .i64 t562, .slice Ao30 t563.length co30] 28 (0, 0)) (by (with_reducible repeat (first | refine blk_drewN ?_ _ | refine blk_drew ?_ | refine blk_alloc ?_ _)); refine blk_put (cs := #[.int .i64 t562, .slice none 0 0]) ?_ 1 _ rfl; (with_reducible repeat (first | refine blk_drewN ?_ _ | refine blk_drew ?_ | refine blk_alloc ?_ _)); refine blk_put (cs := #[.int .i64 0, .slice none 0 0]) ?_ 0 _ rfl; (with_reducible repeat (first | refine blk_drewN ?_ _ | refine blk_drew ?_ | refine blk_alloc ?_ _)); exact BK567.out) hb); replace HB := Aside0.mk (below_step (beQ HB) hb); (try clear hb); (try clear hb2); (try clear hk); (try clear hi); (try clear hgw_); (try clear ho0))); go_upto_region 12 with (first | (go_at_call 17; (with_reducible refine (impl_AlphabetOfProcesses.calls kj6 t548 _ _ t553 t562 t563 t566 _ ?side1 ?side2 ?side3 A21.out).mono ?_); (case side1 => have q_ := Aside0.mk (Kd.R_reads' HO_4.out).2.2; exact cQ q_); (case side2 => exact (Kd.R_reads' HO_4.out).2.1); (case side3 => exact TabW.below HT.out (beQ HB)); rintro e w26 ⟨v564, rfl, ho0, hb⟩; have HO565 := Aside0.mk (Kd.R_lower (Kd.R_new' (Kd.R_new' ho0 (Kd.R_lt (kdQ HO_4))) (Kd.R_lt (kdQ HO_553001))) (below_size (beQ HB))); replace HO_4 := Aside0.mk (Kd.R_elder' (kdQ HO_4) (Kd.R_base ho0) hb); replace HO_553001 := Aside0.mk (Kd.R_elder' (kdQ HO_553001) (Kd.R_base ho0) hb); replace BK552 := bb BK552 hb; replace HB := Aside0.mk (below_step (beQ HB) hb); (try clear hb); (try clear hb2); (try clear hk); (try clear hi); (try clear hgw_); (try clear ho0)) | ((with_reducible refine gate_dst (N := 8) rfl ?_); (try (refine gate_guard (by rfl) ?_; dsimp only)); refine box_event ?hg (N := 8) ?hd (cs := #[.int .i64 0, .slice none 0 0]) (t := 28) ?hr ?_; (case hd => rfl); (case hg => rfl); (case hr => first | (go_simp; done) | (go_simp; rfl)); intro gb567 hg w27 hbox hb; replace HO_4 := kb HO_4 hb; replace HO_553001 := kb HO_553001 hb; replace HO565 := kb HO565 hb; have BK567 := Aside0.mk (hbox); have GW567 := Aside0.mk ((by rw [hg]; exact (below_size (beQ HB)) : w.heap.size ≤ gb567)); have GE567 := Aside0.mk ((by rw [hg]; exact (below_size (beQ HB)) : w.heap.size ≤ gb567)); replace HB := Aside0.mk (below_step (beQ HB) hb); have NB552_567 := Aside0.mk ((by rw [hg]; exact Nat.ne_of_lt (blk_lt (blkQ BK552)) : gb552 ≠ gb567)); have NB567_552 := Aside0.mk ((by rw [hg]; exact Nat.ne_of_gt (blk_lt (blkQ BK552)) : gb567 ≠ gb552)); replace BK552 := bb BK552 hb; clear hb hbox hg; have hnb28 := NB567_552.out; have hnc28 := NB552_567.out; have hcz29_0 : w27.cell? ⟨gb567, 0, none⟩ = some (.int .i64 0) := bc BK567 0; have hcz29_1 : w27.cell? ⟨gb567, 1, none⟩ = some (.slice none 0 0) := bc BK567 1; have hfz29_0 := blk_frozen BK567.out 0; have hfz29_1 := blk_frozen BK567.out 1; obtain ⟨Ao30, co30, eo30⟩ := Kd.R_slice HO565.out; subst eo30; have hcz31_0 : w27.cell? ⟨gb552, 0, none⟩ = some (.int .i64 t548) := bc BK552 0; have hcz31_1 : w27.cell? ⟨gb552, 1, none⟩ = some (.slice Ao11 t549.length co11) := bc BK552 1; have hfz31_0 := blk_frozen BK552.out 0; have hfz31_1 := blk_frozen BK552.out 1) | (go_at_call 18; (with_reducible refine (impl_DomainsOf.calls kj6 t548 _ _ t553 t568 t569 _ ?side1 ?side2 ?side3 A22.out).mono ?_); (case side1 => refine (Kd.R_reads' (e := 2) (base := w.heap.size) (ok := fun k_ => (some k_ ≠ (.slice Ao11 t549.length co11 : Value).ownBlock ∧ some k_ ≠ (.slice Ao30 t563.length co30 : Value).ownBlock)) (n := t553.length) (c := co25) ?_).2.2; exact (by (with_reducible repeat (first | apply Kd.R_alloc | apply Kd.R_drewN | apply Kd.R_drew)); exact (Kd.R_mono (Kd.R_far (p := ⟨gb567, 1, none⟩) (Kd.R_far (p := ⟨gb567, 0, none⟩) (Kd.R_types HO_4.out BK567.out (by decide)) (fun _ hk => hk.2) (.int .i64 t562)) (fun _ hk => hk.2) (.slice Ao30 t563.length co30)) (fun _ h_ => h_.1)))); (case side2 => exact (Kd.R_reads' HO_4.out).2.1); (case side3 => exact TabW.below HT.out (beQ HB)); rintro e w32 ⟨v570, rfl, ho0, hb⟩; have HO571 := Aside0.mk (Kd.R_lower (Kd.R_new' (Kd.R_new' (Kd.R_new' ho0 (Kd.R_lt (by (with_reducible repeat (first | apply Kd.R_alloc | apply Kd.R_drewN | apply Kd.R_drew)); exact (Kd.R_mono (Kd.R_far (p := ⟨gb567, 1, none⟩) (Kd.R_far (p := ⟨gb567, 0, none⟩) (Kd.R_types HO_4.out BK567.out (by decide)) (fun _ hk => hk.2) (.int .i64 t562)) (fun _ hk => hk.2) (.slice Ao30 t563.length co30)) (fun _ h_ => h_.1))))) (Kd.R_lt (by (with_reducible repeat (first | apply Kd.R_alloc | apply Kd.R_drewN | apply Kd.R_drew)); exact (Kd.R_mono (Kd.R_far (p := ⟨gb567, 1, none⟩) (Kd.R_far (p := ⟨gb567, 0, none⟩) (Kd.R_types HO_553001.out BK567.out (by decide)) (fun _ hk => hk.2) (.int .i64 t562)) (fun _ hk => hk.2) (.slice Ao30 t563.length co30)) (fun _ h_ => h_.1))))) (Kd.R_lt (by (with_reducible repeat (first | apply Kd.R_alloc | apply Kd.R_drewN | apply Kd.R_drew)); exact (Kd.R_mono (Kd.R_far (p := ⟨gb567, 1, none⟩) (Kd.R_far (p := ⟨gb567, 0, none⟩) (Kd.R_types HO565.out BK567.out (by decide)) (fun _ hk => hk.2) (.int .i64 t562)) (fun _ hk => hk.2) (.slice Ao30 t563.length co30)) (fun _ h_ => h_.1))))) (below_size (beQ HB))); replace HO_4 := Aside0.mk (Kd.R_elder' (by (with_reducible repeat (first | apply Kd.R_alloc | apply Kd.R_drewN | apply Kd.R_drew)); exact (Kd.R_mono (Kd.R_far (p := ⟨gb567, 1, none⟩) (Kd.R_far (p := ⟨gb567, 0, none⟩) (Kd.R_types HO_4.out BK567.out (by decide)) (fun _ hk => hk.2) (.int .i64 t562)) (fun _ hk => hk.2) (.slice Ao30 t563.length co30)) (fun _ h_ => h_.1))) (Kd.R_base ho0) hb); replace HO_553001 := Aside0.mk (Kd.R_elder' (by (with_reducible repeat (first | apply Kd.R_alloc | apply Kd.R_drewN | apply Kd.R_drew)); exact (Kd.R_mono (Kd.R_far (p := ⟨gb567, 1, none⟩) (Kd.R_far (p := ⟨gb567, 0, none⟩) (Kd.R_types HO_553001.out BK567.out (by decide)) (fun _ hk => hk.2) (.int .i64 t562)) (fun _ hk => hk.2) (.slice Ao30 t563.length co30)) (fun _ h_ => h_.1))) (Kd.R_base ho0) hb); replace HO565 := Aside0.mk (Kd.R_elder' (by (with_reducible repeat (first | apply Kd.R_alloc | apply Kd.R_drewN | apply Kd.R_drew)); exact (Kd.R_mono (Kd.R_far (p := ⟨gb567, 1, none⟩) (Kd.R_far (p := ⟨gb567, 0, none⟩) (Kd.R_types HO565.out BK567.out (by decide)) (fun _ hk => hk.2) (.int .i64 t562)) (fun _ hk => hk.2) (.slice Ao30 t563.length co30)) (fun _ h_ => h_.1))) (Kd.R_base ho0) hb); replace BK552 := Aside0.mk (blk_below (blkF BK552) hb); replace BK567 := Aside0.mk (blk_below (g := gb567) (o := .cells #[.int .i64 t562, .slice Ao30 t563.length co30] 28 (0, 0)) (by (with_reducible repeat (first | refine blk_drewN ?_ _ | refine blk_drew ?_ | refine blk_alloc ?_ _)); refine blk_put (cs := #[.int .i64 t562, .slice none 0 0]) ?_ 1 _ rfl; (with_reducible repeat (first | refine blk_drewN ?_ _ | refine blk_drew ?_ | refine blk_alloc ?_ _)); refine blk_put (cs := #[.int .i64 0, .slice none 0 0]) ?_ 0 _ rfl; (with_reducible repeat (first | refine blk_drewN ?_ _ | refine blk_drew ?_ | refine blk_alloc ?_ _)); exact BK567.out) hb); replace HB := Aside0.mk (below_step (beQ HB) hb); (try clear hb); (try clear hb2); (try clear hk); (try clear hi); (try clear hgw_); (try clear ho0))))
      (try simp only [Act.put, List.setIfInBounds_toArray, List.set_cons_zero, List.set_cons_succ])
      go_cut [73] (fun v73 wc => ∃ (kq : Nat) (x73_22 : Bool), v73 = .bool x73_22 ∧ Aside0 (laws_FnProcesses.j1 kq t568 x73_22 t548 t549 = some r) ∧ Aside0 (kq ≤ kj6) ∧ Aside0 (Kd.R (Kd.int .i64) 2 wc w.heap.size (fun k_ => some k_ ≠ ((.slice Ao11 t549.length co11) : Value).ownBlock ∧ some k_ ≠ ((.slice Ao30 t563.length co30) : Value).ownBlock) v570 t568) ∧ Aside0 (Kd.R (Kd.int .i64) 2 wc w.heap.size (fun k_ => some k_ ≠ (v570 : Value).ownBlock ∧ some k_ ≠ ((.slice Ao30 t563.length co30) : Value).ownBlock) (.slice Ao11 t549.length co11) t549) ∧ Aside0 (Kd.R (Kd.int .i64) 2 wc w.heap.size (fun k_ => some k_ ≠ (v570 : Value).ownBlock ∧ some k_ ≠ ((.slice Ao11 t549.length co11) : Value).ownBlock) (.slice Ao30 t563.length co30) t563) ∧ Aside0 (wc.heap[gb552]? = some (.cells #[.int .i64 t548, (.slice Ao11 t549.length co11)] 28 (0, 0))) ∧ Aside0 (wc.heap[gb567]? = some (.cells #[.int .i64 t562, (.slice Ao30 t563.length co30)] 28 (0, 0))) ∧ Aside0 (Below w.heap.size w wc))
      case first =>
       have H := HC23.out; clear HC23
       by_cases c33 : t566 = 0
       ·rw [if_pos c33] at H
        have c33b0 : (t566 == 0) = true := beq_iff_eq.mpr c33
        have c33b1 : (t566 != 0) = false := bne_eq_false_iff_eq.mpr c33
        clear c33
        (first | rw [c33b0] | (simp only [i64_w, i32_w]; rw [c33b0]) | skip)
        by_cases c34 : t569 = 0
        ·rw [if_pos c34] at H
         have c34b0 : (t569 == 0) = true := beq_iff_eq.mpr c34
         have c34b1 : (t569 != 0) = false := bne_eq_false_iff_eq.mpr c34
         clear c34; replace H := Option.bind_eq_some_iff.mp H; obtain ⟨t572, A350, H⟩ := H
         replace H : (if t572 = true then (laws_FnProcesses.j1 kj6 t568 ((t568.length : Int) != t548) t548 t549) else (laws_FnProcesses.j1 kj6 t568 true t548 t549)) = some r := H
         have A35 := Aside0.mk A350; clear A350
         by_cases c36 : t572 = true
         ·subst c36
          have H1 : (laws_FnProcesses.j1 kj6 t568 ((t568.length : Int) != t548) t548 t549) = some r := by rw [if_pos rfl] at H; exact H
          clear H; have H := H1; clear H1
          have H' := Aside0.mk H
          clear H; have hnb37 := NB567_552.out; have hnc37 := NB552_567.out
          have hcz38_0 : w32.cell? ⟨gb567, 0, none⟩ = some (.int .i64 t562) := bc BK567 0
          have hcz38_1 : w32.cell? ⟨gb567, 1, none⟩ = some (.slice Ao30 t563.length co30) := bc BK567 1
          have hfz38_0 := blk_frozen BK567.out 0; have hfz38_1 := blk_frozen BK567.out 1
          have hcz39_0 : w32.cell? ⟨gb552, 0, none⟩ = some (.int .i64 t548) := bc BK552 0
          have hcz39_1 : w32.cell? ⟨gb552, 1, none⟩ = some (.slice Ao11 t549.length co11) := bc BK552 1
          have hfz39_0 := blk_frozen BK552.out 0; have hfz39_1 := blk_frozen BK552.out 1
          go_wp2_with (first | (go_at_call 19; (with_reducible refine (laws_likeAlphabet5.calls kj6 t562 _ _ t563 t548 _ _ t549 true _ ?side1 ?side2 ?side3 ?side4 A35.out).mono ?_); (case side1 => have q_ := Aside0.mk (Kd.R_reads' HO565.out).2.2; exact cQ q_); (case side2 => exact (Kd.R_reads' HO565.out).2.1); (case side3 => have q_ := Aside0.mk (Kd.R_reads' HO_553001.out).2.2; exact cQ q_); (case side4 => exact (Kd.R_reads' HO_553001.out).2.1); rintro e w40 ⟨rfl, hb⟩; replace HO_4 := kb HO_4 hb; replace HO_553001 := kb HO_553001 hb; replace HO565 := kb HO565 hb; replace HO571 := kb HO571 hb; replace BK552 := bb BK552 hb; replace BK567 := bb BK567 hb; replace HB := Aside0.mk (below_step (beQ HB) hb); (try clear hb); (try clear hb2); (try clear hk); (try clear hi); (try clear hgw_); obtain ⟨Ao41, co41, eo41⟩ := Kd.R_slice HO571.out; subst eo41; have hcz42_0 : w40.cell? ⟨gb552, 0, none⟩ = some (.int .i64 t548) := bc BK552 0; have hcz42_1 : w40.cell? ⟨gb552, 1, none⟩ = some (.slice Ao11 t549.length co11) := bc BK552 1; have hfz42_0 := blk_frozen BK552.out 0; have hfz42_1 := blk_frozen BK552.out 1))
          repeat (go_quiet (first | (go_at_call 19; (with_reducible refine (laws_likeAlphabet5.calls kj6 t562 _ _ t563 t548 _ _ t549 true _ ?side1 ?side2 ?side3 ?side4 A35.out).mono ?_); (case side1 => have q_ := Aside0.mk (Kd.R_reads' HO565.out).2.2; exact cQ q_); (case side2 => exact (Kd.R_reads' HO565.out).2.1); (case side3 => have q_ := Aside0.mk (Kd.R_reads' HO_553001.out).2.2; exact cQ q_); (case side4 => exact (Kd.R_reads' HO_553001.out).2.1); rintro e w40 ⟨rfl, hb⟩; replace HO_4 := kb HO_4 hb; replace HO_553001 := kb HO_553001 hb; replace HO565 := kb HO565 hb; replace HO571 := kb HO571 hb; replace BK552 := bb BK552 hb; replace BK567 := bb BK567 hb; replace HB := Aside0.mk (below_step (beQ HB) hb); (try clear hb); (try clear hb2); (try clear hk); (try clear hi); (try clear hgw_); obtain ⟨Ao41, co41, eo41⟩ := Kd.R_slice HO571.out; subst eo41; have hcz42_0 : w40.cell? ⟨gb552, 0, none⟩ = some (.int .i64 t548) := bc BK552 0; have hcz42_1 : w40.cell? ⟨gb552, 1, none⟩ = some (.slice Ao11 t549.length co11) := bc BK552 1; have hfz42_0 := blk_frozen BK552.out 0; have hfz42_1 := blk_frozen BK552.out 1)); try go_wp2_with (first | (go_at_call 19; (with_reducible refine (laws_likeAlphabet5.calls kj6 t562 _ _ t563 t548 _ _ t549 true _ ?side1 ?side2 ?side3 ?side4 A35.out).mono ?_); (case side1 => have q_ := Aside0.mk (Kd.R_reads' HO565.out).2.2; exact cQ q_); (case side2 => exact (Kd.R_reads' HO565.out).2.1); (case side3 => have q_ := Aside0.mk (Kd.R_reads' HO_553001.out).2.2; exact cQ q_); (case side4 => exact (Kd.R_reads' HO_553001.out).2.1); rintro e w40 ⟨rfl, hb⟩; replace HO_4 := kb HO_4 hb; replace HO_553001 := kb HO_553001 hb; replace HO565 := kb HO565 hb; replace HO571 := kb HO571 hb; replace BK552 := bb BK552 hb; replace BK567 := bb BK567 hb; replace HB := Aside0.mk (below_step (beQ HB) hb); (try clear hb); (try clear hb2); (try clear hk); (try clear hi); (try clear hgw_); obtain ⟨Ao41, co41, eo41⟩ := Kd.R_slice HO571.out; subst eo41; have hcz42_0 : w40.cell? ⟨gb552, 0, none⟩ = some (.int .i64 t548) := bc BK552 0; have hcz42_1 : w40.cell? ⟨gb552, 1, none⟩ = some (.slice Ao11 t549.length co11) := bc BK552 1; have hfz42_0 := blk_frozen BK552.out 0; have hfz42_1 := blk_frozen BK552.out 1)))
          go_meet
          case rel => exact ⟨_, (((t568.length : Int) != t548)), sz, H', ⟨by have := HJ6.out; first | omega | exact Nat.le_refl _⟩, ⟨by (with_reducible repeat (first | apply Kd.R_alloc | apply Kd.R_drewN | apply Kd.R_drew)); exact Kd.R_mono HO571.out (fun _ hk => ⟨hk.1.2, hk.2⟩)⟩, ⟨by (with_reducible repeat (first | apply Kd.R_alloc | apply Kd.R_drewN | apply Kd.R_drew)); exact Kd.R_mono HO_553001.out (fun _ hk => ⟨hk.2, hk.1.2⟩)⟩, ⟨by (with_reducible repeat (first | apply Kd.R_alloc | apply Kd.R_drewN | apply Kd.R_drew)); exact Kd.R_mono HO565.out (fun _ hk => ⟨hk.2, hk.1.2⟩)⟩, ⟨blkQ BK552⟩, ⟨blkQ BK567⟩, ⟨beQ HB⟩⟩
         ·replace c36 := Bool.eq_false_iff.mpr c36
          subst c36
          have H1 : (laws_FnProcesses.j1 kj6 t568 true t548 t549) = some r := by rw [if_neg (show ¬ (false = true) by decide)] at H; exact H
          clear H; have H := H1; clear H1
          have H' := Aside0.mk H
          clear H; have hnb43 := NB567_552.out; have hnc43 := NB552_567.out
          have hcz44_0 : w32.cell? ⟨gb567, 0, none⟩ = some (.int .i64 t562) := bc BK567 0
          have hcz44_1 : w32.cell? ⟨gb567, 1, none⟩ = some (.slice Ao30 t563.length co30) := bc BK567 1
          have hfz44_0 := blk_frozen BK567.out 0; have hfz44_1 := blk_frozen BK567.out 1
          have hcz45_0 : w32.cell? ⟨gb552, 0, none⟩ = some (.int .i64 t548) := bc BK552 0
          have hcz45_1 : w32.cell? ⟨gb552, 1, none⟩ = some (.slice Ao11 t549.length co11) := bc BK552 1
          have hfz45_0 := blk_frozen BK552.out 0; have hfz45_1 := blk_frozen BK552.out 1
          go_wp2_with (first | (go_at_call 19; (with_reducible refine (laws_likeAlphabet5.calls kj6 t562 _ _ t563 t548 _ _ t549 false _ ?side1 ?side2 ?side3 ?side4 A35.out).mono ?_); (case side1 => have q_ := Aside0.mk (Kd.R_reads' HO565.out).2.2; exact cQ q_); (case side2 => exact (Kd.R_reads' HO565.out).2.1); (case side3 => have q_ := Aside0.mk (Kd.R_reads' HO_553001.out).2.2; exact cQ q_); (case side4 => exact (Kd.R_reads' HO_553001.out).2.1); rintro e w46 ⟨rfl, hb⟩; replace HO_4 := kb HO_4 hb; replace HO_553001 := kb HO_553001 hb; replace HO565 := kb HO565 hb; replace HO571 := kb HO571 hb; replace BK552 := bb BK552 hb; replace BK567 := bb BK567 hb; replace HB := Aside0.mk (below_step (beQ HB) hb); (try clear hb); (try clear hb2); (try clear hk); (try clear hi); (try clear hgw_)))
          repeat (go_quiet (first | (go_at_call 19; (with_reducible refine (laws_likeAlphabet5.calls kj6 t562 _ _ t563 t548 _ _ t549 false _ ?side1 ?side2 ?side3 ?side4 A35.out).mono ?_); (case side1 => have q_ := Aside0.mk (Kd.R_reads' HO565.out).2.2; exact cQ q_); (case side2 => exact (Kd.R_reads' HO565.out).2.1); (case side3 => have q_ := Aside0.mk (Kd.R_reads' HO_553001.out).2.2; exact cQ q_); (case side4 => exact (Kd.R_reads' HO_553001.out).2.1); rintro e w46 ⟨rfl, hb⟩; replace HO_4 := kb HO_4 hb; replace HO_553001 := kb HO_553001 hb; replace HO565 := kb HO565 hb; replace HO571 := kb HO571 hb; replace BK552 := bb BK552 hb; replace BK567 := bb BK567 hb; replace HB := Aside0.mk (below_step (beQ HB) hb); (try clear hb); (try clear hb2); (try clear hk); (try clear hi); (try clear hgw_))); try go_wp2_with (first | (go_at_call 19; (with_reducible refine (laws_likeAlphabet5.calls kj6 t562 _ _ t563 t548 _ _ t549 false _ ?side1 ?side2 ?side3 ?side4 A35.out).mono ?_); (case side1 => have q_ := Aside0.mk (Kd.R_reads' HO565.out).2.2; exact cQ q_); (case side2 => exact (Kd.R_reads' HO565.out).2.1); (case side3 => have q_ := Aside0.mk (Kd.R_reads' HO_553001.out).2.2; exact cQ q_); (case side4 => exact (Kd.R_reads' HO_553001.out).2.1); rintro e w46 ⟨rfl, hb⟩; replace HO_4 := kb HO_4 hb; replace HO_553001 := kb HO_553001 hb; replace HO565 := kb HO565 hb; replace HO571 := kb HO571 hb; replace BK552 := bb BK552 hb; replace BK567 := bb BK567 hb; replace HB := Aside0.mk (below_step (beQ HB) hb); (try clear hb); (try clear hb2); (try clear hk); (try clear hi); (try clear hgw_))))
          go_meet
          case rel => exact ⟨_, (true), sz, H', ⟨by have := HJ6.out; first | omega | exact Nat.le_refl _⟩, ⟨by (with_reducible repeat (first | apply Kd.R_alloc | apply Kd.R_drewN | apply Kd.R_drew)); exact Kd.R_mono HO571.out (fun _ hk => ⟨hk.1.2, hk.2⟩)⟩, ⟨by (with_reducible repeat (first | apply Kd.R_alloc | apply Kd.R_drewN | apply Kd.R_drew)); exact Kd.R_mono HO_553001.out (fun _ hk => ⟨hk.2, hk.1.2⟩)⟩, ⟨by (with_reducible repeat (first | apply Kd.R_alloc | apply Kd.R_drewN | apply Kd.R_drew)); exact Kd.R_mono HO565.out (fun _ hk => ⟨hk.2, hk.1.2⟩)⟩, ⟨blkQ BK552⟩, ⟨blkQ BK567⟩, ⟨beQ HB⟩⟩
        ·rw [if_neg c34] at H
         have c34b0 : (t569 == 0) = false := beq_eq_false_iff_ne.mpr c34
         have c34b1 : (t569 != 0) = true := bne_iff_ne.mpr c34
         have H' := Aside0.mk H
         clear H
         go_wp2
         repeat (go_quiet (fail); try go_wp2)
         go_meet
         case rel => exact ⟨_, (true), sz, H', ⟨by have := HJ6.out; first | omega | exact Nat.le_refl _⟩, ⟨by (with_reducible repeat (first | apply Kd.R_alloc | apply Kd.R_drewN | apply Kd.R_drew)); exact Kd.R_mono HO571.out (fun _ hk => ⟨hk.1.2, hk.2⟩)⟩, ⟨by (with_reducible repeat (first | apply Kd.R_alloc | apply Kd.R_drewN | apply Kd.R_drew)); exact Kd.R_mono HO_553001.out (fun _ hk => ⟨hk.2, hk.1.2⟩)⟩, ⟨by (with_reducible repeat (first | apply Kd.R_alloc | apply Kd.R_drewN | apply Kd.R_drew)); exact Kd.R_mono HO565.out (fun _ hk => ⟨hk.2, hk.1.2⟩)⟩, ⟨blkQ BK552⟩, ⟨blkQ BK567⟩, ⟨beQ HB⟩⟩
       ·rw [if_neg c33] at H
        have c33b0 : (t566 == 0) = false := beq_eq_false_iff_ne.mpr c33
        have c33b1 : (t566 != 0) = true := bne_iff_ne.mpr c33
        (first | rw [c33b0] | (simp only [i64_w, i32_w]; rw [c33b0]) | skip)
        have H' := Aside0.mk H
        clear H
        go_wp2
        repeat (go_quiet (fail); try go_wp2)
        go_meet
        case rel => exact ⟨_, (true), sz, H', ⟨by have := HJ6.out; first | omega | exact Nat.le_refl _⟩, ⟨by (with_reducible repeat (first | apply Kd.R_alloc | apply Kd.R_drewN | apply Kd.R_drew)); exact Kd.R_mono HO571.out (fun _ hk => ⟨hk.1.2, hk.2⟩)⟩, ⟨by (with_reducible repeat (first | apply Kd.R_alloc | apply Kd.R_drewN | apply Kd.R_drew)); exact Kd.R_mono HO_553001.out (fun _ hk => ⟨hk.2, hk.1.2⟩)⟩, ⟨by (with_reducible repeat (first | apply Kd.R_alloc | apply Kd.R_drewN | apply Kd.R_drew)); exact Kd.R_mono HO565.out (fun _ hk => ⟨hk.2, hk.1.2⟩)⟩, ⟨blkQ BK552⟩, ⟨blkQ BK567⟩, ⟨beQ HB⟩⟩
      case rest =>
       clear HC23
       try clear c1
       try clear c2
       try clear p2
       try clear c3
       try clear c4
       try clear c15
       try clear c15b0
       try clear c15b1
       try clear c19
       try clear c20
       try clear c20b0
       try clear c20b1
       try clear c28
       try clear c33
       try clear c33b0
       try clear c33b1
       try clear c34
       try clear c34b0
       try clear c34b1
       try clear c36
       try clear c37
       try clear c43
       try clear hcz10_0
       try clear hcz10_1
       try clear hcz13_0
       try clear hcz13_1
       try clear hcz24_0
       try clear hcz24_1
       try clear hcz29_0
       try clear hcz29_1
       try clear hcz31_0
       try clear hcz31_1
       try clear hcz38_0
       try clear hcz38_1
       try clear hcz39_0
       try clear hcz39_1
       try clear hcz42_0
       try clear hcz42_1
       try clear hcz44_0
       try clear hcz44_1
       try clear hcz45_0
       try clear hcz45_1
       try clear hfz10_0
       try clear hfz10_1
       try clear hfz13_0
       try clear hfz13_1
       try clear hfz24_0
       try clear hfz24_1
       try clear hfz29_0
       try clear hfz29_1
       try clear hfz31_0
       try clear hfz31_1
       try clear hfz38_0
       try clear hfz38_1
       try clear hfz39_0
       try clear hfz39_1
       try clear hfz42_0
       try clear hfz42_1
       try clear hfz44_0
       try clear hfz44_1
       try clear hfz45_0
       try clear hfz45_1
       try clear p2
       obtain ⟨kq, x73_22, rfl, HA, HJ22, HO_10, HO_553001, HO_568001, BK552, BK567, HB⟩ := hcut
       cases kq with
       | zero => exact absurd HA.out (by simp [laws_FnProcesses.j1])
       | succ kj22 =>
        have H := HA.out; clear HA
        simp only [laws_FnProcesses.j1] at H
        by_cases c47 : x73_22 = true
        ·subst c47
         have H1 : (some false) = some r := by rw [if_pos rfl] at H; exact H
         clear H; have H := H1; clear H1
         obtain rfl := Option.some.inj H
         go_wp2
         repeat (go_quiet (fail); try go_wp2)
         go_ret
         exact ⟨rz, beQ HB⟩
        ·replace c47 := Bool.eq_false_iff.mpr c47
         subst c47
         have H1 : (laws_FnProcesses.l0 kj22 t568 0 t548 t549) = some r := by rw [if_neg (show ¬ (false = true) by decide)] at H; exact H
         clear H; have H := H1; clear H1
         have H' := Aside0.mk H
         clear H
         go_wp2
         repeat (go_quiet (fail); try go_wp2)
         go_loopg [12] kj22 (fun kq v12 w' => ∃ (x12_3 : Int), v12 = .int .i64 x12_3 ∧ Aside0 (laws_FnProcesses.l0 kq t568 x12_3 t548 t549 = some r) ∧ Aside0 (kq ≤ kj22) ∧ Aside0 (Kd.R (Kd.int .i64) 2 w' w.heap.size (fun k_ => some k_ ≠ ((.slice Ao11 t549.length co11) : Value).ownBlock ∧ some k_ ≠ ((.slice Ao30 t563.length co30) : Value).ownBlock) v570 t568) ∧ Aside0 (Kd.R (Kd.int .i64) 2 w' w.heap.size (fun k_ => some k_ ≠ (v570 : Value).ownBlock ∧ some k_ ≠ ((.slice Ao30 t563.length co30) : Value).ownBlock) (.slice Ao11 t549.length co11) t549) ∧ Aside0 (Kd.R (Kd.int .i64) 2 w' w.heap.size (fun k_ => some k_ ≠ (v570 : Value).ownBlock ∧ some k_ ≠ ((.slice Ao11 t549.length co11) : Value).ownBlock) (.slice Ao30 t563.length co30) t563) ∧ Aside0 (w'.heap[gb552]? = some (.cells #[.int .i64 t548, (.slice Ao11 t549.length co11)] 28 (0, 0))) ∧ Aside0 (w'.heap[gb567]? = some (.cells #[.int .i64 t562, (.slice Ao30 t563.length co30)] 28 (0, 0))) ∧ Aside0 (Below w.heap.size w w'))
         case atStart => exact ⟨(0), sz, H', ⟨Nat.le_refl _⟩, ⟨kdQ HO_10⟩, ⟨kdQ HO_553001⟩, ⟨kdQ HO_568001⟩, ⟨blkQ BK552⟩, ⟨blkQ BK567⟩, ⟨beQ HB⟩⟩
         case round =>
          clear H'
          try clear c1
          try clear c2
          try clear p2
          try clear c3
          try clear c4
          try clear c15
          try clear c15b0
          try clear c15b1
          try clear c19
          try clear c20
          try clear c20b0
          try clear c20b1
          try clear c28
          try clear c33
          try clear c33b0
          try clear c33b1
          try clear c34
          try clear c34b0
          try clear c34b1
          try clear c36
          try clear c37
          try clear c43
          try clear c47
          try clear hcz10_0
          try clear hcz10_1
          try clear hcz13_0
          try clear hcz13_1
          try clear hcz24_0
          try clear hcz24_1
          try clear hcz29_0
          try clear hcz29_1
          try clear hcz31_0
          try clear hcz31_1
          try clear hcz38_0
          try clear hcz38_1
          try clear hcz39_0
          try clear hcz39_1
          try clear hcz42_0
          try clear hcz42_1
          try clear hcz44_0
          try clear hcz44_1
          try clear hcz45_0
          try clear hcz45_1
          try clear hfz10_0
          try clear hfz10_1
          try clear hfz13_0
          try clear hfz13_1
          try clear hfz24_0
          try clear hfz24_1
          try clear hfz29_0
          try clear hfz29_1
          try clear hfz31_0
          try clear hfz31_1
          try clear hfz38_0
          try clear hfz38_1
          try clear hfz39_0
          try clear hfz39_1
          try clear hfz42_0
          try clear hfz42_1
          try clear hfz44_0
          try clear hfz44_1
          try clear hfz45_0
          try clear hfz45_1
          try clear p2
          obtain ⟨x12_3, rfl, HA, HK3, HO_10, HO_553001, HO_568001, BK552, BK567, HB⟩ := hrel
          cases gk with
          | zero => exact absurd HA.out (by simp [laws_FnProcesses.l0])
          | succ k3 =>
           have H := HA.out; clear HA
           simp only [laws_FnProcesses.l0] at H
           by_cases c48 : x12_3 < t548
           ·rw [if_pos c48] at H
            have c48b0 : decide (x12_3 < t548) = true := decide_eq_true c48
            clear c48
            have H' := Aside0.mk H
            clear H; have hnb49 := NB552_567.out; have hnc49 := NB567_552.out
            have hcz50_0 : wr.cell? ⟨gb552, 0, none⟩ = some (.int .i64 t548) := bc BK552 0
            have hcz50_1 : wr.cell? ⟨gb552, 1, none⟩ = some (.slice Ao11 t549.length co11) := bc BK552 1
            have hfz50_0 := blk_frozen BK552.out 0; have hfz50_1 := blk_frozen BK552.out 1
            go_wp2
            repeat (go_quiet (fail); try go_wp2)
            go_loopg [13] k3 (fun kq v13 w' => ∃ (x13_4 : Int), v13 = .int .i64 x13_4 ∧ Aside0 (laws_FnProcesses.l1 kq t568 x12_3 x13_4 t548 t549 = some r) ∧ Aside0 (kq ≤ k3) ∧ Aside0 (Kd.R (Kd.int .i64) 2 w' w.heap.size (fun k_ => some k_ ≠ ((.slice Ao11 t549.length co11) : Value).ownBlock ∧ some k_ ≠ ((.slice Ao30 t563.length co30) : Value).ownBlock) v570 t568) ∧ Aside0 (Kd.R (Kd.int .i64) 2 w' w.heap.size (fun k_ => some k_ ≠ (v570 : Value).ownBlock ∧ some k_ ≠ ((.slice Ao30 t563.length co30) : Value).ownBlock) (.slice Ao11 t549.length co11) t549) ∧ Aside0 (Kd.R (Kd.int .i64) 2 w' w.heap.size (fun k_ => some k_ ≠ (v570 : Value).ownBlock ∧ some k_ ≠ ((.slice Ao11 t549.length co11) : Value).ownBlock) (.slice Ao30 t563.length co30) t563) ∧ Aside0 (w'.heap[gb552]? = some (.cells #[.int .i64 t548, (.slice Ao11 t549.length co11)] 28 (0, 0))) ∧ Aside0 (w'.heap[gb567]? = some (.cells #[.int .i64 t562, (.slice Ao30 t563.length co30)] 28 (0, 0))) ∧ Aside0 (Below w.heap.size w w'))
            case atStart => exact ⟨(0), sz, H', ⟨Nat.le_refl _⟩, ⟨kdQ HO_10⟩, ⟨kdQ HO_553001⟩, ⟨kdQ HO_568001⟩, ⟨blkQ BK552⟩, ⟨blkQ BK567⟩, ⟨beQ HB⟩⟩
            case round =>
             clear H'
             try clear c1
             try clear c2
             try clear p2
             try clear c3
             try clear c4
             try clear c15
             try clear c15b0
             try clear c15b1
             try clear c19
             try clear c20
             try clear c20b0
             try clear c20b1
             try clear c28
             try clear c33
             try clear c33b0
             try clear c33b1
             try clear c34
             try clear c34b0
             try clear c34b1
             try clear c36
             try clear c37
             try clear c43
             try clear c47
             try clear c48
             try clear c48b0
             try clear c49
             try clear hcz10_0
             try clear hcz10_1
             try clear hcz13_0
             try clear hcz13_1
             try clear hcz24_0
             try clear hcz24_1
             try clear hcz29_0
             try clear hcz29_1
             try clear hcz31_0
             try clear hcz31_1
             try clear hcz38_0
             try clear hcz38_1
             try clear hcz39_0
             try clear hcz39_1
             try clear hcz42_0
             try clear hcz42_1
             try clear hcz44_0
             try clear hcz44_1
             try clear hcz45_0
             try clear hcz45_1
             try clear hcz50_0
             try clear hcz50_1
             try clear hfz10_0
             try clear hfz10_1
             try clear hfz13_0
             try clear hfz13_1
             try clear hfz24_0
             try clear hfz24_1
             try clear hfz29_0
             try clear hfz29_1
             try clear hfz31_0
             try clear hfz31_1
             try clear hfz38_0
             try clear hfz38_1
             try clear hfz39_0
             try clear hfz39_1
             try clear hfz42_0
             try clear hfz42_1
             try clear hfz44_0
             try clear hfz44_1
             try clear hfz45_0
             try clear hfz45_1
             try clear hfz50_0
             try clear hfz50_1
             try clear p2
             obtain ⟨x13_4, rfl, HA, HK4, HO_10, HO_553001, HO_568001, BK552, BK567, HB⟩ := hrel
             cases gk with
             | zero => exact absurd HA.out (by simp [laws_FnProcesses.l1])
             | succ k4 =>
              have H := HA.out; clear HA
              simp only [laws_FnProcesses.l1] at H
              by_cases c51 : x13_4 < t548
              ·rw [if_pos c51] at H
               have c51b0 : decide (x13_4 < t548) = true := decide_eq_true c51
               clear c51; replace H := Option.bind_eq_some_iff.mp H
               obtain ⟨⟨t573, t574⟩, A520, H⟩ := H
               replace H : (if t574 = 0 then (if 0 ≤ x12_3 then (if x12_3 < (t568.length : Int) then (if 0 ≤ x13_4 then (if x13_4 < (t568.length : Int) then (if (t573 != ((Go.bits .and .i64 (rd t568 x12_3) (rd t568 x13_4)) != 0)) = true then (some false) else (laws_FnProcesses.l1 k4 t568 x12_3 (wrap64 (x13_4 + 1)) t548 t549)) else (none)) else (none)) else (none)) else (none)) else (some false)) = some r := H
               have A52 := Aside0.mk A520; clear A520
               by_cases c53 : t574 = 0
               ·rw [if_pos c53] at H
                have c53b0 : (t574 == 0) = true := beq_iff_eq.mpr c53
                have c53b1 : (t574 != 0) = false := bne_eq_false_iff_eq.mpr c53
                clear c53
                by_cases c54 : 0 ≤ x12_3
                ·rw [if_pos c54] at H
                 have c54b0 : decide (0 ≤ x12_3) = true := decide_eq_true c54
                 clear c54
                 by_cases c55 : x12_3 < (t568.length : Int)
                 ·rw [if_pos c55] at H
                  have c55b0 : decide (x12_3 < (t568.length : Int)) = true := decide_eq_true c55
                  clear c55
                  by_cases c56 : 0 ≤ x13_4
                  ·rw [if_pos c56] at H
                   have c56b0 : decide (0 ≤ x13_4) = true := decide_eq_true c56
                   clear c56
                   by_cases c57 : x13_4 < (t568.length : Int)
                   ·rw [if_pos c57] at H
                    have c57b0 : decide (x13_4 < (t568.length : Int)) = true := decide_eq_true c57
                    clear c57
                    by_cases c58 : (t573 != ((Go.bits .and .i64 (rd t568 x12_3) (rd t568 x13_4)) != 0)) = true
                    ·rw [if_pos c58] at H
                     have c58b0 : (t573 != ((Go.bits .and .i64 (rd t568 x12_3) (rd t568 x13_4)) != 0)) = true := c58
                     (try (have c58b1 : decide (t573 = ((Go.bits .and .i64 (rd t568 x12_3) (rd t568 x13_4)) != 0)) = false := by simpa using c58))
                     (try (have c58b2 : (t573 == ((Go.bits .and .i64 (rd t568 x12_3) (rd t568 x13_4)) != 0)) = false := by simpa using c58))
                     (try (have c58b3 : ¬ (t573 = ((Go.bits .and .i64 (rd t568 x12_3) (rd t568 x13_4)) != 0)) := by simpa using c58))
                     clear c58
                     obtain rfl := Option.some.inj H
                     have hnb59 := NB552_567.out; have hnc59 := NB567_552.out
                     have hcz60_0 : wr.cell? ⟨gb552, 0, none⟩ = some (.int .i64 t548) := bc BK552 0
                     have hcz60_1 : wr.cell? ⟨gb552, 1, none⟩ = some (.slice Ao11 t549.length co11) := bc BK552 1
                     have hfz60_0 := blk_frozen BK552.out 0; have hfz60_1 := blk_frozen BK552.out 1
                     go_wp2_with (first | (go_at_call 20; (with_reducible refine (impl_AreDependent.calls k4 t548 _ _ t549 x12_3 x13_4 t573 t574 _ ?side1 ?side2 ?side3 A52.out).mono ?_); (case side1 => have q_ := Aside0.mk (Kd.R_reads' HO_553001.out).2.2; exact cQ q_); (case side2 => exact (Kd.R_reads' HO_553001.out).2.1); (case side3 => exact TabW.below HT.out (beQ HB)); rintro e w61 ⟨rfl, hb⟩; replace HO_10 := kb HO_10 hb; replace HO_553001 := kb HO_553001 hb; replace HO_568001 := kb HO_568001 hb; replace BK552 := bb BK552 hb; replace BK567 := bb BK567 hb; replace HB := Aside0.mk (below_step (beQ HB) hb); (try clear hb); (try clear hb2); (try clear hk); (try clear hi); (try clear hgw_); obtain ⟨Ao62, co62, eo62⟩ := Kd.R_slice HO_10.out; subst eo62; have p575 : 0 ≤ (x12_3 : Int) := of_decide_eq_true (by first | (with_reducible assumption) | assumption); have q575 : x12_3 < (t568.length : Int) := of_decide_eq_true (by first | (with_reducible assumption) | assumption); obtain ⟨ad575, e575, hx575_0⟩ := Kd.at_int (Kd.R_reads' HO_10.out).2.2 x12_3 p575 q575; cases e575; replace p575 := eq_true p575; replace q575 := eq_true q575; have p576 : 0 ≤ (x13_4 : Int) := of_decide_eq_true (by first | (with_reducible assumption) | assumption); have q576 : x13_4 < (t568.length : Int) := of_decide_eq_true (by first | (with_reducible assumption) | assumption); obtain ⟨ad576, e576, hx576_0⟩ := Kd.at_int (Kd.R_reads' HO_10.out).2.2 x13_4 p576 q576; obtain rfl : ad575 = ad576 := (by injection e576); replace p576 := eq_true p576; replace q576 := eq_true q576))
                     repeat (go_quiet (first | (go_at_call 20; (with_reducible refine (impl_AreDependent.calls k4 t548 _ _ t549 x12_3 x13_4 t573 t574 _ ?side1 ?side2 ?side3 A52.out).mono ?_); (case side1 => have q_ := Aside0.mk (Kd.R_reads' HO_553001.out).2.2; exact cQ q_); (case side2 => exact (Kd.R_reads' HO_553001.out).2.1); (case side3 => exact TabW.below HT.out (beQ HB)); rintro e w61 ⟨rfl, hb⟩; replace HO_10 := kb HO_10 hb; replace HO_553001 := kb HO_553001 hb; replace HO_568001 := kb HO_568001 hb; replace BK552 := bb BK552 hb; replace BK567 := bb BK567 hb; replace HB := Aside0.mk (below_step (beQ HB) hb); (try clear hb); (try clear hb2); (try clear hk); (try clear hi); (try clear hgw_); obtain ⟨Ao62, co62, eo62⟩ := Kd.R_slice HO_10.out; subst eo62; have p575 : 0 ≤ (x12_3 : Int) := of_decide_eq_true (by first | (with_reducible assumption) | assumption); have q575 : x12_3 < (t568.length : Int) := of_decide_eq_true (by first | (with_reducible assumption) | assumption); obtain ⟨ad575, e575, hx575_0⟩ := Kd.at_int (Kd.R_reads' HO_10.out).2.2 x12_3 p575 q575; cases e575; replace p575 := eq_true p575; replace q575 := eq_true q575; have p576 : 0 ≤ (x13_4 : Int) := of_decide_eq_true (by first | (with_reducible assumption) | assumption); have q576 : x13_4 < (t568.length : Int) := of_decide_eq_true (by first | (with_reducible assumption) | assumption); obtain ⟨ad576, e576, hx576_0⟩ := Kd.at_int (Kd.R_reads' HO_10.out).2.2 x13_4 p576 q576; obtain rfl : ad575 = ad576 := (by injection e576); replace p576 := eq_true p576; replace q576 := eq_true q576)); try go_wp2_with (first | (go_at_call 20; (with_reducible refine (impl_AreDependent.calls k4 t548 _ _ t549 x12_3 x13_4 t573 t574 _ ?side1 ?side2 ?side3 A52.out).mono ?_); (case side1 => have q_ := Aside0.mk (Kd.R_reads' HO_553001.out).2.2; exact cQ q_); (case side2 => exact (Kd.R_reads' HO_553001.out).2.1); (case side3 => exact TabW.below HT.out (beQ HB)); rintro e w61 ⟨rfl, hb⟩; replace HO_10 := kb HO_10 hb; replace HO_553001 := kb HO_553001 hb; replace HO_568001 := kb HO_568001 hb; replace BK552 := bb BK552 hb; replace BK567 := bb BK567 hb; replace HB := Aside0.mk (below_step (beQ HB) hb); (try clear hb); (try clear hb2); (try clear hk); (try clear hi); (try clear hgw_); obtain ⟨Ao62, co62, eo62⟩ := Kd.R_slice HO_10.out; subst eo62; have p575 : 0 ≤ (x12_3 : Int) := of_decide_eq_true (by first | (with_reducible assumption) | assumption); have q575 : x12_3 < (t568.length : Int) := of_decide_eq_true (by first | (with_reducible assumption) | assumption); obtain ⟨ad575, e575, hx575_0⟩ := Kd.at_int (Kd.R_reads' HO_10.out).2.2 x12_3 p575 q575; cases e575; replace p575 := eq_true p575; replace q575 := eq_true q575; have p576 : 0 ≤ (x13_4 : Int) := of_decide_eq_true (by first | (with_reducible assumption) | assumption); have q576 : x13_4 < (t568.length : Int) := of_decide_eq_true (by first | (with_reducible assumption) | assumption); obtain ⟨ad576, e576, hx576_0⟩ := Kd.at_int (Kd.R_reads' HO_10.out).2.2 x13_4 p576 q576; obtain rfl : ad575 = ad576 := (by injection e576); replace p576 := eq_true p576; replace q576 := eq_true q576)))
                     go_ret
                     exact ⟨rz, beQ HB⟩
                    ·rw [if_neg c58] at H
                     have c58b0 : (t573 != ((Go.bits .and .i64 (rd t568 x12_3) (rd t568 x13_4)) != 0)) = false := by simpa using c58
                     (try (have c58b1 : decide (t573 = ((Go.bits .and .i64 (rd t568 x12_3) (rd t568 x13_4)) != 0)) = true := by simpa using c58))
                     (try (have c58b2 : (t573 == ((Go.bits .and .i64 (rd t568 x12_3) (rd t568 x13_4)) != 0)) = true := by simpa using c58))
                     clear c58
                     have H' := Aside0.mk H
                     clear H; have hnb63 := NB552_567.out; have hnc63 := NB567_552.out
                     have hcz64_0 : wr.cell? ⟨gb552, 0, none⟩ = some (.int .i64 t548) := bc BK552 0
                     have hcz64_1 : wr.cell? ⟨gb552, 1, none⟩ = some (.slice Ao11 t549.length co11) := bc BK552 1
                     have hfz64_0 := blk_frozen BK552.out 0; have hfz64_1 := blk_frozen BK552.out 1
                     go_wp2_with (first | (go_at_call 20; (with_reducible refine (impl_AreDependent.calls k4 t548 _ _ t549 x12_3 x13_4 t573 t574 _ ?side1 ?side2 ?side3 A52.out).mono ?_); (case side1 => have q_ := Aside0.mk (Kd.R_reads' HO_553001.out).2.2; exact cQ q_); (case side2 => exact (Kd.R_reads' HO_553001.out).2.1); (case side3 => exact TabW.below HT.out (beQ HB)); rintro e w65 ⟨rfl, hb⟩; replace HO_10 := kb HO_10 hb; replace HO_553001 := kb HO_553001 hb; replace HO_568001 := kb HO_568001 hb; replace BK552 := bb BK552 hb; replace BK567 := bb BK567 hb; replace HB := Aside0.mk (below_step (beQ HB) hb); (try clear hb); (try clear hb2); (try clear hk); (try clear hi); (try clear hgw_); obtain ⟨Ao66, co66, eo66⟩ := Kd.R_slice HO_10.out; subst eo66; have p575 : 0 ≤ (x12_3 : Int) := of_decide_eq_true (by first | (with_reducible assumption) | assumption); have q575 : x12_3 < (t568.length : Int) := of_decide_eq_true (by first | (with_reducible assumption) | assumption); obtain ⟨ad575, e575, hx575_0⟩ := Kd.at_int (Kd.R_reads' HO_10.out).2.2 x12_3 p575 q575; cases e575; replace p575 := eq_true p575; replace q575 := eq_true q575; have p576 : 0 ≤ (x13_4 : Int) := of_decide_eq_true (by first | (with_reducible assumption) | assumption); have q576 : x13_4 < (t568.length : Int) := of_decide_eq_true (by first | (with_reducible assumption) | assumption); obtain ⟨ad576, e576, hx576_0⟩ := Kd.at_int (Kd.R_reads' HO_10.out).2.2 x13_4 p576 q576; obtain rfl : ad575 = ad576 := (by injection e576); replace p576 := eq_true p576; replace q576 := eq_true q576))
                     repeat (go_quiet (first | (go_at_call 20; (with_reducible refine (impl_AreDependent.calls k4 t548 _ _ t549 x12_3 x13_4 t573 t574 _ ?side1 ?side2 ?side3 A52.out).mono ?_); (case side1 => have q_ := Aside0.mk (Kd.R_reads' HO_553001.out).2.2; exact cQ q_); (case side2 => exact (Kd.R_reads' HO_553001.out).2.1); (case side3 => exact TabW.below HT.out (beQ HB)); rintro e w65 ⟨rfl, hb⟩; replace HO_10 := kb HO_10 hb; replace HO_553001 := kb HO_553001 hb; replace HO_568001 := kb HO_568001 hb; replace BK552 := bb BK552 hb; replace BK567 := bb BK567 hb; replace HB := Aside0.mk (below_step (beQ HB) hb); (try clear hb); (try clear hb2); (try clear hk); (try clear hi); (try clear hgw_); obtain ⟨Ao66, co66, eo66⟩ := Kd.R_slice HO_10.out; subst eo66; have p575 : 0 ≤ (x12_3 : Int) := of_decide_eq_true (by first | (with_reducible assumption) | assumption); have q575 : x12_3 < (t568.length : Int) := of_decide_eq_true (by first | (with_reducible assumption) | assumption); obtain ⟨ad575, e575, hx575_0⟩ := Kd.at_int (Kd.R_reads' HO_10.out).2.2 x12_3 p575 q575; cases e575; replace p575 := eq_true p575; replace q575 := eq_true q575; have p576 : 0 ≤ (x13_4 : Int) := of_decide_eq_true (by first | (with_reducible assumption) | assumption); have q576 : x13_4 < (t568.length : Int) := of_decide_eq_true (by first | (with_reducible assumption) | assumption); obtain ⟨ad576, e576, hx576_0⟩ := Kd.at_int (Kd.R_reads' HO_10.out).2.2 x13_4 p576 q576; obtain rfl : ad575 = ad576 := (by injection e576); replace p576 := eq_true p576; replace q576 := eq_true q576)); try go_wp2_with (first | (go_at_call 20; (with_reducible refine (impl_AreDependent.calls k4 t548 _ _ t549 x12_3 x13_4 t573 t574 _ ?side1 ?side2 ?side3 A52.out).mono ?_); (case side1 => have q_ := Aside0.mk (Kd.R_reads' HO_553001.out).2.2; exact cQ q_); (case side2 => exact (Kd.R_reads' HO_553001.out).2.1); (case side3 => exact TabW.below HT.out (beQ HB)); rintro e w65 ⟨rfl, hb⟩; replace HO_10 := kb HO_10 hb; replace HO_553001 := kb HO_553001 hb; replace HO_568001 := kb HO_568001 hb; replace BK552 := bb BK552 hb; replace BK567 := bb BK567 hb; replace HB := Aside0.mk (below_step (beQ HB) hb); (try clear hb); (try clear hb2); (try clear hk); (try clear hi); (try clear hgw_); obtain ⟨Ao66, co66, eo66⟩ := Kd.R_slice HO_10.out; subst eo66; have p575 : 0 ≤ (x12_3 : Int) := of_decide_eq_true (by first | (with_reducible assumption) | assumption); have q575 : x12_3 < (t568.length : Int) := of_decide_eq_true (by first | (with_reducible assumption) | assumption); obtain ⟨ad575, e575, hx575_0⟩ := Kd.at_int (Kd.R_reads' HO_10.out).2.2 x12_3 p575 q575; cases e575; replace p575 := eq_true p575; replace q575 := eq_true q575; have p576 : 0 ≤ (x13_4 : Int) := of_decide_eq_true (by first | (with_reducible assumption) | assumption); have q576 : x13_4 < (t568.length : Int) := of_decide_eq_true (by first | (with_reducible assumption) | assumption); obtain ⟨ad576, e576, hx576_0⟩ := Kd.at_int (Kd.R_reads' HO_10.out).2.2 x13_4 p576 q576; obtain rfl : ad575 = ad576 := (by injection e576); replace p576 := eq_true p576; replace q576 := eq_true q576)))
                     go_roundg k4
                     case measure => have := HJ6.out; have := HJ22.out; have := HK3.out; have := HK4.out; omega
                     case rel => exact ⟨(wrap64 (x13_4 + 1)), sz, H', ⟨by have := HJ6.out; have := HJ22.out; have := HK3.out; have := HK4.out; omega⟩, ⟨kdQ HO_10⟩, ⟨kdQ HO_553001⟩, ⟨kdQ HO_568001⟩, ⟨blkQ BK552⟩, ⟨blkQ BK567⟩, ⟨beQ HB⟩⟩
                   ·rw [if_neg c57] at H
                    exact absurd H (by simp)
                  ·rw [if_neg c56] at H
                   exact absurd H (by simp)
                 ·rw [if_neg c55] at H
                  exact absurd H (by simp)
                ·rw [if_neg c54] at H
                 exact absurd H (by simp)
               ·rw [if_neg c53] at H
                have c53b0 : (t574 == 0) = false := beq_eq_false_iff_ne.mpr c53
                have c53b1 : (t574 != 0) = true := bne_iff_ne.mpr c53
                obtain rfl := Option.some.inj H
                have hnb67 := NB552_567.out; have hnc67 := NB567_552.out
                have hcz68_0 : wr.cell? ⟨gb552, 0, none⟩ = some (.int .i64 t548) := bc BK552 0
                have hcz68_1 : wr.cell? ⟨gb552, 1, none⟩ = some (.slice Ao11 t549.length co11) := bc BK552 1
                have hfz68_0 := blk_frozen BK552.out 0; have hfz68_1 := blk_frozen BK552.out 1
                go_wp2_with (first | (go_at_call 20; (with_reducible refine (impl_AreDependent.calls k4 t548 _ _ t549 x12_3 x13_4 t573 t574 _ ?side1 ?side2 ?side3 A52.out).mono ?_); (case side1 => have q_ := Aside0.mk (Kd.R_reads' HO_553001.out).2.2; exact cQ q_); (case side2 => exact (Kd.R_reads' HO_553001.out).2.1); (case side3 => exact TabW.below HT.out (beQ HB)); rintro e w69 ⟨rfl, hb⟩; replace HO_10 := kb HO_10 hb; replace HO_553001 := kb HO_553001 hb; replace HO_568001 := kb HO_568001 hb; replace BK552 := bb BK552 hb; replace BK567 := bb BK567 hb; replace HB := Aside0.mk (below_step (beQ HB) hb); (try clear hb); (try clear hb2); (try clear hk); (try clear hi); (try clear hgw_)))
                repeat (go_quiet (first | (go_at_call 20; (with_reducible refine (impl_AreDependent.calls k4 t548 _ _ t549 x12_3 x13_4 t573 t574 _ ?side1 ?side2 ?side3 A52.out).mono ?_); (case side1 => have q_ := Aside0.mk (Kd.R_reads' HO_553001.out).2.2; exact cQ q_); (case side2 => exact (Kd.R_reads' HO_553001.out).2.1); (case side3 => exact TabW.below HT.out (beQ HB)); rintro e w69 ⟨rfl, hb⟩; replace HO_10 := kb HO_10 hb; replace HO_553001 := kb HO_553001 hb; replace HO_568001 := kb HO_568001 hb; replace BK552 := bb BK552 hb; replace BK567 := bb BK567 hb; replace HB := Aside0.mk (below_step (beQ HB) hb); (try clear hb); (try clear hb2); (try clear hk); (try clear hi); (try clear hgw_))); try go_wp2_with (first | (go_at_call 20; (with_reducible refine (impl_AreDependent.calls k4 t548 _ _ t549 x12_3 x13_4 t573 t574 _ ?side1 ?side2 ?side3 A52.out).mono ?_); (case side1 => have q_ := Aside0.mk (Kd.R_reads' HO_553001.out).2.2; exact cQ q_); (case side2 => exact (Kd.R_reads' HO_553001.out).2.1); (case side3 => exact TabW.below HT.out (beQ HB)); rintro e w69 ⟨rfl, hb⟩; replace HO_10 := kb HO_10 hb; replace HO_553001 := kb HO_553001 hb; replace HO_568001 := kb HO_568001 hb; replace BK552 := bb BK552 hb; replace BK567 := bb BK567 hb; replace HB := Aside0.mk (below_step (beQ HB) hb); (try clear hb); (try clear hb2); (try clear hk); (try clear hi); (try clear hgw_))))
                go_ret
                exact ⟨rz, beQ HB⟩
              ·rw [if_neg c51] at H
               have c51b0 : decide (x13_4 < t548) = false := decide_eq_false c51
               clear c51
               have H' := Aside0.mk H
               clear H; have hnb70 := NB552_567.out; have hnc70 := NB567_552.out
               have hcz71_0 : wr.cell? ⟨gb552, 0, none⟩ = some (.int .i64 t548) := bc BK552 0
               have hcz71_1 : wr.cell? ⟨gb552, 1, none⟩ = some (.slice Ao11 t549.length co11) := bc BK552 1
               have hfz71_0 := blk_frozen BK552.out 0; have hfz71_1 := blk_frozen BK552.out 1
               go_wp2
               repeat (go_quiet (fail); try go_wp2)
               go_roundg k4
               case measure => have := HJ6.out; have := HJ22.out; have := HK3.out; have := HK4.out; omega
               case rel => exact ⟨(wrap64 (x12_3 + 1)), sz, H', ⟨by have := HJ6.out; have := HJ22.out; have := HK3.out; have := HK4.out; omega⟩, ⟨kdQ HO_10⟩, ⟨kdQ HO_553001⟩, ⟨kdQ HO_568001⟩, ⟨blkQ BK552⟩, ⟨blkQ BK567⟩, ⟨beQ HB⟩⟩
           ·rw [if_neg c48] at H
            have c48b0 : decide (x12_3 < t548) = false := decide_eq_false c48
            clear c48
            obtain rfl := Option.some.inj H
            have hnb72 := NB552_567.out; have hnc72 := NB567_552.out
            have hcz73_0 : wr.cell? ⟨gb552, 0, none⟩ = some (.int .i64 t548) := bc BK552 0
            have hcz73_1 : wr.cell? ⟨gb552, 1, none⟩ = some (.slice Ao11 t549.length co11) := bc BK552 1
            have hfz73_0 := blk_frozen BK552.out 0; have hfz73_1 := blk_frozen BK552.out 1
            go_wp2
            repeat (go_quiet (fail); try go_wp2)
            go_ret
            exact ⟨rz, beQ HB⟩
     ·rw [if_neg c20] at H
      have c20b0 : (t556 == 0) = false := beq_eq_false_iff_ne.mpr c20
      have c20b1 : (t556 != 0) = true := bne_iff_ne.mpr c20
      obtain rfl := Option.some.inj H
      go_wp2
      repeat (go_quiet (fail); try go_wp2)
      go_ret
      exact ⟨rz, beQ HB⟩
end Go.Proofs.YtdcggbkbcackaaaDoor.G
