-- A copy, with what one law needs, of a text that print.sh or a program of ours wrote
import Derived.Test.YtleeihpmniabhaaDoorZ2G0
import Derived.Test.YtleeihpmniabhaaDoorZ2GQ00a
import Derived.Test.YtleeihpmniabhaaDoorZ2GQ00d
import Derived.Test.YtleeihpmniabhaaDoorZ2GQ02c
import Derived.Test.YtleeihpmniabhaaDoorZ2GQ03a
import Derived.Test.YtleeihpmniabhaaDoorZ2GQ03b
import Derived.Test.YtleeihpmniabhaaDoorZ2GQ05
import Derived.Test.YtleeihpmniabhaaDoorZ2GQ06
namespace Go.Proofs.YtleeihpmniabhaaDoor.G
open Go.RowKit Go.Proofs.YtleeihpmniabhaaDoorW.PrintWords Go.Proofs.YtleeihpmniabhaaDoorW.PrintLast Go.Proofs.YtleeihpmniabhaaDoorW.PrintMore
theorem zLFnNormalFormsx0 {p : Prop} (h : p := by repeat (first | (with_reducible first | exact HB.out | apply below_alloc | apply pw_below_drewN | apply below_drew1 | refine below_set ?_ GE483.out) | exact HB.out)) : p := h
theorem zLFnNormalFormsx1 {p : Prop} (h : p := by repeat (first | (with_reducible first | exact HI497.out | apply IsS76.alloc | apply IsS76.drewN | apply IsS76.drew | apply IsS76.set_1 | apply IsS76.set_2 | refine IsS76.far ?_ NB497_483.out _) | exact HI497.out)) : p := h
theorem zLFnNormalFormsx2 {p : Prop} (h : p := by repeat (first | (with_reducible first | exact HB.out | apply below_alloc | apply pw_below_drewN | apply below_drew1 | refine below_set ?_ (IsS76.ge HI497.out) | refine below_set ?_ GE483.out) | exact HB.out)) : p := h
attribute [local go_sem] max2_int min2_int max_two min_two max_three min_three max_four min_four   -- for this text's walks alone
set_option linter.unusedVariables false
set_option linter.unusedSimpArgs false
def laws_FnNormalForms.j0 : Nat → List Int → List Int → List Int → Int → Bool → Int → List Int → Option (Bool)
 | 0, _, _, _, _, _, _, _ => none
 | k + 1, x0, x4, x5, x6, x55, x484000, x484001 => if x55 = true then (some false) else (if x6 = 0 then ((laws_roll.f k x0 504).bind fun bt494 => ((laws_shuffle5.f k bt494.1 bt494.2.1 bt494.2.2 x484000 x484001 x4).bind fun bt498 => ((impl_NormalForm.f k x484000 x484001 bt498.1).bind fun bt503 => ((impl_AreSameTrace.f k x484000 x484001 bt498.1 x5).bind fun bt507 => ((impl_NormalForm.f k x484000 x484001 x5).bind fun bt509 => ((impl_ContentOf.f k x484000 x484001 x4).bind fun bt513 => ((impl_ContentOf.f k x484000 x484001 x5).bind fun bt517 => (if bt503.2 = 0 then (if bt507.2 = 0 then (if bt509.2 = 0 then (if bt513.2 = 0 then (if bt517.2 = 0 then ((laws_likeInts.f k bt503.1 x5).bind fun t521 => (if t521 = true then (if bt507.1 = true then ((laws_likeInts.f k bt509.1 x5).bind fun t522 => (if t522 = true then ((laws_less5.f k bt498.1 x5).bind fun t523 => (if t523 = true then (some false) else ((laws_likeInts.f k bt513.1 bt517.1).bind fun t524 => (if t524 = true then ((laws_sum.f k bt513.1).bind fun t525 => (some ((x4.length : Int) == t525))) else (some false))))) else (some false))) else (some false)) else (some false))) else (some false)) else (some false)) else (some false)) else (some false)) else (some false))))))))) else (some true))
def laws_FnNormalForms.f (k : Nat) (l0 : List Int) : Option (Bool) := (laws_big.f l0).bind fun t475 => (if t475 = true then (some true) else ((spec_DrawNormalForm.f k l0).bind fun bt476 => ((impl_NormalForm.f k bt476.1 bt476.2.1 bt476.2.2).bind fun bt484 => ((spec_NormalForm.f k bt476.1 bt476.2.1 bt476.2.2).bind fun bt488 => (if bt484.2 = bt488.2 then ((laws_likeInts.f k bt484.1 bt488.1).bind fun t492 => (if t492 = true then ((impl_IsWord.f k bt476.1 bt476.2.1 bt476.2.2).bind fun t493 => (laws_FnNormalForms.j0 k l0 bt476.2.2 bt484.1 bt484.2 (t493 != (bt488.2 == 0)) bt476.1 bt476.2.1)) else (laws_FnNormalForms.j0 k l0 bt476.2.2 bt484.1 bt484.2 true bt476.1 bt476.2.1))) else (laws_FnNormalForms.j0 k l0 bt476.2.2 bt484.1 bt484.2 true bt476.1 bt476.2.1))))))
set_option maxHeartbeats 8000000 in
set_option maxRecDepth 100000 in
theorem laws_FnNormalForms.calls (k : Nat) (A0 : Option Addr) (c0 : Nat) (l0 : List Int) (r : Bool) (w : World) (hr0 : Kd.C (Kd.int .u8) w A0 l0.length l0) (hc0 : l0.length ≤ c0) (hT : TabW w) (h : laws_FnNormalForms.f k l0 = some r) :
  Calls Tryd.prog 3 #[.slice A0 l0.length c0] w fun e w' => e = .returned (.bool r) ∧ Below w.heap.size w w' := by
 have hu26 := Tryd.underlying26; have HT := Aside0.mk hT; clear hT; have HR0 := Aside0.mk hr0; have HC0 := Aside0.mk hc0; clear hr0 hc0; have HB := Aside0.mk (Below.refl w.heap.size w)
 have H : ((laws_big.f l0).bind fun t475 => (if t475 = true then (some true) else ((spec_DrawNormalForm.f k l0).bind fun bt476 => ((impl_NormalForm.f k bt476.1 bt476.2.1 bt476.2.2).bind fun bt484 => ((spec_NormalForm.f k bt476.1 bt476.2.1 bt476.2.2).bind fun bt488 => (if bt484.2 = bt488.2 then ((laws_likeInts.f k bt484.1 bt488.1).bind fun t492 => (if t492 = true then ((impl_IsWord.f k bt476.1 bt476.2.1 bt476.2.2).bind fun t493 => (laws_FnNormalForms.j0 k l0 bt476.2.2 bt484.1 bt484.2 (t493 != (bt488.2 == 0)) bt476.1 bt476.2.1)) else (laws_FnNormalForms.j0 k l0 bt476.2.2 bt484.1 bt484.2 true bt476.1 bt476.2.1))) else (laws_FnNormalForms.j0 k l0 bt476.2.2 bt484.1 bt484.2 true bt476.1 bt476.2.1))))))) = some r := h
 clear h; replace H := Option.bind_eq_some_iff.mp H; obtain ⟨t475, A20, H⟩ := H
 replace H : (if t475 = true then (some true) else ((spec_DrawNormalForm.f k l0).bind fun bt476 => ((impl_NormalForm.f k bt476.1 bt476.2.1 bt476.2.2).bind fun bt484 => ((spec_NormalForm.f k bt476.1 bt476.2.1 bt476.2.2).bind fun bt488 => (if bt484.2 = bt488.2 then ((laws_likeInts.f k bt484.1 bt488.1).bind fun t492 => (if t492 = true then ((impl_IsWord.f k bt476.1 bt476.2.1 bt476.2.2).bind fun t493 => (laws_FnNormalForms.j0 k l0 bt476.2.2 bt484.1 bt484.2 (t493 != (bt488.2 == 0)) bt476.1 bt476.2.1)) else (laws_FnNormalForms.j0 k l0 bt476.2.2 bt484.1 bt484.2 true bt476.1 bt476.2.1))) else (laws_FnNormalForms.j0 k l0 bt476.2.2 bt484.1 bt484.2 true bt476.1 bt476.2.1)))))) = some r := H
 have A2 := Aside0.mk A20; clear A20
 by_cases c3 : t475 = true
 ·subst c3
  have H1 : (some true) = some r := by rw [if_pos rfl] at H; exact H
  clear H; have H := H1; clear H1
  obtain rfl := Option.some.inj H
  go_enter Tryd.func3, Tryd.ntmps3
  go_wp2_with (first | ((with_reducible refine gate_callee (f := 9) rfl ?_); refine goesL_ (some 21) rfl rfl Tryd.func9 (by kernel_rfl) rfl #[.slice A0 l0.length c0] rfl lz ?_; (with_reducible refine (laws_big.calls _ _ l0 true _ ?side1 ?side2 A2.out).mono ?_); (case side1 => have q_ := Aside0.mk HR0.out; exact cQ q_); (case side2 => exact HC0.out); rintro e w' ⟨rfl, ⟨nd, rfl⟩⟩; refine ⟨_, rfl, ?_⟩))
  go_ret
  exact ⟨rz, beQ HB⟩
 ·replace c3 := Bool.eq_false_iff.mpr c3
  subst c3
  have H1 : ((spec_DrawNormalForm.f k l0).bind fun bt476 => ((impl_NormalForm.f k bt476.1 bt476.2.1 bt476.2.2).bind fun bt484 => ((spec_NormalForm.f k bt476.1 bt476.2.1 bt476.2.2).bind fun bt488 => (if bt484.2 = bt488.2 then ((laws_likeInts.f k bt484.1 bt488.1).bind fun t492 => (if t492 = true then ((impl_IsWord.f k bt476.1 bt476.2.1 bt476.2.2).bind fun t493 => (laws_FnNormalForms.j0 k l0 bt476.2.2 bt484.1 bt484.2 (t493 != (bt488.2 == 0)) bt476.1 bt476.2.1)) else (laws_FnNormalForms.j0 k l0 bt476.2.2 bt484.1 bt484.2 true bt476.1 bt476.2.1))) else (laws_FnNormalForms.j0 k l0 bt476.2.2 bt484.1 bt484.2 true bt476.1 bt476.2.1))))) = some r := by rw [if_neg (show ¬ (false = true) by decide)] at H; exact H
  clear H; have H := H1; clear H1; replace H := Option.bind_eq_some_iff.mp H
  obtain ⟨⟨t476, t477, t480⟩, A40, H⟩ := H
  replace H : ((impl_NormalForm.f k t476 t477 t480).bind fun bt484 => ((spec_NormalForm.f k t476 t477 t480).bind fun bt488 => (if bt484.2 = bt488.2 then ((laws_likeInts.f k bt484.1 bt488.1).bind fun t492 => (if t492 = true then ((impl_IsWord.f k t476 t477 t480).bind fun t493 => (laws_FnNormalForms.j0 k l0 t480 bt484.1 bt484.2 (t493 != (bt488.2 == 0)) t476 t477)) else (laws_FnNormalForms.j0 k l0 t480 bt484.1 bt484.2 true t476 t477))) else (laws_FnNormalForms.j0 k l0 t480 bt484.1 bt484.2 true t476 t477)))) = some r := H
  have A4 := Aside0.mk A40; clear A40; replace H := Option.bind_eq_some_iff.mp H
  obtain ⟨⟨t484, t487⟩, A50, H⟩ := H
  replace H : ((spec_NormalForm.f k t476 t477 t480).bind fun bt488 => (if t487 = bt488.2 then ((laws_likeInts.f k t484 bt488.1).bind fun t492 => (if t492 = true then ((impl_IsWord.f k t476 t477 t480).bind fun t493 => (laws_FnNormalForms.j0 k l0 t480 t484 t487 (t493 != (bt488.2 == 0)) t476 t477)) else (laws_FnNormalForms.j0 k l0 t480 t484 t487 true t476 t477))) else (laws_FnNormalForms.j0 k l0 t480 t484 t487 true t476 t477))) = some r := H
  have A5 := Aside0.mk A50; clear A50; replace H := Option.bind_eq_some_iff.mp H
  obtain ⟨⟨t488, t491⟩, A60, H⟩ := H
  replace H : (if t487 = t491 then ((laws_likeInts.f k t484 t488).bind fun t492 => (if t492 = true then ((impl_IsWord.f k t476 t477 t480).bind fun t493 => (laws_FnNormalForms.j0 k l0 t480 t484 t487 (t493 != (t491 == 0)) t476 t477)) else (laws_FnNormalForms.j0 k l0 t480 t484 t487 true t476 t477))) else (laws_FnNormalForms.j0 k l0 t480 t484 t487 true t476 t477)) = some r := H
  have A6 := Aside0.mk A60; clear A60; have HC7 := Aside0.mk H; clear H
  go_enter Tryd.func3, Tryd.ntmps3
  go_upto_region 6 with (first | ((with_reducible refine gate_callee (f := 9) rfl ?_); refine goesL_ (some 21) rfl rfl Tryd.func9 (by kernel_rfl) rfl #[.slice A0 l0.length c0] rfl lz ?_; (with_reducible refine (laws_big.calls _ _ l0 false _ ?side1 ?side2 A2.out).mono ?_); (case side1 => have q_ := Aside0.mk HR0.out; exact cQ q_); (case side2 => exact HC0.out); rintro e w' ⟨rfl, ⟨nd, rfl⟩⟩; refine ⟨_, rfl, ?_⟩) | ((with_reducible refine gate_callee (f := 10) rfl ?_); refine goesL_ (some 24) rfl rfl Tryd.func10 (by kernel_rfl) rfl #[.slice A0 l0.length c0] rfl lz ?_; (with_reducible refine (spec_DrawNormalForm.calls k _ _ l0 t476 t477 t480 _ ?side1 ?side2 A4.out).mono ?_); (case side1 => have q_ := Aside0.mk HR0.out; exact cQ q_); (case side2 => exact HC0.out); rintro e w8 ⟨v478, v481, rfl, ho0, ho1, hb⟩; refine ⟨_, rfl, ?_⟩; have HO479 := Aside0.mk (Kd.R_lower ho0 (below_size (beQ HB))); have HO482 := Aside0.mk (Kd.R_lower ho1 (below_size (beQ HB))); replace HB := Aside0.mk (below_step (beQ HB) hb); (try clear hb); (try clear hb2); (try clear hk); (try clear hi); (try clear hgw_); (try clear ho0); (try clear ho1)) | ((with_reducible refine gate_dst (N := 3) rfl ?_); (try (refine gate_guard (by rfl) ?_; dsimp only)); refine box_event ?hg (N := 3) ?hd (cs := #[.int .i64 0, .slice none 0 0]) (t := 26) ?hr ?_; (case hd => rfl); (case hg => rfl); (case hr => first | (go_simp; done) | (go_simp; rfl)); intro gb483 hg w9 hbox hb; replace HO479 := kb HO479 hb; replace HO482 := kb HO482 hb; have BK483 := Aside0.mk (hbox); have GW483 := Aside0.mk ((by rw [hg]; exact (below_size (beQ HB)) : w.heap.size ≤ gb483)); have GE483 := Aside0.mk ((by rw [hg]; exact (below_size (beQ HB)) : w.heap.size ≤ gb483)); replace HB := Aside0.mk (below_step (beQ HB) hb); clear hb hbox hg; have hcz10_0 : w9.cell? ⟨gb483, 0, none⟩ = some (.int .i64 0) := bc BK483 0; have hcz10_1 : w9.cell? ⟨gb483, 1, none⟩ = some (.slice none 0 0) := bc BK483 1; have hfz10_0 := blk_frozen BK483.out 0; have hfz10_1 := blk_frozen BK483.out 1; obtain ⟨Ao11, co11, eo11⟩ := Kd.R_slice HO479.out; subst eo11) | ((with_reducible refine gate_store (t := 26) (p := 3) rfl ?_); refine store_event (t := 26) (p := 3) (v := ?vo_w12) (w1 := ((w9.setCell ⟨gb483, 0, none⟩ (.int .i64 t476)).setCell ⟨gb483, 1, none⟩ (.slice Ao11 t477.length co11))) ?hg ?ho ?hn ?hr ?_; (case ho => rfl); (case hg => rfl); (case hn => rfl); (case hr => first | (go_simp; done) | (go_simp; rfl)); intro w12 hw; have n0_ : Aside0 (Kd.R (Kd.int .i64) 2 w12 w.heap.size (fun k_ => some k_ ≠ (v481 : Value).ownBlock) (.slice Ao11 t477.length co11) t477) := ⟨(by rw [hw]; exact (by (with_reducible repeat (first | apply Kd.R_alloc | apply Kd.R_drewN | apply Kd.R_drew)); exact Kd.R_mono (Kd.R_far (p := ⟨gb483, 1, none⟩) (Kd.R_far (p := ⟨gb483, 0, none⟩) (Kd.R_types HO479.out BK483.out (by decide)) (fun _ hk => hk.2) (.int .i64 t476)) (fun _ hk => hk.2) (.slice Ao11 t477.length co11)) (fun _ hk => hk.1)))⟩; have n1_ : Aside0 (Kd.R (Kd.int .i64) 2 w12 w.heap.size (fun k_ => some k_ ≠ (.slice Ao11 t477.length co11 : Value).ownBlock) v481 t480) := ⟨(by rw [hw]; exact (by (with_reducible repeat (first | apply Kd.R_alloc | apply Kd.R_drewN | apply Kd.R_drew)); exact Kd.R_mono (Kd.R_far (p := ⟨gb483, 1, none⟩) (Kd.R_far (p := ⟨gb483, 0, none⟩) (Kd.R_types HO482.out BK483.out (by decide)) (fun _ hk => hk.2) (.int .i64 t476)) (fun _ hk => hk.2) (.slice Ao11 t477.length co11)) (fun _ hk => hk.1)))⟩; have n2_ : Aside0 (w12.heap[gb483]? = some (.cells #[.int .i64 t476, .slice Ao11 t477.length co11] 26 (0, 0))) := ⟨(by rw [hw]; exact (by (with_reducible repeat (first | refine blk_drewN ?_ _ | refine blk_drew ?_ | refine blk_alloc ?_ _)); refine blk_put (cs := #[.int .i64 t476, .slice none 0 0]) ?_ 1 _ rfl; (with_reducible repeat (first | refine blk_drewN ?_ _ | refine blk_drew ?_ | refine blk_alloc ?_ _)); refine blk_put (cs := #[.int .i64 0, .slice none 0 0]) ?_ 0 _ rfl; (with_reducible repeat (first | refine blk_drewN ?_ _ | refine blk_drew ?_ | refine blk_alloc ?_ _)); exact BK483.out))⟩; have n3_ : Aside0 (Below w.heap.size w w12) := ⟨(by rw [hw]; exact (beQ HB))⟩; clear hw; clear HO479; clear HO482; clear BK483; clear HB; have HO479 := n0_; have HO482 := n1_; have BK483 := n2_; have HB := n3_; clear n0_ n1_ n2_ n3_; have hcz13_0 : w12.cell? ⟨gb483, 0, none⟩ = some (.int .i64 t476) := bc BK483 0; have hcz13_1 : w12.cell? ⟨gb483, 1, none⟩ = some (.slice Ao11 t477.length co11) := bc BK483 1; have hfz13_0 := blk_frozen BK483.out 0; have hfz13_1 := blk_frozen BK483.out 1; obtain ⟨Ao14, co14, eo14⟩ := Kd.R_slice HO482.out; subst eo14) | ((with_reducible refine gate_callee (f := 11) rfl ?_); refine goesL_ (some 30) rfl rfl Tryd.func11 (by kernel_rfl) rfl #[.agg #[.int .i64 t476, .slice Ao11 t477.length co11], .slice Ao14 t480.length co14] rfl lz ?_; (with_reducible refine (impl_NormalForm.calls k t476 _ _ t477 (fun k_ => some k_ = (.slice Ao14 t480.length co14 : Value).ownBlock) _ _ t480 t484 t487 _ ?side1 ?side2 ?side3 ?side4 A5.out).mono ?_); (case side1 => have q_ := Aside0.mk (Kd.R_reads' HO479.out).2.2; exact cQ q_); (case side2 => exact (Kd.R_reads' HO479.out).2.1); (case side3 => exact Kd.R_V (Kd.R_tight rfl (Kd.R_types (HO482.out) BK483.out (by decide)))); (case side4 => exact TabW.below HT.out (beQ HB)); rintro e w15 ⟨v485, rfl, ho0, hb⟩; refine ⟨_, rfl, ?_⟩; have HO486 := Aside0.mk (Kd.R_lower (Kd.R_new' (Kd.R_new' (Kd.R_mono (ok' := fun k_ => True) ho0 (fun _ hk_ => trivial)) (Kd.R_lt (kdQ HO479))) (Kd.R_lt (kdQ HO482))) (below_size (beQ HB))); replace HO479 := Aside0.mk (Kd.R_elder' (kdQ HO479) (Kd.R_base ho0) hb); replace HO482 := Aside0.mk (Kd.R_elder' (kdQ HO482) (Kd.R_base ho0) hb); replace BK483 := bb BK483 hb; replace HB := Aside0.mk (below_step (beQ HB) hb); (try clear hb); (try clear hb2); (try clear hk); (try clear hi); (try clear hgw_); (try clear ho0); have hcz16_0 : w15.cell? ⟨gb483, 0, none⟩ = some (.int .i64 t476) := bc BK483 0; have hcz16_1 : w15.cell? ⟨gb483, 1, none⟩ = some (.slice Ao11 t477.length co11) := bc BK483 1; have hfz16_0 := blk_frozen BK483.out 0; have hfz16_1 := blk_frozen BK483.out 1) | ((with_reducible refine gate_callee (f := 12) rfl ?_); refine goesL_ (some 36) rfl rfl Tryd.func12 (by kernel_rfl) rfl #[.agg #[.int .i64 t476, .slice Ao11 t477.length co11], .slice Ao14 t480.length co14] rfl lz ?_; (with_reducible refine (spec_NormalForm.calls k t476 _ _ t477 _ _ t480 t488 t491 _ ?side1 ?side2 ?side3 ?side4 A6.out).mono ?_); (case side1 => have q_ := Aside0.mk (Kd.R_reads' HO479.out).2.2; exact cQ q_); (case side2 => exact (Kd.R_reads' HO479.out).2.1); (case side3 => have q_ := Aside0.mk (Kd.R_reads' HO482.out).2.2; exact cQ q_); (case side4 => exact (Kd.R_reads' HO482.out).2.1); rintro e w17 ⟨v489, rfl, ho0, hb⟩; refine ⟨_, rfl, ?_⟩; have HO490 := Aside0.mk (Kd.R_lower (Kd.R_new' (Kd.R_new' (Kd.R_new' ho0 (Kd.R_lt (kdQ HO479))) (Kd.R_lt (kdQ HO482))) (Kd.R_lt (kdQ HO486))) (below_size (beQ HB))); replace HO479 := Aside0.mk (Kd.R_elder' (kdQ HO479) (Kd.R_base ho0) hb); replace HO482 := Aside0.mk (Kd.R_elder' (kdQ HO482) (Kd.R_base ho0) hb); replace HO486 := Aside0.mk (Kd.R_elder' (kdQ HO486) (Kd.R_base ho0) hb); replace BK483 := bb BK483 hb; replace HB := Aside0.mk (below_step (beQ HB) hb); (try clear hb); (try clear hb2); (try clear hk); (try clear hi); (try clear hgw_); (try clear ho0)))
  (try simp only [Act.put, List.setIfInBounds_toArray, List.set_cons_zero, List.set_cons_succ])
  go_cut [55] (fun v55 wc => ∃ (kq : Nat) (x55_6 : Bool), v55 = .bool x55_6 ∧ Aside0 (laws_FnNormalForms.j0 kq l0 t480 t484 t487 x55_6 t476 t477 = some r) ∧ Aside0 (kq ≤ k) ∧ Aside0 (Kd.R (Kd.int .i64) 2 wc w.heap.size (fun k_ => some k_ ≠ (v485 : Value).ownBlock ∧ some k_ ≠ ((.slice Ao11 t477.length co11) : Value).ownBlock) (.slice Ao14 t480.length co14) t480) ∧ Aside0 (Kd.R (Kd.int .i64) 2 wc w.heap.size (fun k_ => some k_ ≠ ((.slice Ao14 t480.length co14) : Value).ownBlock ∧ some k_ ≠ ((.slice Ao11 t477.length co11) : Value).ownBlock) v485 t484) ∧ Aside0 (Kd.R (Kd.int .i64) 2 wc w.heap.size (fun k_ => some k_ ≠ ((.slice Ao14 t480.length co14) : Value).ownBlock ∧ some k_ ≠ (v485 : Value).ownBlock) (.slice Ao11 t477.length co11) t477) ∧ Aside0 (wc.heap[gb483]? = some (.cells #[.int .i64 t476, (.slice Ao11 t477.length co11)] 26 (0, 0))) ∧ Aside0 (Below w.heap.size w wc))
  case first =>
   have H := HC7.out; clear HC7
   by_cases c18 : t487 = t491
   ·rw [if_pos c18] at H
    have c18b0 : (t487 == t491) = true := beq_iff_eq.mpr c18
    have c18b1 : (t487 != t491) = false := bne_eq_false_iff_eq.mpr c18
    clear c18
    (first | rw [c18b0] | (simp only [i64_w, i32_w]; rw [c18b0]) | skip)
    replace H := Option.bind_eq_some_iff.mp H; obtain ⟨t492, A190, H⟩ := H
    replace H : (if t492 = true then ((impl_IsWord.f k t476 t477 t480).bind fun t493 => (laws_FnNormalForms.j0 k l0 t480 t484 t487 (t493 != (t491 == 0)) t476 t477)) else (laws_FnNormalForms.j0 k l0 t480 t484 t487 true t476 t477)) = some r := H
    have A19 := Aside0.mk A190; clear A190
    by_cases c20 : t492 = true
    ·subst c20
     have H1 : ((impl_IsWord.f k t476 t477 t480).bind fun t493 => (laws_FnNormalForms.j0 k l0 t480 t484 t487 (t493 != (t491 == 0)) t476 t477)) = some r := by rw [if_pos rfl] at H; exact H
     clear H; have H := H1; clear H1; replace H := Option.bind_eq_some_iff.mp H; obtain ⟨t493, A210, H⟩ := H
     replace H : (laws_FnNormalForms.j0 k l0 t480 t484 t487 (t493 != (t491 == 0)) t476 t477) = some r := H
     have A21 := Aside0.mk A210; clear A210
     have H' := Aside0.mk H
     clear H; obtain ⟨Ao22, co22, eo22⟩ := Kd.R_slice HO486.out; subst eo22; obtain ⟨Ao23, co23, eo23⟩ := Kd.R_slice HO490.out; subst eo23
     go_wp2_with (first | (go_at_call 13; (with_reducible refine (laws_likeInts.calls k _ _ t484 _ _ t488 true _ ?side1 ?side2 ?side3 ?side4 A19.out).mono ?_); (case side1 => have q_ := Aside0.mk (Kd.R_reads' HO486.out).2.2; exact cQ q_); (case side2 => exact (Kd.R_reads' HO486.out).2.1); (case side3 => have q_ := Aside0.mk (Kd.R_reads' HO490.out).2.2; exact cQ q_); (case side4 => exact (Kd.R_reads' HO490.out).2.1); rintro e w' ⟨rfl, ⟨nd, rfl⟩⟩; have hcz24_0 : w17.cell? ⟨gb483, 0, none⟩ = some (.int .i64 t476) := bc BK483 0; have hcz24_1 : w17.cell? ⟨gb483, 1, none⟩ = some (.slice Ao11 t477.length co11) := bc BK483 1; have hfz24_0 := blk_frozen BK483.out 0; have hfz24_1 := blk_frozen BK483.out 1) | (go_at_call 14; (with_reducible refine (impl_IsWord.calls k t476 _ _ t477 _ _ t480 t493 _ ?side1 ?side2 ?side3 ?side4 ?side5 A21.out).mono ?_); (case side1 => have q_ := Aside0.mk (Kd.R_reads' HO479.out).2.2; exact cQ q_); (case side2 => exact (Kd.R_reads' HO479.out).2.1); (case side3 => have q_ := Aside0.mk (Kd.R_reads' HO482.out).2.2; exact cQ q_); (case side4 => exact (Kd.R_reads' HO482.out).2.1); (case side5 => exact TabW.below HT.out (beQ HB)); rintro e w25 ⟨rfl, hb⟩; replace HO479 := kb HO479 hb; replace HO482 := kb HO482 hb; replace HO486 := kb HO486 hb; replace HO490 := kb HO490 hb; replace BK483 := bb BK483 hb; replace HB := Aside0.mk (below_step (beQ HB) hb); (try clear hb); (try clear hb2); (try clear hk); (try clear hi); (try clear hgw_)))
     go_meet
     case rel => exact ⟨_, ((t493 != (t491 == 0))), sz, H', ⟨by first | omega | exact Nat.le_refl _⟩, ⟨by (with_reducible repeat (first | apply Kd.R_alloc | apply Kd.R_drewN | apply Kd.R_drew)); exact Kd.R_mono HO482.out (fun _ hk => ⟨hk.1.2, hk.1.1⟩)⟩, ⟨by (with_reducible repeat (first | apply Kd.R_alloc | apply Kd.R_drewN | apply Kd.R_drew)); exact Kd.R_mono HO486.out (fun _ hk => ⟨hk.1.2, hk.1.1.2⟩)⟩, ⟨by (with_reducible repeat (first | apply Kd.R_alloc | apply Kd.R_drewN | apply Kd.R_drew)); exact Kd.R_mono HO479.out (fun _ hk => ⟨hk.1.1, hk.1.2⟩)⟩, ⟨blkQ BK483⟩, ⟨beQ HB⟩⟩
    ·replace c20 := Bool.eq_false_iff.mpr c20
     subst c20
     have H1 : (laws_FnNormalForms.j0 k l0 t480 t484 t487 true t476 t477) = some r := by rw [if_neg (show ¬ (false = true) by decide)] at H; exact H
     clear H; have H := H1; clear H1
     have H' := Aside0.mk H
     clear H; obtain ⟨Ao26, co26, eo26⟩ := Kd.R_slice HO486.out; subst eo26; obtain ⟨Ao27, co27, eo27⟩ := Kd.R_slice HO490.out; subst eo27
     go_wp2_with (first | (go_at_call 13; (with_reducible refine (laws_likeInts.calls k _ _ t484 _ _ t488 false _ ?side1 ?side2 ?side3 ?side4 A19.out).mono ?_); (case side1 => have q_ := Aside0.mk (Kd.R_reads' HO486.out).2.2; exact cQ q_); (case side2 => exact (Kd.R_reads' HO486.out).2.1); (case side3 => have q_ := Aside0.mk (Kd.R_reads' HO490.out).2.2; exact cQ q_); (case side4 => exact (Kd.R_reads' HO490.out).2.1); rintro e w' ⟨rfl, ⟨nd, rfl⟩⟩))
     go_meet
     case rel => exact ⟨_, (true), sz, H', ⟨by first | omega | exact Nat.le_refl _⟩, ⟨by (with_reducible repeat (first | apply Kd.R_alloc | apply Kd.R_drewN | apply Kd.R_drew)); exact Kd.R_mono HO482.out (fun _ hk => ⟨hk.1.2, hk.1.1⟩)⟩, ⟨by (with_reducible repeat (first | apply Kd.R_alloc | apply Kd.R_drewN | apply Kd.R_drew)); exact Kd.R_mono HO486.out (fun _ hk => ⟨hk.1.2, hk.1.1.2⟩)⟩, ⟨by (with_reducible repeat (first | apply Kd.R_alloc | apply Kd.R_drewN | apply Kd.R_drew)); exact Kd.R_mono HO479.out (fun _ hk => ⟨hk.1.1, hk.1.2⟩)⟩, ⟨blkQ BK483⟩, ⟨beQ HB⟩⟩
   ·rw [if_neg c18] at H
    have c18b0 : (t487 == t491) = false := beq_eq_false_iff_ne.mpr c18
    have c18b1 : (t487 != t491) = true := bne_iff_ne.mpr c18
    (first | rw [c18b0] | (simp only [i64_w, i32_w]; rw [c18b0]) | skip)
    have H' := Aside0.mk H
    clear H
    go_wp2
    go_meet
    case rel => exact ⟨_, (true), sz, H', ⟨by first | omega | exact Nat.le_refl _⟩, ⟨by (with_reducible repeat (first | apply Kd.R_alloc | apply Kd.R_drewN | apply Kd.R_drew)); exact Kd.R_mono HO482.out (fun _ hk => ⟨hk.1.2, hk.1.1⟩)⟩, ⟨by (with_reducible repeat (first | apply Kd.R_alloc | apply Kd.R_drewN | apply Kd.R_drew)); exact Kd.R_mono HO486.out (fun _ hk => ⟨hk.1.2, hk.1.1.2⟩)⟩, ⟨by (with_reducible repeat (first | apply Kd.R_alloc | apply Kd.R_drewN | apply Kd.R_drew)); exact Kd.R_mono HO479.out (fun _ hk => ⟨hk.1.1, hk.1.2⟩)⟩, ⟨blkQ BK483⟩, ⟨beQ HB⟩⟩
  case rest =>
   clear HC7
   try clear c1
   try clear c2
   try clear p2
   try clear c3
   try clear c9
   try clear c10
   try clear c11
   try clear c12
   try clear c18
   try clear c18b0
   try clear c18b1
   try clear c20
   try clear hcz10_0
   try clear hcz10_1
   try clear hcz13_0
   try clear hcz13_1
   try clear hcz16_0
   try clear hcz16_1
   try clear hcz24_0
   try clear hcz24_1
   try clear hfz10_0
   try clear hfz10_1
   try clear hfz13_0
   try clear hfz13_1
   try clear hfz16_0
   try clear hfz16_1
   try clear hfz24_0
   try clear hfz24_1
   obtain ⟨kq, x55_6, rfl, HA, HJ6, HO_4, HO_5, HO_484001, BK483, HB⟩ := hcut
   cases kq with
   | zero => exact absurd HA.out (by simp [laws_FnNormalForms.j0])
   | succ kj6 =>
    have H := HA.out; clear HA
    simp only [laws_FnNormalForms.j0] at H
    by_cases c28 : x55_6 = true
    ·subst c28
     have H1 : (some false) = some r := by rw [if_pos rfl] at H; exact H
     clear H; have H := H1; clear H1
     obtain rfl := Option.some.inj H
     go_wp2
     go_ret
     exact ⟨rz, beQ HB⟩
    ·replace c28 := Bool.eq_false_iff.mpr c28
     subst c28
     have H1 : (if t487 = 0 then ((laws_roll.f kj6 l0 504).bind fun bt494 => ((laws_shuffle5.f kj6 bt494.1 bt494.2.1 bt494.2.2 t476 t477 t480).bind fun bt498 => ((impl_NormalForm.f kj6 t476 t477 bt498.1).bind fun bt503 => ((impl_AreSameTrace.f kj6 t476 t477 bt498.1 t484).bind fun bt507 => ((impl_NormalForm.f kj6 t476 t477 t484).bind fun bt509 => ((impl_ContentOf.f kj6 t476 t477 t480).bind fun bt513 => ((impl_ContentOf.f kj6 t476 t477 t484).bind fun bt517 => (if bt503.2 = 0 then (if bt507.2 = 0 then (if bt509.2 = 0 then (if bt513.2 = 0 then (if bt517.2 = 0 then ((laws_likeInts.f kj6 bt503.1 t484).bind fun t521 => (if t521 = true then (if bt507.1 = true then ((laws_likeInts.f kj6 bt509.1 t484).bind fun t522 => (if t522 = true then ((laws_less5.f kj6 bt498.1 t484).bind fun t523 => (if t523 = true then (some false) else ((laws_likeInts.f kj6 bt513.1 bt517.1).bind fun t524 => (if t524 = true then ((laws_sum.f kj6 bt513.1).bind fun t525 => (some ((t480.length : Int) == t525))) else (some false))))) else (some false))) else (some false)) else (some false))) else (some false)) else (some false)) else (some false)) else (some false)) else (some false))))))))) else (some true)) = some r := by rw [if_neg (show ¬ (false = true) by decide)] at H; exact H
     clear H; have H := H1; clear H1
     by_cases c29 : t487 = 0
     ·rw [if_pos c29] at H
      have c29b0 : (t487 == 0) = true := beq_iff_eq.mpr c29
      have c29b1 : (t487 != 0) = false := bne_eq_false_iff_eq.mpr c29
      clear c29; replace H := Option.bind_eq_some_iff.mp H
      obtain ⟨⟨t494, t495, t496⟩, A300, H⟩ := H
      replace H : ((laws_shuffle5.f kj6 t494 t495 t496 t476 t477 t480).bind fun bt498 => ((impl_NormalForm.f kj6 t476 t477 bt498.1).bind fun bt503 => ((impl_AreSameTrace.f kj6 t476 t477 bt498.1 t484).bind fun bt507 => ((impl_NormalForm.f kj6 t476 t477 t484).bind fun bt509 => ((impl_ContentOf.f kj6 t476 t477 t480).bind fun bt513 => ((impl_ContentOf.f kj6 t476 t477 t484).bind fun bt517 => (if bt503.2 = 0 then (if bt507.2 = 0 then (if bt509.2 = 0 then (if bt513.2 = 0 then (if bt517.2 = 0 then ((laws_likeInts.f kj6 bt503.1 t484).bind fun t521 => (if t521 = true then (if bt507.1 = true then ((laws_likeInts.f kj6 bt509.1 t484).bind fun t522 => (if t522 = true then ((laws_less5.f kj6 bt498.1 t484).bind fun t523 => (if t523 = true then (some false) else ((laws_likeInts.f kj6 bt513.1 bt517.1).bind fun t524 => (if t524 = true then ((laws_sum.f kj6 bt513.1).bind fun t525 => (some ((t480.length : Int) == t525))) else (some false))))) else (some false))) else (some false)) else (some false))) else (some false)) else (some false)) else (some false)) else (some false)) else (some false)))))))) = some r := H
      have A30 := Aside0.mk A300; clear A300; replace H := Option.bind_eq_some_iff.mp H
      obtain ⟨⟨t498, t501, t502⟩, A310, H⟩ := H
      replace H : ((impl_NormalForm.f kj6 t476 t477 t498).bind fun bt503 => ((impl_AreSameTrace.f kj6 t476 t477 t498 t484).bind fun bt507 => ((impl_NormalForm.f kj6 t476 t477 t484).bind fun bt509 => ((impl_ContentOf.f kj6 t476 t477 t480).bind fun bt513 => ((impl_ContentOf.f kj6 t476 t477 t484).bind fun bt517 => (if bt503.2 = 0 then (if bt507.2 = 0 then (if bt509.2 = 0 then (if bt513.2 = 0 then (if bt517.2 = 0 then ((laws_likeInts.f kj6 bt503.1 t484).bind fun t521 => (if t521 = true then (if bt507.1 = true then ((laws_likeInts.f kj6 bt509.1 t484).bind fun t522 => (if t522 = true then ((laws_less5.f kj6 t498 t484).bind fun t523 => (if t523 = true then (some false) else ((laws_likeInts.f kj6 bt513.1 bt517.1).bind fun t524 => (if t524 = true then ((laws_sum.f kj6 bt513.1).bind fun t525 => (some ((t480.length : Int) == t525))) else (some false))))) else (some false))) else (some false)) else (some false))) else (some false)) else (some false)) else (some false)) else (some false)) else (some false))))))) = some r := H
      have A31 := Aside0.mk A310; clear A310; replace H := Option.bind_eq_some_iff.mp H
      obtain ⟨⟨t503, t506⟩, A320, H⟩ := H
      replace H : ((impl_AreSameTrace.f kj6 t476 t477 t498 t484).bind fun bt507 => ((impl_NormalForm.f kj6 t476 t477 t484).bind fun bt509 => ((impl_ContentOf.f kj6 t476 t477 t480).bind fun bt513 => ((impl_ContentOf.f kj6 t476 t477 t484).bind fun bt517 => (if t506 = 0 then (if bt507.2 = 0 then (if bt509.2 = 0 then (if bt513.2 = 0 then (if bt517.2 = 0 then ((laws_likeInts.f kj6 t503 t484).bind fun t521 => (if t521 = true then (if bt507.1 = true then ((laws_likeInts.f kj6 bt509.1 t484).bind fun t522 => (if t522 = true then ((laws_less5.f kj6 t498 t484).bind fun t523 => (if t523 = true then (some false) else ((laws_likeInts.f kj6 bt513.1 bt517.1).bind fun t524 => (if t524 = true then ((laws_sum.f kj6 bt513.1).bind fun t525 => (some ((t480.length : Int) == t525))) else (some false))))) else (some false))) else (some false)) else (some false))) else (some false)) else (some false)) else (some false)) else (some false)) else (some false)))))) = some r := H
      have A32 := Aside0.mk A320; clear A320; replace H := Option.bind_eq_some_iff.mp H
      obtain ⟨⟨t507, t508⟩, A330, H⟩ := H
      replace H : ((impl_NormalForm.f kj6 t476 t477 t484).bind fun bt509 => ((impl_ContentOf.f kj6 t476 t477 t480).bind fun bt513 => ((impl_ContentOf.f kj6 t476 t477 t484).bind fun bt517 => (if t506 = 0 then (if t508 = 0 then (if bt509.2 = 0 then (if bt513.2 = 0 then (if bt517.2 = 0 then ((laws_likeInts.f kj6 t503 t484).bind fun t521 => (if t521 = true then (if t507 = true then ((laws_likeInts.f kj6 bt509.1 t484).bind fun t522 => (if t522 = true then ((laws_less5.f kj6 t498 t484).bind fun t523 => (if t523 = true then (some false) else ((laws_likeInts.f kj6 bt513.1 bt517.1).bind fun t524 => (if t524 = true then ((laws_sum.f kj6 bt513.1).bind fun t525 => (some ((t480.length : Int) == t525))) else (some false))))) else (some false))) else (some false)) else (some false))) else (some false)) else (some false)) else (some false)) else (some false)) else (some false))))) = some r := H
      have A33 := Aside0.mk A330; clear A330; replace H := Option.bind_eq_some_iff.mp H
      obtain ⟨⟨t509, t512⟩, A340, H⟩ := H
      replace H : ((impl_ContentOf.f kj6 t476 t477 t480).bind fun bt513 => ((impl_ContentOf.f kj6 t476 t477 t484).bind fun bt517 => (if t506 = 0 then (if t508 = 0 then (if t512 = 0 then (if bt513.2 = 0 then (if bt517.2 = 0 then ((laws_likeInts.f kj6 t503 t484).bind fun t521 => (if t521 = true then (if t507 = true then ((laws_likeInts.f kj6 t509 t484).bind fun t522 => (if t522 = true then ((laws_less5.f kj6 t498 t484).bind fun t523 => (if t523 = true then (some false) else ((laws_likeInts.f kj6 bt513.1 bt517.1).bind fun t524 => (if t524 = true then ((laws_sum.f kj6 bt513.1).bind fun t525 => (some ((t480.length : Int) == t525))) else (some false))))) else (some false))) else (some false)) else (some false))) else (some false)) else (some false)) else (some false)) else (some false)) else (some false)))) = some r := H
      have A34 := Aside0.mk A340; clear A340; replace H := Option.bind_eq_some_iff.mp H
      obtain ⟨⟨t513, t516⟩, A350, H⟩ := H
      replace H : ((impl_ContentOf.f kj6 t476 t477 t484).bind fun bt517 => (if t506 = 0 then (if t508 = 0 then (if t512 = 0 then (if t516 = 0 then (if bt517.2 = 0 then ((laws_likeInts.f kj6 t503 t484).bind fun t521 => (if t521 = true then (if t507 = true then ((laws_likeInts.f kj6 t509 t484).bind fun t522 => (if t522 = true then ((laws_less5.f kj6 t498 t484).bind fun t523 => (if t523 = true then (some false) else ((laws_likeInts.f kj6 t513 bt517.1).bind fun t524 => (if t524 = true then ((laws_sum.f kj6 t513).bind fun t525 => (some ((t480.length : Int) == t525))) else (some false))))) else (some false))) else (some false)) else (some false))) else (some false)) else (some false)) else (some false)) else (some false)) else (some false))) = some r := H
      have A35 := Aside0.mk A350; clear A350; replace H := Option.bind_eq_some_iff.mp H
      obtain ⟨⟨t517, t520⟩, A360, H⟩ := H
      replace H : (if t506 = 0 then (if t508 = 0 then (if t512 = 0 then (if t516 = 0 then (if t520 = 0 then ((laws_likeInts.f kj6 t503 t484).bind fun t521 => (if t521 = true then (if t507 = true then ((laws_likeInts.f kj6 t509 t484).bind fun t522 => (if t522 = true then ((laws_less5.f kj6 t498 t484).bind fun t523 => (if t523 = true then (some false) else ((laws_likeInts.f kj6 t513 t517).bind fun t524 => (if t524 = true then ((laws_sum.f kj6 t513).bind fun t525 => (some ((t480.length : Int) == t525))) else (some false))))) else (some false))) else (some false)) else (some false))) else (some false)) else (some false)) else (some false)) else (some false)) else (some false)) = some r := H
      have A36 := Aside0.mk A360; clear A360
      by_cases c37 : t506 = 0
      ·rw [if_pos c37] at H
       have c37b0 : (t506 == 0) = true := beq_iff_eq.mpr c37
       have c37b1 : (t506 != 0) = false := bne_eq_false_iff_eq.mpr c37
       clear c37
       by_cases c38 : t508 = 0
       ·rw [if_pos c38] at H
        have c38b0 : (t508 == 0) = true := beq_iff_eq.mpr c38
        have c38b1 : (t508 != 0) = false := bne_eq_false_iff_eq.mpr c38
        clear c38
        by_cases c39 : t512 = 0
        ·rw [if_pos c39] at H
         have c39b0 : (t512 == 0) = true := beq_iff_eq.mpr c39
         have c39b1 : (t512 != 0) = false := bne_eq_false_iff_eq.mpr c39
         clear c39
         by_cases c40 : t516 = 0
         ·rw [if_pos c40] at H
          have c40b0 : (t516 == 0) = true := beq_iff_eq.mpr c40
          have c40b1 : (t516 != 0) = false := bne_eq_false_iff_eq.mpr c40
          clear c40
          by_cases c41 : t520 = 0
          ·rw [if_pos c41] at H
           have c41b0 : (t520 == 0) = true := beq_iff_eq.mpr c41
           have c41b1 : (t520 != 0) = false := bne_eq_false_iff_eq.mpr c41
           clear c41; replace H := Option.bind_eq_some_iff.mp H; obtain ⟨t521, A420, H⟩ := H
           replace H : (if t521 = true then (if t507 = true then ((laws_likeInts.f kj6 t509 t484).bind fun t522 => (if t522 = true then ((laws_less5.f kj6 t498 t484).bind fun t523 => (if t523 = true then (some false) else ((laws_likeInts.f kj6 t513 t517).bind fun t524 => (if t524 = true then ((laws_sum.f kj6 t513).bind fun t525 => (some ((t480.length : Int) == t525))) else (some false))))) else (some false))) else (some false)) else (some false)) = some r := H
           have A42 := Aside0.mk A420; clear A420
           by_cases c43 : t521 = true
           ·subst c43
            have H1 : (if t507 = true then ((laws_likeInts.f kj6 t509 t484).bind fun t522 => (if t522 = true then ((laws_less5.f kj6 t498 t484).bind fun t523 => (if t523 = true then (some false) else ((laws_likeInts.f kj6 t513 t517).bind fun t524 => (if t524 = true then ((laws_sum.f kj6 t513).bind fun t525 => (some ((t480.length : Int) == t525))) else (some false))))) else (some false))) else (some false)) = some r := by rw [if_pos rfl] at H; exact H
            clear H; have H := H1; clear H1
            by_cases c44 : t507 = true
            ·subst c44
             have H1 : ((laws_likeInts.f kj6 t509 t484).bind fun t522 => (if t522 = true then ((laws_less5.f kj6 t498 t484).bind fun t523 => (if t523 = true then (some false) else ((laws_likeInts.f kj6 t513 t517).bind fun t524 => (if t524 = true then ((laws_sum.f kj6 t513).bind fun t525 => (some ((t480.length : Int) == t525))) else (some false))))) else (some false))) = some r := by rw [if_pos rfl] at H; exact H
             clear H; have H := H1; clear H1; replace H := Option.bind_eq_some_iff.mp H; obtain ⟨t522, A450, H⟩ := H
             replace H : (if t522 = true then ((laws_less5.f kj6 t498 t484).bind fun t523 => (if t523 = true then (some false) else ((laws_likeInts.f kj6 t513 t517).bind fun t524 => (if t524 = true then ((laws_sum.f kj6 t513).bind fun t525 => (some ((t480.length : Int) == t525))) else (some false))))) else (some false)) = some r := H
             have A45 := Aside0.mk A450; clear A450
             by_cases c46 : t522 = true
             ·subst c46
              have H1 : ((laws_less5.f kj6 t498 t484).bind fun t523 => (if t523 = true then (some false) else ((laws_likeInts.f kj6 t513 t517).bind fun t524 => (if t524 = true then ((laws_sum.f kj6 t513).bind fun t525 => (some ((t480.length : Int) == t525))) else (some false))))) = some r := by rw [if_pos rfl] at H; exact H
              clear H; have H := H1; clear H1; replace H := Option.bind_eq_some_iff.mp H; obtain ⟨t523, A470, H⟩ := H
              replace H : (if t523 = true then (some false) else ((laws_likeInts.f kj6 t513 t517).bind fun t524 => (if t524 = true then ((laws_sum.f kj6 t513).bind fun t525 => (some ((t480.length : Int) == t525))) else (some false)))) = some r := H
              have A47 := Aside0.mk A470; clear A470
              by_cases c48 : t523 = true
              ·subst c48
               have H1 : (some false) = some r := by rw [if_pos rfl] at H; exact H
               clear H; have H := H1; clear H1
               obtain rfl := Option.some.inj H
               try go_wp2
               replace HO_4 := Aside0.mk (Kd.R_drew HO_4.out); replace HO_5 := Aside0.mk (Kd.R_drew HO_5.out); replace HO_484001 := Aside0.mk (Kd.R_drew HO_484001.out); replace BK483 := Aside0.mk (blk_drew BK483.out); replace HB := Aside0.mk (below_drew1 HB.out)
               refine start_ (n := 6) (S := fun w' => w'.cell? ⟨gb483, 0, none⟩ = some (.int .i64 t476) ∧ w'.cell? ⟨gb483, 1, none⟩ = some (.slice Ao11 t477.length co11)) (ds := []) #[false, false, false, false, false, false] (by kernel_rfl) rfl rfl ⟨bc BK483 0, bc BK483 1⟩ (fun hHeld => ?_)
               generalize wc.drew = w49 at HO_4 HO_5 HO_484001 BK483 HB hHeld ⊢
               refine pure_ (i := 0) (N := some 58) (v := ?_) (a' := ?_) #[true, false, false, false, false, false] rfl rfl (by kernel_rfl) (fun _ _ _ h => h) (Or.inl ⟨by rfl, ?_⟩) ?_ ?_
               rotate_left
               ·intro w'
                go_simp
                with_reducible rfl
               rotate_left
               ·simp only [Act.put, s1, s2, s3, i64_w, i32_w]
                rfl
               refine pure_ (i := 3) (N := some 61) (v := ?_) (a' := ?_) #[true, false, false, true, false, false] rfl rfl (by kernel_rfl) (fun _ _ _ h => h) (Or.inl ⟨by rfl, ?_⟩) ?_ ?_
               rotate_left
               ·intro w'
                go_simp
                with_reducible rfl
               rotate_left
               ·simp only [Act.put, s1, s2, s3, i64_w, i32_w]
                rfl
               refine take_ (i := 2) (N := some 60) (v := ?_) (a' := ?_) #[true, false, true, true, false, false] rfl rfl (by kernel_rfl) (fun _ _ _ h => h) (Or.inl ⟨by rfl, ?_⟩) hHeld ?_ ?_
               rotate_left
               ·rintro w' ⟨s0, s1⟩
                go_simp
                with_reducible rfl
               rotate_left
               ·simp only [Act.put, s1, s2, s3, i64_w, i32_w]
                rfl
               refine one_ (i := 1) (N := some 59) #[true, true, true, true, false, false] rfl rfl (by kernel_rfl) (by decide) (fun K hK => ?_)
               refine goes_ Tryd.func16 (by kernel_rfl) rfl #[.slice A0 l0.length c0, .int .u64 504] (by rfl) rfl rfl lz ?_
               with_reducible refine (laws_roll.calls kj6 _ _ l0 504 t494 t495 t496 w _ ?side1 ?side2 ?side3 A30.out).mono ?_
               (case side1 => exact zLFnNormalFormsx0)
               (case side2 => exact HR0.out)
               (case side3 => exact HC0.out)
               rintro e w50 ⟨g497, rfl, hi, hb, hb2, hgw_⟩
               refine ⟨_, rfl, ?_⟩
               replace HO_4 := Aside0.mk (Kd.R_below (kdQ HO_4) hb2); replace HO_5 := Aside0.mk (Kd.R_below (kdQ HO_5) hb2); replace HO_484001 := Aside0.mk (Kd.R_below (kdQ HO_484001) hb2); replace HB := Aside0.mk (hb); have HI497 := Aside0.mk (hi)
               have NB497_483 := Aside0.mk (IsS76.ne_blk hi (blk_below (blkQ BK483) hb2) (by decide))
               have NB483_497 := Aside0.mk (Ne.symm (IsS76.ne_blk hi (blk_below (blkQ BK483) hb2) (by decide)))
               replace BK483 := Aside0.mk (blk_below (blkQ BK483) hb2)
               (try clear hb)
               (try clear hb2)
               (try clear hk)
               (try clear hi)
               (try clear hgw_)
               refine hK.out _ _ ⟨bc BK483 0, bc BK483 1⟩ (fun hHeld => ?_)
               clear hK K
               refine norm_ (a' := ?_) ?_ ?_
               rotate_left
               ·show Act.put _ (some 59) _ = _
                simp only [Act.put, s1, s2, s3, i64_w, i32_w]
                rfl
               refine one_ (i := 4) (N := some 62) #[true, true, true, true, true, false] rfl rfl (by kernel_rfl) (by decide) (fun K hK => ?_)
               refine goes_ Tryd.func15 (by kernel_rfl) rfl #[.pointer (some ⟨g497, 0, none⟩), .agg #[.int .i64 t476, .slice Ao11 t477.length co11], .slice Ao14 t480.length co14] (by rfl) rfl rfl lz ?_
               with_reducible refine (laws_shuffle5.calls kj6 g497 t494 t495 t496 t476 _ _ t477 _ _ t480 t498 t501 t502 w _ ?side1 ?side2 ?side3 ?side4 ?side5 ?side6 ?side7 ?side8 A31.out).mono ?_
               (case side1 => exact zLFnNormalFormsx1)
               (case side2 => exact zLFnNormalFormsx2)
               (case side3 => have q_ := Aside0.mk (Kd.R_reads' HO_484001.out).2.2; exact cQ q_)
               (case side4 => exact (Kd.R_reads' HO_484001.out).2.1)
               (case side5 => exact far_slice (IsS76.own_ne HI497.out HO_484001.out (by decide)))
               (case side6 => have q_ := Aside0.mk (Kd.R_reads' HO_4.out).2.2; exact cQ q_)
               (case side7 => exact (Kd.R_reads' HO_4.out).2.1)
               (case side8 => exact far_slice (IsS76.own_ne HI497.out HO_4.out (by decide)))
               rintro e w51 ⟨v499, rfl, ho0, hi, hb, hk⟩
               refine ⟨_, rfl, ?_⟩
               replace BK483 := Aside0.mk (KeepBut.blk hk (g' := gb483) (o := .cells #[.int .i64 t476, .slice Ao11 t477.length co11] 26 (0, 0)) (blkQ BK483) NB483_497.out (by simp))
               have HO500 := Aside0.mk (Kd.R_lower (Kd.R_new' (Kd.R_new' (Kd.R_new' ho0 (Kd.R_lt (kdQ HO_4))) (Kd.R_lt (kdQ HO_5))) (Kd.R_lt (kdQ HO_484001))) (below_size (zLFnNormalFormsx2)))
               replace HO_4 := Aside0.mk (Kd.R_mono (Kd.R_told (Kd.R_oldK (IsS76.apart (show IsS76 w _ g497 t494 t495 t496 from zLFnNormalFormsx1) (kdQ HO_4) (by decide)) hk) (Kd.R_base ho0)) (fun _ h_ => h_.1))
               replace HO_5 := Aside0.mk (Kd.R_mono (Kd.R_told (Kd.R_oldK (IsS76.apart (show IsS76 w _ g497 t494 t495 t496 from zLFnNormalFormsx1) (kdQ HO_5) (by decide)) hk) (Kd.R_base ho0)) (fun _ h_ => h_.1))
               replace HO_484001 := Aside0.mk (Kd.R_mono (Kd.R_told (Kd.R_oldK (IsS76.apart (show IsS76 w _ g497 t494 t495 t496 from zLFnNormalFormsx1) (kdQ HO_484001) (by decide)) hk) (Kd.R_base ho0)) (fun _ h_ => h_.1))
               replace HB := Aside0.mk (hb); replace HI497 := Aside0.mk (hi)
               (try clear hb)
               (try clear hb2)
               (try clear hk)
               (try clear hi)
               (try clear hgw_)
               (try clear ho0)
               refine hK.out _ _ ⟨bc BK483 0, bc BK483 1⟩ (fun hHeld => ?_)
               clear hK K
               refine norm_ (a' := ?_) ?_ ?_
               rotate_left
               ·show Act.put _ (some 62) _ = _
                simp only [Act.put, s1, s2, s3, i64_w, i32_w]
                rfl
               refine pure_ (i := 5) (N := some 9) (v := ?_) (a' := ?_) #[true, true, true, true, true, true] rfl rfl (by kernel_rfl) (fun _ _ _ h => h) (Or.inl ⟨by rfl, ?_⟩) ?_ ?_
               rotate_left
               ·intro w'
                go_simp
                with_reducible rfl
               rotate_left
               ·simp only [Act.put, s1, s2, s3, i64_w, i32_w]
                rfl
               refine done_ (by kernel_rfl) ?_
               have hnb52 := NB483_497.out; have hnc52 := NB497_483.out
               have hcz53_0 : w51.cell? ⟨gb483, 0, none⟩ = some (.int .i64 t476) := bc BK483 0
               have hcz53_1 : w51.cell? ⟨gb483, 1, none⟩ = some (.slice Ao11 t477.length co11) := bc BK483 1
               have hfz53_0 := blk_frozen BK483.out 0; have hfz53_1 := blk_frozen BK483.out 1; obtain ⟨Ao54, co54, eo54⟩ := Kd.R_slice HO500.out; subst eo54
               try go_wp2_with (first | ((with_reducible refine gate_callee (f := 11) rfl ?_); refine goesL_ (some 66) rfl rfl Tryd.func11 (by kernel_rfl) rfl #[.agg #[.int .i64 t476, .slice Ao11 t477.length co11], .slice Ao54 t498.length co54] rfl lz ?_; (with_reducible refine (impl_NormalForm.calls kj6 t476 _ _ t477 (fun k_ => some k_ = (.slice Ao54 t498.length co54 : Value).ownBlock) _ _ t498 t503 t506 _ ?side1 ?side2 ?side3 ?side4 A32.out).mono ?_); (case side1 => have q_ := Aside0.mk (Kd.R_reads' HO_484001.out).2.2; exact cQ q_); (case side2 => exact (Kd.R_reads' HO_484001.out).2.1); (case side3 => exact Kd.R_V (Kd.R_tight rfl (IsS76.apart HI497.out (Kd.R_types (HO500.out) BK483.out (by decide)) (by decide)))); (case side4 => exact TabW.below HT.out (zLFnNormalFormsx2)); rintro e w55 ⟨v504, rfl, ho0, hb⟩; refine ⟨_, rfl, ?_⟩; have HO505 := Aside0.mk (Kd.R_lower (Kd.R_new' (Kd.R_new' (Kd.R_new' (Kd.R_new' (Kd.R_mono (ok' := fun k_ => True) ho0 (fun _ hk_ => trivial)) (Kd.R_lt (kdQ HO_4))) (Kd.R_lt (kdQ HO_5))) (Kd.R_lt (kdQ HO_484001))) (Kd.R_lt (kdQ HO500))) (below_size (zLFnNormalFormsx2))); replace HO_4 := Aside0.mk (Kd.R_elder' (kdQ HO_4) (Kd.R_base ho0) hb); replace HO_5 := Aside0.mk (Kd.R_elder' (kdQ HO_5) (Kd.R_base ho0) hb); replace HO_484001 := Aside0.mk (Kd.R_elder' (kdQ HO_484001) (Kd.R_base ho0) hb); replace HO500 := Aside0.mk (Kd.R_elder' (kdQ HO500) (Kd.R_base ho0) hb); replace BK483 := bb BK483 hb; replace HB := Aside0.mk (below_step (zLFnNormalFormsx2) hb); replace HI497 := Aside0.mk (IsS76.below (zLFnNormalFormsx1) hb); (try clear hb); (try clear hb2); (try clear hk); (try clear hi); (try clear hgw_); (try clear ho0); have hcz56_0 : w55.cell? ⟨gb483, 0, none⟩ = some (.int .i64 t476) := bc BK483 0; have hcz56_1 : w55.cell? ⟨gb483, 1, none⟩ = some (.slice Ao11 t477.length co11) := bc BK483 1; have hfz56_0 := blk_frozen BK483.out 0; have hfz56_1 := blk_frozen BK483.out 1; obtain ⟨Ao57, co57, eo57⟩ := Kd.R_slice HO_5.out; subst eo57) | ((with_reducible refine gate_callee (f := 17) rfl ?_); refine goesL_ (some 73) rfl rfl Tryd.func17 (by kernel_rfl) rfl #[.agg #[.int .i64 t476, .slice Ao11 t477.length co11], .slice Ao54 t498.length co54, .slice Ao57 t484.length co57] rfl lz ?_; (with_reducible refine (impl_AreSameTrace.calls kj6 t476 _ _ t477 (fun k_ => some k_ = (.slice Ao54 t498.length co54 : Value).ownBlock) _ _ t498 (fun k_ => some k_ = (.slice Ao57 t484.length co57 : Value).ownBlock) _ _ t484 true t508 _ ?side1 ?side2 ?side3 ?side4 ?side5 A33.out).mono ?_); (case side1 => have q_ := Aside0.mk (Kd.R_reads' HO_484001.out).2.2; exact cQ q_); (case side2 => exact (Kd.R_reads' HO_484001.out).2.1); (case side3 => exact Kd.R_V (Kd.R_tight rfl (IsS76.apart HI497.out (Kd.R_types (HO500.out) BK483.out (by decide)) (by decide)))); (case side4 => exact Kd.R_V (Kd.R_tight rfl (IsS76.apart HI497.out (Kd.R_types (HO_5.out) BK483.out (by decide)) (by decide)))); (case side5 => exact TabW.below HT.out (zLFnNormalFormsx2)); rintro e w58 ⟨rfl, hb⟩; refine ⟨_, rfl, ?_⟩; replace HO_4 := kb HO_4 hb; replace HO_5 := kb HO_5 hb; replace HO_484001 := kb HO_484001 hb; replace HO500 := kb HO500 hb; replace HO505 := kb HO505 hb; replace BK483 := bb BK483 hb; replace HB := Aside0.mk (below_step (zLFnNormalFormsx2) hb); replace HI497 := Aside0.mk (IsS76.below (zLFnNormalFormsx1) hb); (try clear hb); (try clear hb2); (try clear hk); (try clear hi); (try clear hgw_); have hcz59_0 : w58.cell? ⟨gb483, 0, none⟩ = some (.int .i64 t476) := bc BK483 0; have hcz59_1 : w58.cell? ⟨gb483, 1, none⟩ = some (.slice Ao11 t477.length co11) := bc BK483 1; have hfz59_0 := blk_frozen BK483.out 0; have hfz59_1 := blk_frozen BK483.out 1) | ((with_reducible refine gate_callee (f := 11) rfl ?_); refine goesL_ (some 79) rfl rfl Tryd.func11 (by kernel_rfl) rfl #[.agg #[.int .i64 t476, .slice Ao11 t477.length co11], .slice Ao57 t484.length co57] rfl lz ?_; (with_reducible refine (impl_NormalForm.calls kj6 t476 _ _ t477 (fun k_ => some k_ = (.slice Ao57 t484.length co57 : Value).ownBlock) _ _ t484 t509 t512 _ ?side1 ?side2 ?side3 ?side4 A34.out).mono ?_); (case side1 => have q_ := Aside0.mk (Kd.R_reads' HO_484001.out).2.2; exact cQ q_); (case side2 => exact (Kd.R_reads' HO_484001.out).2.1); (case side3 => exact Kd.R_V (Kd.R_tight rfl (IsS76.apart HI497.out (Kd.R_types (HO_5.out) BK483.out (by decide)) (by decide)))); (case side4 => exact TabW.below HT.out (zLFnNormalFormsx2)); rintro e w60 ⟨v510, rfl, ho0, hb⟩; refine ⟨_, rfl, ?_⟩; have HO511 := Aside0.mk (Kd.R_lower (Kd.R_new' (Kd.R_new' (Kd.R_new' (Kd.R_new' (Kd.R_new' (Kd.R_mono (ok' := fun k_ => True) ho0 (fun _ hk_ => trivial)) (Kd.R_lt (kdQ HO_4))) (Kd.R_lt (kdQ HO_5))) (Kd.R_lt (kdQ HO_484001))) (Kd.R_lt (kdQ HO500))) (Kd.R_lt (kdQ HO505))) (below_size (zLFnNormalFormsx2))); replace HO_4 := Aside0.mk (Kd.R_elder' (kdQ HO_4) (Kd.R_base ho0) hb); replace HO_5 := Aside0.mk (Kd.R_elder' (kdQ HO_5) (Kd.R_base ho0) hb); replace HO_484001 := Aside0.mk (Kd.R_elder' (kdQ HO_484001) (Kd.R_base ho0) hb); replace HO500 := Aside0.mk (Kd.R_elder' (kdQ HO500) (Kd.R_base ho0) hb); replace HO505 := Aside0.mk (Kd.R_elder' (kdQ HO505) (Kd.R_base ho0) hb); replace BK483 := bb BK483 hb; replace HB := Aside0.mk (below_step (zLFnNormalFormsx2) hb); replace HI497 := Aside0.mk (IsS76.below (zLFnNormalFormsx1) hb); (try clear hb); (try clear hb2); (try clear hk); (try clear hi); (try clear hgw_); (try clear ho0); have hcz61_0 : w60.cell? ⟨gb483, 0, none⟩ = some (.int .i64 t476) := bc BK483 0; have hcz61_1 : w60.cell? ⟨gb483, 1, none⟩ = some (.slice Ao11 t477.length co11) := bc BK483 1; have hfz61_0 := blk_frozen BK483.out 0; have hfz61_1 := blk_frozen BK483.out 1) | ((with_reducible refine gate_callee (f := 18) rfl ?_); refine goesL_ (some 85) rfl rfl Tryd.func18 (by kernel_rfl) rfl #[.agg #[.int .i64 t476, .slice Ao11 t477.length co11], .slice Ao14 t480.length co14] rfl lz ?_; (with_reducible refine (impl_ContentOf.calls kj6 t476 _ _ t477 (fun k_ => some k_ = (.slice Ao14 t480.length co14 : Value).ownBlock) _ _ t480 t513 t516 _ ?side1 ?side2 ?side3 ?side4 A35.out).mono ?_); (case side1 => have q_ := Aside0.mk (Kd.R_reads' HO_484001.out).2.2; exact cQ q_); (case side2 => exact (Kd.R_reads' HO_484001.out).2.1); (case side3 => exact Kd.R_V (Kd.R_tight rfl (IsS76.apart HI497.out (Kd.R_types (HO_4.out) BK483.out (by decide)) (by decide)))); (case side4 => exact TabW.below HT.out (zLFnNormalFormsx2)); rintro e w62 ⟨v514, rfl, ho0, hb⟩; refine ⟨_, rfl, ?_⟩; have HO515 := Aside0.mk (Kd.R_lower (Kd.R_new' (Kd.R_new' (Kd.R_new' (Kd.R_new' (Kd.R_new' (Kd.R_new' (Kd.R_mono (ok' := fun k_ => True) ho0 (fun _ hk_ => trivial)) (Kd.R_lt (kdQ HO_4))) (Kd.R_lt (kdQ HO_5))) (Kd.R_lt (kdQ HO_484001))) (Kd.R_lt (kdQ HO500))) (Kd.R_lt (kdQ HO505))) (Kd.R_lt (kdQ HO511))) (below_size (zLFnNormalFormsx2))); replace HO_4 := Aside0.mk (Kd.R_elder' (kdQ HO_4) (Kd.R_base ho0) hb); replace HO_5 := Aside0.mk (Kd.R_elder' (kdQ HO_5) (Kd.R_base ho0) hb); replace HO_484001 := Aside0.mk (Kd.R_elder' (kdQ HO_484001) (Kd.R_base ho0) hb); replace HO500 := Aside0.mk (Kd.R_elder' (kdQ HO500) (Kd.R_base ho0) hb); replace HO505 := Aside0.mk (Kd.R_elder' (kdQ HO505) (Kd.R_base ho0) hb); replace HO511 := Aside0.mk (Kd.R_elder' (kdQ HO511) (Kd.R_base ho0) hb); replace BK483 := bb BK483 hb; replace HB := Aside0.mk (below_step (zLFnNormalFormsx2) hb); replace HI497 := Aside0.mk (IsS76.below (zLFnNormalFormsx1) hb); (try clear hb); (try clear hb2); (try clear hk); (try clear hi); (try clear hgw_); (try clear ho0); have hcz63_0 : w62.cell? ⟨gb483, 0, none⟩ = some (.int .i64 t476) := bc BK483 0; have hcz63_1 : w62.cell? ⟨gb483, 1, none⟩ = some (.slice Ao11 t477.length co11) := bc BK483 1; have hfz63_0 := blk_frozen BK483.out 0; have hfz63_1 := blk_frozen BK483.out 1) | ((with_reducible refine gate_callee (f := 18) rfl ?_); refine goesL_ (some 91) rfl rfl Tryd.func18 (by kernel_rfl) rfl #[.agg #[.int .i64 t476, .slice Ao11 t477.length co11], .slice Ao57 t484.length co57] rfl lz ?_; (with_reducible refine (impl_ContentOf.calls kj6 t476 _ _ t477 (fun k_ => some k_ = (.slice Ao57 t484.length co57 : Value).ownBlock) _ _ t484 t517 t520 _ ?side1 ?side2 ?side3 ?side4 A36.out).mono ?_); (case side1 => have q_ := Aside0.mk (Kd.R_reads' HO_484001.out).2.2; exact cQ q_); (case side2 => exact (Kd.R_reads' HO_484001.out).2.1); (case side3 => exact Kd.R_V (Kd.R_tight rfl (IsS76.apart HI497.out (Kd.R_types (HO_5.out) BK483.out (by decide)) (by decide)))); (case side4 => exact TabW.below HT.out (zLFnNormalFormsx2)); rintro e w64 ⟨v518, rfl, ho0, hb⟩; refine ⟨_, rfl, ?_⟩; have HO519 := Aside0.mk (Kd.R_lower (Kd.R_new' (Kd.R_new' (Kd.R_new' (Kd.R_new' (Kd.R_new' (Kd.R_new' (Kd.R_new' (Kd.R_mono (ok' := fun k_ => True) ho0 (fun _ hk_ => trivial)) (Kd.R_lt (kdQ HO_4))) (Kd.R_lt (kdQ HO_5))) (Kd.R_lt (kdQ HO_484001))) (Kd.R_lt (kdQ HO500))) (Kd.R_lt (kdQ HO505))) (Kd.R_lt (kdQ HO511))) (Kd.R_lt (kdQ HO515))) (below_size (zLFnNormalFormsx2))); replace HO_4 := Aside0.mk (Kd.R_elder' (kdQ HO_4) (Kd.R_base ho0) hb); replace HO_5 := Aside0.mk (Kd.R_elder' (kdQ HO_5) (Kd.R_base ho0) hb); replace HO_484001 := Aside0.mk (Kd.R_elder' (kdQ HO_484001) (Kd.R_base ho0) hb); replace HO500 := Aside0.mk (Kd.R_elder' (kdQ HO500) (Kd.R_base ho0) hb); replace HO505 := Aside0.mk (Kd.R_elder' (kdQ HO505) (Kd.R_base ho0) hb); replace HO511 := Aside0.mk (Kd.R_elder' (kdQ HO511) (Kd.R_base ho0) hb); replace HO515 := Aside0.mk (Kd.R_elder' (kdQ HO515) (Kd.R_base ho0) hb); replace BK483 := bb BK483 hb; replace HB := Aside0.mk (below_step (zLFnNormalFormsx2) hb); replace HI497 := Aside0.mk (IsS76.below (zLFnNormalFormsx1) hb); (try clear hb); (try clear hb2); (try clear hk); (try clear hi); (try clear hgw_); (try clear ho0); obtain ⟨Ao65, co65, eo65⟩ := Kd.R_slice HO505.out; subst eo65) | (go_at_call 13; (with_reducible refine (laws_likeInts.calls kj6 _ _ t503 _ _ t484 true _ ?side1 ?side2 ?side3 ?side4 A42.out).mono ?_); (case side1 => have q_ := Aside0.mk (Kd.R_reads' HO505.out).2.2; exact cQ q_); (case side2 => exact (Kd.R_reads' HO505.out).2.1); (case side3 => have q_ := Aside0.mk (Kd.R_reads' HO_5.out).2.2; exact cQ q_); (case side4 => exact (Kd.R_reads' HO_5.out).2.1); rintro e w' ⟨rfl, ⟨nd, rfl⟩⟩; obtain ⟨Ao66, co66, eo66⟩ := Kd.R_slice HO511.out; subst eo66) | (go_at_call 13; (with_reducible refine (laws_likeInts.calls kj6 _ _ t509 _ _ t484 true _ ?side1 ?side2 ?side3 ?side4 A45.out).mono ?_); (case side1 => have q_ := Aside0.mk (Kd.R_reads' HO511.out).2.2; exact cQ q_); (case side2 => exact (Kd.R_reads' HO511.out).2.1); (case side3 => have q_ := Aside0.mk (Kd.R_reads' HO_5.out).2.2; exact cQ q_); (case side4 => exact (Kd.R_reads' HO_5.out).2.1); rintro e w' ⟨rfl, ⟨nd, rfl⟩⟩) | (go_at_call 19; (with_reducible refine (laws_less5.calls kj6 _ _ t498 _ _ t484 true _ ?side1 ?side2 ?side3 ?side4 A47.out).mono ?_); (case side1 => have q_ := Aside0.mk (Kd.R_reads' HO500.out).2.2; exact cQ q_); (case side2 => exact (Kd.R_reads' HO500.out).2.1); (case side3 => have q_ := Aside0.mk (Kd.R_reads' HO_5.out).2.2; exact cQ q_); (case side4 => exact (Kd.R_reads' HO_5.out).2.1); rintro e w' ⟨rfl, ⟨nd, rfl⟩⟩))
               go_ret
               exact ⟨rz, zLFnNormalFormsx2⟩
              ·replace c48 := Bool.eq_false_iff.mpr c48
               subst c48
               have H1 : ((laws_likeInts.f kj6 t513 t517).bind fun t524 => (if t524 = true then ((laws_sum.f kj6 t513).bind fun t525 => (some ((t480.length : Int) == t525))) else (some false))) = some r := by rw [if_neg (show ¬ (false = true) by decide)] at H; exact H
               clear H; have H := H1; clear H1; replace H := Option.bind_eq_some_iff.mp H; obtain ⟨t524, A670, H⟩ := H
               replace H : (if t524 = true then ((laws_sum.f kj6 t513).bind fun t525 => (some ((t480.length : Int) == t525))) else (some false)) = some r := H
               have A67 := Aside0.mk A670; clear A670
               by_cases c68 : t524 = true
               ·subst c68
                have H1 : ((laws_sum.f kj6 t513).bind fun t525 => (some ((t480.length : Int) == t525))) = some r := by rw [if_pos rfl] at H; exact H
                clear H; have H := H1; clear H1; replace H := Option.bind_eq_some_iff.mp H; obtain ⟨t525, A690, H⟩ := H
                replace H : (some ((t480.length : Int) == t525)) = some r := H
                have A69 := Aside0.mk A690; clear A690
                obtain rfl := Option.some.inj H
                try go_wp2
                replace HO_4 := Aside0.mk (Kd.R_drew HO_4.out); replace HO_5 := Aside0.mk (Kd.R_drew HO_5.out); replace HO_484001 := Aside0.mk (Kd.R_drew HO_484001.out); replace BK483 := Aside0.mk (blk_drew BK483.out); replace HB := Aside0.mk (below_drew1 HB.out)
                refine start_ (n := 6) (S := fun w' => w'.cell? ⟨gb483, 0, none⟩ = some (.int .i64 t476) ∧ w'.cell? ⟨gb483, 1, none⟩ = some (.slice Ao11 t477.length co11)) (ds := []) #[false, false, false, false, false, false] (by kernel_rfl) rfl rfl ⟨bc BK483 0, bc BK483 1⟩ (fun hHeld => ?_)
                generalize wc.drew = w70 at HO_4 HO_5 HO_484001 BK483 HB hHeld ⊢
                refine pure_ (i := 0) (N := some 58) (v := ?_) (a' := ?_) #[true, false, false, false, false, false] rfl rfl (by kernel_rfl) (fun _ _ _ h => h) (Or.inl ⟨by rfl, ?_⟩) ?_ ?_
                rotate_left
                ·intro w'
                 go_simp
                 with_reducible rfl
                rotate_left
                ·simp only [Act.put, s1, s2, s3, i64_w, i32_w]
                 rfl
                refine pure_ (i := 3) (N := some 61) (v := ?_) (a' := ?_) #[true, false, false, true, false, false] rfl rfl (by kernel_rfl) (fun _ _ _ h => h) (Or.inl ⟨by rfl, ?_⟩) ?_ ?_
                rotate_left
                ·intro w'
                 go_simp
                 with_reducible rfl
                rotate_left
                ·simp only [Act.put, s1, s2, s3, i64_w, i32_w]
                 rfl
                refine take_ (i := 2) (N := some 60) (v := ?_) (a' := ?_) #[true, false, true, true, false, false] rfl rfl (by kernel_rfl) (fun _ _ _ h => h) (Or.inl ⟨by rfl, ?_⟩) hHeld ?_ ?_
                rotate_left
                ·rintro w' ⟨s0, s1⟩
                 go_simp
                 with_reducible rfl
                rotate_left
                ·simp only [Act.put, s1, s2, s3, i64_w, i32_w]
                 rfl
                refine one_ (i := 1) (N := some 59) #[true, true, true, true, false, false] rfl rfl (by kernel_rfl) (by decide) (fun K hK => ?_)
                refine goes_ Tryd.func16 (by kernel_rfl) rfl #[.slice A0 l0.length c0, .int .u64 504] (by rfl) rfl rfl lz ?_
                with_reducible refine (laws_roll.calls kj6 _ _ l0 504 t494 t495 t496 w _ ?side1 ?side2 ?side3 A30.out).mono ?_
                (case side1 => exact zLFnNormalFormsx0)
                (case side2 => exact HR0.out)
                (case side3 => exact HC0.out)
                rintro e w71 ⟨g497, rfl, hi, hb, hb2, hgw_⟩
                refine ⟨_, rfl, ?_⟩
                replace HO_4 := Aside0.mk (Kd.R_below (kdQ HO_4) hb2); replace HO_5 := Aside0.mk (Kd.R_below (kdQ HO_5) hb2); replace HO_484001 := Aside0.mk (Kd.R_below (kdQ HO_484001) hb2); replace HB := Aside0.mk (hb); have HI497 := Aside0.mk (hi)
                have NB497_483 := Aside0.mk (IsS76.ne_blk hi (blk_below (blkQ BK483) hb2) (by decide))
                have NB483_497 := Aside0.mk (Ne.symm (IsS76.ne_blk hi (blk_below (blkQ BK483) hb2) (by decide)))
                replace BK483 := Aside0.mk (blk_below (blkQ BK483) hb2)
                (try clear hb)
                (try clear hb2)
                (try clear hk)
                (try clear hi)
                (try clear hgw_)
                refine hK.out _ _ ⟨bc BK483 0, bc BK483 1⟩ (fun hHeld => ?_)
                clear hK K
                refine norm_ (a' := ?_) ?_ ?_
                rotate_left
                ·show Act.put _ (some 59) _ = _
                 simp only [Act.put, s1, s2, s3, i64_w, i32_w]
                 rfl
                refine one_ (i := 4) (N := some 62) #[true, true, true, true, true, false] rfl rfl (by kernel_rfl) (by decide) (fun K hK => ?_)
                refine goes_ Tryd.func15 (by kernel_rfl) rfl #[.pointer (some ⟨g497, 0, none⟩), .agg #[.int .i64 t476, .slice Ao11 t477.length co11], .slice Ao14 t480.length co14] (by rfl) rfl rfl lz ?_
                with_reducible refine (laws_shuffle5.calls kj6 g497 t494 t495 t496 t476 _ _ t477 _ _ t480 t498 t501 t502 w _ ?side1 ?side2 ?side3 ?side4 ?side5 ?side6 ?side7 ?side8 A31.out).mono ?_
                (case side1 => exact zLFnNormalFormsx1)
                (case side2 => exact zLFnNormalFormsx2)
                (case side3 => have q_ := Aside0.mk (Kd.R_reads' HO_484001.out).2.2; exact cQ q_)
                (case side4 => exact (Kd.R_reads' HO_484001.out).2.1)
                (case side5 => exact far_slice (IsS76.own_ne HI497.out HO_484001.out (by decide)))
                (case side6 => have q_ := Aside0.mk (Kd.R_reads' HO_4.out).2.2; exact cQ q_)
                (case side7 => exact (Kd.R_reads' HO_4.out).2.1)
                (case side8 => exact far_slice (IsS76.own_ne HI497.out HO_4.out (by decide)))
                rintro e w72 ⟨v499, rfl, ho0, hi, hb, hk⟩
                refine ⟨_, rfl, ?_⟩
                replace BK483 := Aside0.mk (KeepBut.blk hk (g' := gb483) (o := .cells #[.int .i64 t476, .slice Ao11 t477.length co11] 26 (0, 0)) (blkQ BK483) NB483_497.out (by simp))
                have HO500 := Aside0.mk (Kd.R_lower (Kd.R_new' (Kd.R_new' (Kd.R_new' ho0 (Kd.R_lt (kdQ HO_4))) (Kd.R_lt (kdQ HO_5))) (Kd.R_lt (kdQ HO_484001))) (below_size (zLFnNormalFormsx2)))
                replace HO_4 := Aside0.mk (Kd.R_mono (Kd.R_told (Kd.R_oldK (IsS76.apart (show IsS76 w _ g497 t494 t495 t496 from zLFnNormalFormsx1) (kdQ HO_4) (by decide)) hk) (Kd.R_base ho0)) (fun _ h_ => h_.1))
                replace HO_5 := Aside0.mk (Kd.R_mono (Kd.R_told (Kd.R_oldK (IsS76.apart (show IsS76 w _ g497 t494 t495 t496 from zLFnNormalFormsx1) (kdQ HO_5) (by decide)) hk) (Kd.R_base ho0)) (fun _ h_ => h_.1))
                replace HO_484001 := Aside0.mk (Kd.R_mono (Kd.R_told (Kd.R_oldK (IsS76.apart (show IsS76 w _ g497 t494 t495 t496 from zLFnNormalFormsx1) (kdQ HO_484001) (by decide)) hk) (Kd.R_base ho0)) (fun _ h_ => h_.1))
                replace HB := Aside0.mk (hb); replace HI497 := Aside0.mk (hi)
                (try clear hb)
                (try clear hb2)
                (try clear hk)
                (try clear hi)
                (try clear hgw_)
                (try clear ho0)
                refine hK.out _ _ ⟨bc BK483 0, bc BK483 1⟩ (fun hHeld => ?_)
                clear hK K
                refine norm_ (a' := ?_) ?_ ?_
                rotate_left
                ·show Act.put _ (some 62) _ = _
                 simp only [Act.put, s1, s2, s3, i64_w, i32_w]
                 rfl
                refine pure_ (i := 5) (N := some 9) (v := ?_) (a' := ?_) #[true, true, true, true, true, true] rfl rfl (by kernel_rfl) (fun _ _ _ h => h) (Or.inl ⟨by rfl, ?_⟩) ?_ ?_
                rotate_left
                ·intro w'
                 go_simp
                 with_reducible rfl
                rotate_left
                ·simp only [Act.put, s1, s2, s3, i64_w, i32_w]
                 rfl
                refine done_ (by kernel_rfl) ?_
                have hnb73 := NB483_497.out; have hnc73 := NB497_483.out
                have hcz74_0 : w72.cell? ⟨gb483, 0, none⟩ = some (.int .i64 t476) := bc BK483 0
                have hcz74_1 : w72.cell? ⟨gb483, 1, none⟩ = some (.slice Ao11 t477.length co11) := bc BK483 1
                have hfz74_0 := blk_frozen BK483.out 0; have hfz74_1 := blk_frozen BK483.out 1; obtain ⟨Ao75, co75, eo75⟩ := Kd.R_slice HO500.out; subst eo75
                try go_wp2_with (first | ((with_reducible refine gate_callee (f := 11) rfl ?_); refine goesL_ (some 66) rfl rfl Tryd.func11 (by kernel_rfl) rfl #[.agg #[.int .i64 t476, .slice Ao11 t477.length co11], .slice Ao75 t498.length co75] rfl lz ?_; (with_reducible refine (impl_NormalForm.calls kj6 t476 _ _ t477 (fun k_ => some k_ = (.slice Ao75 t498.length co75 : Value).ownBlock) _ _ t498 t503 t506 _ ?side1 ?side2 ?side3 ?side4 A32.out).mono ?_); (case side1 => have q_ := Aside0.mk (Kd.R_reads' HO_484001.out).2.2; exact cQ q_); (case side2 => exact (Kd.R_reads' HO_484001.out).2.1); (case side3 => exact Kd.R_V (Kd.R_tight rfl (IsS76.apart HI497.out (Kd.R_types (HO500.out) BK483.out (by decide)) (by decide)))); (case side4 => exact TabW.below HT.out (zLFnNormalFormsx2)); rintro e w76 ⟨v504, rfl, ho0, hb⟩; refine ⟨_, rfl, ?_⟩; have HO505 := Aside0.mk (Kd.R_lower (Kd.R_new' (Kd.R_new' (Kd.R_new' (Kd.R_new' (Kd.R_mono (ok' := fun k_ => True) ho0 (fun _ hk_ => trivial)) (Kd.R_lt (kdQ HO_4))) (Kd.R_lt (kdQ HO_5))) (Kd.R_lt (kdQ HO_484001))) (Kd.R_lt (kdQ HO500))) (below_size (zLFnNormalFormsx2))); replace HO_4 := Aside0.mk (Kd.R_elder' (kdQ HO_4) (Kd.R_base ho0) hb); replace HO_5 := Aside0.mk (Kd.R_elder' (kdQ HO_5) (Kd.R_base ho0) hb); replace HO_484001 := Aside0.mk (Kd.R_elder' (kdQ HO_484001) (Kd.R_base ho0) hb); replace HO500 := Aside0.mk (Kd.R_elder' (kdQ HO500) (Kd.R_base ho0) hb); replace BK483 := bb BK483 hb; replace HB := Aside0.mk (below_step (zLFnNormalFormsx2) hb); replace HI497 := Aside0.mk (IsS76.below (zLFnNormalFormsx1) hb); (try clear hb); (try clear hb2); (try clear hk); (try clear hi); (try clear hgw_); (try clear ho0); have hcz77_0 : w76.cell? ⟨gb483, 0, none⟩ = some (.int .i64 t476) := bc BK483 0; have hcz77_1 : w76.cell? ⟨gb483, 1, none⟩ = some (.slice Ao11 t477.length co11) := bc BK483 1; have hfz77_0 := blk_frozen BK483.out 0; have hfz77_1 := blk_frozen BK483.out 1; obtain ⟨Ao78, co78, eo78⟩ := Kd.R_slice HO_5.out; subst eo78) | ((with_reducible refine gate_callee (f := 17) rfl ?_); refine goesL_ (some 73) rfl rfl Tryd.func17 (by kernel_rfl) rfl #[.agg #[.int .i64 t476, .slice Ao11 t477.length co11], .slice Ao75 t498.length co75, .slice Ao78 t484.length co78] rfl lz ?_; (with_reducible refine (impl_AreSameTrace.calls kj6 t476 _ _ t477 (fun k_ => some k_ = (.slice Ao75 t498.length co75 : Value).ownBlock) _ _ t498 (fun k_ => some k_ = (.slice Ao78 t484.length co78 : Value).ownBlock) _ _ t484 true t508 _ ?side1 ?side2 ?side3 ?side4 ?side5 A33.out).mono ?_); (case side1 => have q_ := Aside0.mk (Kd.R_reads' HO_484001.out).2.2; exact cQ q_); (case side2 => exact (Kd.R_reads' HO_484001.out).2.1); (case side3 => exact Kd.R_V (Kd.R_tight rfl (IsS76.apart HI497.out (Kd.R_types (HO500.out) BK483.out (by decide)) (by decide)))); (case side4 => exact Kd.R_V (Kd.R_tight rfl (IsS76.apart HI497.out (Kd.R_types (HO_5.out) BK483.out (by decide)) (by decide)))); (case side5 => exact TabW.below HT.out (zLFnNormalFormsx2)); rintro e w79 ⟨rfl, hb⟩; refine ⟨_, rfl, ?_⟩; replace HO_4 := kb HO_4 hb; replace HO_5 := kb HO_5 hb; replace HO_484001 := kb HO_484001 hb; replace HO500 := kb HO500 hb; replace HO505 := kb HO505 hb; replace BK483 := bb BK483 hb; replace HB := Aside0.mk (below_step (zLFnNormalFormsx2) hb); replace HI497 := Aside0.mk (IsS76.below (zLFnNormalFormsx1) hb); (try clear hb); (try clear hb2); (try clear hk); (try clear hi); (try clear hgw_); have hcz80_0 : w79.cell? ⟨gb483, 0, none⟩ = some (.int .i64 t476) := bc BK483 0; have hcz80_1 : w79.cell? ⟨gb483, 1, none⟩ = some (.slice Ao11 t477.length co11) := bc BK483 1; have hfz80_0 := blk_frozen BK483.out 0; have hfz80_1 := blk_frozen BK483.out 1) | ((with_reducible refine gate_callee (f := 11) rfl ?_); refine goesL_ (some 79) rfl rfl Tryd.func11 (by kernel_rfl) rfl #[.agg #[.int .i64 t476, .slice Ao11 t477.length co11], .slice Ao78 t484.length co78] rfl lz ?_; (with_reducible refine (impl_NormalForm.calls kj6 t476 _ _ t477 (fun k_ => some k_ = (.slice Ao78 t484.length co78 : Value).ownBlock) _ _ t484 t509 t512 _ ?side1 ?side2 ?side3 ?side4 A34.out).mono ?_); (case side1 => have q_ := Aside0.mk (Kd.R_reads' HO_484001.out).2.2; exact cQ q_); (case side2 => exact (Kd.R_reads' HO_484001.out).2.1); (case side3 => exact Kd.R_V (Kd.R_tight rfl (IsS76.apart HI497.out (Kd.R_types (HO_5.out) BK483.out (by decide)) (by decide)))); (case side4 => exact TabW.below HT.out (zLFnNormalFormsx2)); rintro e w81 ⟨v510, rfl, ho0, hb⟩; refine ⟨_, rfl, ?_⟩; have HO511 := Aside0.mk (Kd.R_lower (Kd.R_new' (Kd.R_new' (Kd.R_new' (Kd.R_new' (Kd.R_new' (Kd.R_mono (ok' := fun k_ => True) ho0 (fun _ hk_ => trivial)) (Kd.R_lt (kdQ HO_4))) (Kd.R_lt (kdQ HO_5))) (Kd.R_lt (kdQ HO_484001))) (Kd.R_lt (kdQ HO500))) (Kd.R_lt (kdQ HO505))) (below_size (zLFnNormalFormsx2))); replace HO_4 := Aside0.mk (Kd.R_elder' (kdQ HO_4) (Kd.R_base ho0) hb); replace HO_5 := Aside0.mk (Kd.R_elder' (kdQ HO_5) (Kd.R_base ho0) hb); replace HO_484001 := Aside0.mk (Kd.R_elder' (kdQ HO_484001) (Kd.R_base ho0) hb); replace HO500 := Aside0.mk (Kd.R_elder' (kdQ HO500) (Kd.R_base ho0) hb); replace HO505 := Aside0.mk (Kd.R_elder' (kdQ HO505) (Kd.R_base ho0) hb); replace BK483 := bb BK483 hb; replace HB := Aside0.mk (below_step (zLFnNormalFormsx2) hb); replace HI497 := Aside0.mk (IsS76.below (zLFnNormalFormsx1) hb); (try clear hb); (try clear hb2); (try clear hk); (try clear hi); (try clear hgw_); (try clear ho0); have hcz82_0 : w81.cell? ⟨gb483, 0, none⟩ = some (.int .i64 t476) := bc BK483 0; have hcz82_1 : w81.cell? ⟨gb483, 1, none⟩ = some (.slice Ao11 t477.length co11) := bc BK483 1; have hfz82_0 := blk_frozen BK483.out 0; have hfz82_1 := blk_frozen BK483.out 1) | ((with_reducible refine gate_callee (f := 18) rfl ?_); refine goesL_ (some 85) rfl rfl Tryd.func18 (by kernel_rfl) rfl #[.agg #[.int .i64 t476, .slice Ao11 t477.length co11], .slice Ao14 t480.length co14] rfl lz ?_; (with_reducible refine (impl_ContentOf.calls kj6 t476 _ _ t477 (fun k_ => some k_ = (.slice Ao14 t480.length co14 : Value).ownBlock) _ _ t480 t513 t516 _ ?side1 ?side2 ?side3 ?side4 A35.out).mono ?_); (case side1 => have q_ := Aside0.mk (Kd.R_reads' HO_484001.out).2.2; exact cQ q_); (case side2 => exact (Kd.R_reads' HO_484001.out).2.1); (case side3 => exact Kd.R_V (Kd.R_tight rfl (IsS76.apart HI497.out (Kd.R_types (HO_4.out) BK483.out (by decide)) (by decide)))); (case side4 => exact TabW.below HT.out (zLFnNormalFormsx2)); rintro e w83 ⟨v514, rfl, ho0, hb⟩; refine ⟨_, rfl, ?_⟩; have HO515 := Aside0.mk (Kd.R_lower (Kd.R_new' (Kd.R_new' (Kd.R_new' (Kd.R_new' (Kd.R_new' (Kd.R_new' (Kd.R_mono (ok' := fun k_ => True) ho0 (fun _ hk_ => trivial)) (Kd.R_lt (kdQ HO_4))) (Kd.R_lt (kdQ HO_5))) (Kd.R_lt (kdQ HO_484001))) (Kd.R_lt (kdQ HO500))) (Kd.R_lt (kdQ HO505))) (Kd.R_lt (kdQ HO511))) (below_size (zLFnNormalFormsx2))); replace HO_4 := Aside0.mk (Kd.R_elder' (kdQ HO_4) (Kd.R_base ho0) hb); replace HO_5 := Aside0.mk (Kd.R_elder' (kdQ HO_5) (Kd.R_base ho0) hb); replace HO_484001 := Aside0.mk (Kd.R_elder' (kdQ HO_484001) (Kd.R_base ho0) hb); replace HO500 := Aside0.mk (Kd.R_elder' (kdQ HO500) (Kd.R_base ho0) hb); replace HO505 := Aside0.mk (Kd.R_elder' (kdQ HO505) (Kd.R_base ho0) hb); replace HO511 := Aside0.mk (Kd.R_elder' (kdQ HO511) (Kd.R_base ho0) hb); replace BK483 := bb BK483 hb; replace HB := Aside0.mk (below_step (zLFnNormalFormsx2) hb); replace HI497 := Aside0.mk (IsS76.below (zLFnNormalFormsx1) hb); (try clear hb); (try clear hb2); (try clear hk); (try clear hi); (try clear hgw_); (try clear ho0); have hcz84_0 : w83.cell? ⟨gb483, 0, none⟩ = some (.int .i64 t476) := bc BK483 0; have hcz84_1 : w83.cell? ⟨gb483, 1, none⟩ = some (.slice Ao11 t477.length co11) := bc BK483 1; have hfz84_0 := blk_frozen BK483.out 0; have hfz84_1 := blk_frozen BK483.out 1) | ((with_reducible refine gate_callee (f := 18) rfl ?_); refine goesL_ (some 91) rfl rfl Tryd.func18 (by kernel_rfl) rfl #[.agg #[.int .i64 t476, .slice Ao11 t477.length co11], .slice Ao78 t484.length co78] rfl lz ?_; (with_reducible refine (impl_ContentOf.calls kj6 t476 _ _ t477 (fun k_ => some k_ = (.slice Ao78 t484.length co78 : Value).ownBlock) _ _ t484 t517 t520 _ ?side1 ?side2 ?side3 ?side4 A36.out).mono ?_); (case side1 => have q_ := Aside0.mk (Kd.R_reads' HO_484001.out).2.2; exact cQ q_); (case side2 => exact (Kd.R_reads' HO_484001.out).2.1); (case side3 => exact Kd.R_V (Kd.R_tight rfl (IsS76.apart HI497.out (Kd.R_types (HO_5.out) BK483.out (by decide)) (by decide)))); (case side4 => exact TabW.below HT.out (zLFnNormalFormsx2)); rintro e w85 ⟨v518, rfl, ho0, hb⟩; refine ⟨_, rfl, ?_⟩; have HO519 := Aside0.mk (Kd.R_lower (Kd.R_new' (Kd.R_new' (Kd.R_new' (Kd.R_new' (Kd.R_new' (Kd.R_new' (Kd.R_new' (Kd.R_mono (ok' := fun k_ => True) ho0 (fun _ hk_ => trivial)) (Kd.R_lt (kdQ HO_4))) (Kd.R_lt (kdQ HO_5))) (Kd.R_lt (kdQ HO_484001))) (Kd.R_lt (kdQ HO500))) (Kd.R_lt (kdQ HO505))) (Kd.R_lt (kdQ HO511))) (Kd.R_lt (kdQ HO515))) (below_size (zLFnNormalFormsx2))); replace HO_4 := Aside0.mk (Kd.R_elder' (kdQ HO_4) (Kd.R_base ho0) hb); replace HO_5 := Aside0.mk (Kd.R_elder' (kdQ HO_5) (Kd.R_base ho0) hb); replace HO_484001 := Aside0.mk (Kd.R_elder' (kdQ HO_484001) (Kd.R_base ho0) hb); replace HO500 := Aside0.mk (Kd.R_elder' (kdQ HO500) (Kd.R_base ho0) hb); replace HO505 := Aside0.mk (Kd.R_elder' (kdQ HO505) (Kd.R_base ho0) hb); replace HO511 := Aside0.mk (Kd.R_elder' (kdQ HO511) (Kd.R_base ho0) hb); replace HO515 := Aside0.mk (Kd.R_elder' (kdQ HO515) (Kd.R_base ho0) hb); replace BK483 := bb BK483 hb; replace HB := Aside0.mk (below_step (zLFnNormalFormsx2) hb); replace HI497 := Aside0.mk (IsS76.below (zLFnNormalFormsx1) hb); (try clear hb); (try clear hb2); (try clear hk); (try clear hi); (try clear hgw_); (try clear ho0); obtain ⟨Ao86, co86, eo86⟩ := Kd.R_slice HO505.out; subst eo86) | (go_at_call 13; (with_reducible refine (laws_likeInts.calls kj6 _ _ t503 _ _ t484 true _ ?side1 ?side2 ?side3 ?side4 A42.out).mono ?_); (case side1 => have q_ := Aside0.mk (Kd.R_reads' HO505.out).2.2; exact cQ q_); (case side2 => exact (Kd.R_reads' HO505.out).2.1); (case side3 => have q_ := Aside0.mk (Kd.R_reads' HO_5.out).2.2; exact cQ q_); (case side4 => exact (Kd.R_reads' HO_5.out).2.1); rintro e w' ⟨rfl, ⟨nd, rfl⟩⟩; obtain ⟨Ao87, co87, eo87⟩ := Kd.R_slice HO511.out; subst eo87) | (go_at_call 13; (with_reducible refine (laws_likeInts.calls kj6 _ _ t509 _ _ t484 true _ ?side1 ?side2 ?side3 ?side4 A45.out).mono ?_); (case side1 => have q_ := Aside0.mk (Kd.R_reads' HO511.out).2.2; exact cQ q_); (case side2 => exact (Kd.R_reads' HO511.out).2.1); (case side3 => have q_ := Aside0.mk (Kd.R_reads' HO_5.out).2.2; exact cQ q_); (case side4 => exact (Kd.R_reads' HO_5.out).2.1); rintro e w' ⟨rfl, ⟨nd, rfl⟩⟩) | (go_at_call 19; (with_reducible refine (laws_less5.calls kj6 _ _ t498 _ _ t484 false _ ?side1 ?side2 ?side3 ?side4 A47.out).mono ?_); (case side1 => have q_ := Aside0.mk (Kd.R_reads' HO500.out).2.2; exact cQ q_); (case side2 => exact (Kd.R_reads' HO500.out).2.1); (case side3 => have q_ := Aside0.mk (Kd.R_reads' HO_5.out).2.2; exact cQ q_); (case side4 => exact (Kd.R_reads' HO_5.out).2.1); rintro e w' ⟨rfl, ⟨nd, rfl⟩⟩; obtain ⟨Ao88, co88, eo88⟩ := Kd.R_slice HO515.out; subst eo88; obtain ⟨Ao89, co89, eo89⟩ := Kd.R_slice HO519.out; subst eo89) | (go_at_call 13; (with_reducible refine (laws_likeInts.calls kj6 _ _ t513 _ _ t517 true _ ?side1 ?side2 ?side3 ?side4 A67.out).mono ?_); (case side1 => have q_ := Aside0.mk (Kd.R_reads' HO515.out).2.2; exact cQ q_); (case side2 => exact (Kd.R_reads' HO515.out).2.1); (case side3 => have q_ := Aside0.mk (Kd.R_reads' HO519.out).2.2; exact cQ q_); (case side4 => exact (Kd.R_reads' HO519.out).2.1); rintro e w' ⟨rfl, ⟨nd, rfl⟩⟩) | (go_at_call 20; (with_reducible refine (laws_sum.calls kj6 _ _ t513 t525 _ ?side1 ?side2 A69.out).mono ?_); (case side1 => have q_ := Aside0.mk (Kd.R_reads' HO515.out).2.2; exact cQ q_); (case side2 => exact (Kd.R_reads' HO515.out).2.1); rintro e w' ⟨rfl, ⟨nd, rfl⟩⟩))
                go_ret
                exact ⟨rz, zLFnNormalFormsx2⟩
               ·replace c68 := Bool.eq_false_iff.mpr c68
                subst c68
                have H1 : (some false) = some r := by rw [if_neg (show ¬ (false = true) by decide)] at H; exact H
                clear H; have H := H1; clear H1
                obtain rfl := Option.some.inj H
                try go_wp2
                replace HO_4 := Aside0.mk (Kd.R_drew HO_4.out); replace HO_5 := Aside0.mk (Kd.R_drew HO_5.out); replace HO_484001 := Aside0.mk (Kd.R_drew HO_484001.out); replace BK483 := Aside0.mk (blk_drew BK483.out); replace HB := Aside0.mk (below_drew1 HB.out)
                refine start_ (n := 6) (S := fun w' => w'.cell? ⟨gb483, 0, none⟩ = some (.int .i64 t476) ∧ w'.cell? ⟨gb483, 1, none⟩ = some (.slice Ao11 t477.length co11)) (ds := []) #[false, false, false, false, false, false] (by kernel_rfl) rfl rfl ⟨bc BK483 0, bc BK483 1⟩ (fun hHeld => ?_)
                generalize wc.drew = w90 at HO_4 HO_5 HO_484001 BK483 HB hHeld ⊢
                refine pure_ (i := 0) (N := some 58) (v := ?_) (a' := ?_) #[true, false, false, false, false, false] rfl rfl (by kernel_rfl) (fun _ _ _ h => h) (Or.inl ⟨by rfl, ?_⟩) ?_ ?_
                rotate_left
                ·intro w'
                 go_simp
                 with_reducible rfl
                rotate_left
                ·simp only [Act.put, s1, s2, s3, i64_w, i32_w]
                 rfl
                refine pure_ (i := 3) (N := some 61) (v := ?_) (a' := ?_) #[true, false, false, true, false, false] rfl rfl (by kernel_rfl) (fun _ _ _ h => h) (Or.inl ⟨by rfl, ?_⟩) ?_ ?_
                rotate_left
                ·intro w'
                 go_simp
                 with_reducible rfl
                rotate_left
                ·simp only [Act.put, s1, s2, s3, i64_w, i32_w]
                 rfl
                refine take_ (i := 2) (N := some 60) (v := ?_) (a' := ?_) #[true, false, true, true, false, false] rfl rfl (by kernel_rfl) (fun _ _ _ h => h) (Or.inl ⟨by rfl, ?_⟩) hHeld ?_ ?_
                rotate_left
                ·rintro w' ⟨s0, s1⟩
                 go_simp
                 with_reducible rfl
                rotate_left
                ·simp only [Act.put, s1, s2, s3, i64_w, i32_w]
                 rfl
                refine one_ (i := 1) (N := some 59) #[true, true, true, true, false, false] rfl rfl (by kernel_rfl) (by decide) (fun K hK => ?_)
                refine goes_ Tryd.func16 (by kernel_rfl) rfl #[.slice A0 l0.length c0, .int .u64 504] (by rfl) rfl rfl lz ?_
                with_reducible refine (laws_roll.calls kj6 _ _ l0 504 t494 t495 t496 w _ ?side1 ?side2 ?side3 A30.out).mono ?_
                (case side1 => exact zLFnNormalFormsx0)
                (case side2 => exact HR0.out)
                (case side3 => exact HC0.out)
                rintro e w91 ⟨g497, rfl, hi, hb, hb2, hgw_⟩
                refine ⟨_, rfl, ?_⟩
                replace HO_4 := Aside0.mk (Kd.R_below (kdQ HO_4) hb2); replace HO_5 := Aside0.mk (Kd.R_below (kdQ HO_5) hb2); replace HO_484001 := Aside0.mk (Kd.R_below (kdQ HO_484001) hb2); replace HB := Aside0.mk (hb); have HI497 := Aside0.mk (hi)
                have NB497_483 := Aside0.mk (IsS76.ne_blk hi (blk_below (blkQ BK483) hb2) (by decide))
                have NB483_497 := Aside0.mk (Ne.symm (IsS76.ne_blk hi (blk_below (blkQ BK483) hb2) (by decide)))
                replace BK483 := Aside0.mk (blk_below (blkQ BK483) hb2)
                (try clear hb)
                (try clear hb2)
                (try clear hk)
                (try clear hi)
                (try clear hgw_)
                refine hK.out _ _ ⟨bc BK483 0, bc BK483 1⟩ (fun hHeld => ?_)
                clear hK K
                refine norm_ (a' := ?_) ?_ ?_
                rotate_left
                ·show Act.put _ (some 59) _ = _
                 simp only [Act.put, s1, s2, s3, i64_w, i32_w]
                 rfl
                refine one_ (i := 4) (N := some 62) #[true, true, true, true, true, false] rfl rfl (by kernel_rfl) (by decide) (fun K hK => ?_)
                refine goes_ Tryd.func15 (by kernel_rfl) rfl #[.pointer (some ⟨g497, 0, none⟩), .agg #[.int .i64 t476, .slice Ao11 t477.length co11], .slice Ao14 t480.length co14] (by rfl) rfl rfl lz ?_
                with_reducible refine (laws_shuffle5.calls kj6 g497 t494 t495 t496 t476 _ _ t477 _ _ t480 t498 t501 t502 w _ ?side1 ?side2 ?side3 ?side4 ?side5 ?side6 ?side7 ?side8 A31.out).mono ?_
                (case side1 => exact zLFnNormalFormsx1)
                (case side2 => exact zLFnNormalFormsx2)
                (case side3 => have q_ := Aside0.mk (Kd.R_reads' HO_484001.out).2.2; exact cQ q_)
                (case side4 => exact (Kd.R_reads' HO_484001.out).2.1)
                (case side5 => exact far_slice (IsS76.own_ne HI497.out HO_484001.out (by decide)))
                (case side6 => have q_ := Aside0.mk (Kd.R_reads' HO_4.out).2.2; exact cQ q_)
                (case side7 => exact (Kd.R_reads' HO_4.out).2.1)
                (case side8 => exact far_slice (IsS76.own_ne HI497.out HO_4.out (by decide)))
                rintro e w92 ⟨v499, rfl, ho0, hi, hb, hk⟩
                refine ⟨_, rfl, ?_⟩
                replace BK483 := Aside0.mk (KeepBut.blk hk (g' := gb483) (o := .cells #[.int .i64 t476, .slice Ao11 t477.length co11] 26 (0, 0)) (blkQ BK483) NB483_497.out (by simp))
                have HO500 := Aside0.mk (Kd.R_lower (Kd.R_new' (Kd.R_new' (Kd.R_new' ho0 (Kd.R_lt (kdQ HO_4))) (Kd.R_lt (kdQ HO_5))) (Kd.R_lt (kdQ HO_484001))) (below_size (zLFnNormalFormsx2)))
                replace HO_4 := Aside0.mk (Kd.R_mono (Kd.R_told (Kd.R_oldK (IsS76.apart (show IsS76 w _ g497 t494 t495 t496 from zLFnNormalFormsx1) (kdQ HO_4) (by decide)) hk) (Kd.R_base ho0)) (fun _ h_ => h_.1))
                replace HO_5 := Aside0.mk (Kd.R_mono (Kd.R_told (Kd.R_oldK (IsS76.apart (show IsS76 w _ g497 t494 t495 t496 from zLFnNormalFormsx1) (kdQ HO_5) (by decide)) hk) (Kd.R_base ho0)) (fun _ h_ => h_.1))
                replace HO_484001 := Aside0.mk (Kd.R_mono (Kd.R_told (Kd.R_oldK (IsS76.apart (show IsS76 w _ g497 t494 t495 t496 from zLFnNormalFormsx1) (kdQ HO_484001) (by decide)) hk) (Kd.R_base ho0)) (fun _ h_ => h_.1))
                replace HB := Aside0.mk (hb); replace HI497 := Aside0.mk (hi)
                (try clear hb)
                (try clear hb2)
                (try clear hk)
                (try clear hi)
                (try clear hgw_)
                (try clear ho0)
                refine hK.out _ _ ⟨bc BK483 0, bc BK483 1⟩ (fun hHeld => ?_)
                clear hK K
                refine norm_ (a' := ?_) ?_ ?_
                rotate_left
                ·show Act.put _ (some 62) _ = _
                 simp only [Act.put, s1, s2, s3, i64_w, i32_w]
                 rfl
                refine pure_ (i := 5) (N := some 9) (v := ?_) (a' := ?_) #[true, true, true, true, true, true] rfl rfl (by kernel_rfl) (fun _ _ _ h => h) (Or.inl ⟨by rfl, ?_⟩) ?_ ?_
                rotate_left
                ·intro w'
                 go_simp
                 with_reducible rfl
                rotate_left
                ·simp only [Act.put, s1, s2, s3, i64_w, i32_w]
                 rfl
                refine done_ (by kernel_rfl) ?_
                have hnb93 := NB483_497.out; have hnc93 := NB497_483.out
                have hcz94_0 : w92.cell? ⟨gb483, 0, none⟩ = some (.int .i64 t476) := bc BK483 0
                have hcz94_1 : w92.cell? ⟨gb483, 1, none⟩ = some (.slice Ao11 t477.length co11) := bc BK483 1
                have hfz94_0 := blk_frozen BK483.out 0; have hfz94_1 := blk_frozen BK483.out 1; obtain ⟨Ao95, co95, eo95⟩ := Kd.R_slice HO500.out; subst eo95
                try go_wp2_with (first | ((with_reducible refine gate_callee (f := 11) rfl ?_); refine goesL_ (some 66) rfl rfl Tryd.func11 (by kernel_rfl) rfl #[.agg #[.int .i64 t476, .slice Ao11 t477.length co11], .slice Ao95 t498.length co95] rfl lz ?_; (with_reducible refine (impl_NormalForm.calls kj6 t476 _ _ t477 (fun k_ => some k_ = (.slice Ao95 t498.length co95 : Value).ownBlock) _ _ t498 t503 t506 _ ?side1 ?side2 ?side3 ?side4 A32.out).mono ?_); (case side1 => have q_ := Aside0.mk (Kd.R_reads' HO_484001.out).2.2; exact cQ q_); (case side2 => exact (Kd.R_reads' HO_484001.out).2.1); (case side3 => exact Kd.R_V (Kd.R_tight rfl (IsS76.apart HI497.out (Kd.R_types (HO500.out) BK483.out (by decide)) (by decide)))); (case side4 => exact TabW.below HT.out (zLFnNormalFormsx2)); rintro e w96 ⟨v504, rfl, ho0, hb⟩; refine ⟨_, rfl, ?_⟩; have HO505 := Aside0.mk (Kd.R_lower (Kd.R_new' (Kd.R_new' (Kd.R_new' (Kd.R_new' (Kd.R_mono (ok' := fun k_ => True) ho0 (fun _ hk_ => trivial)) (Kd.R_lt (kdQ HO_4))) (Kd.R_lt (kdQ HO_5))) (Kd.R_lt (kdQ HO_484001))) (Kd.R_lt (kdQ HO500))) (below_size (zLFnNormalFormsx2))); replace HO_4 := Aside0.mk (Kd.R_elder' (kdQ HO_4) (Kd.R_base ho0) hb); replace HO_5 := Aside0.mk (Kd.R_elder' (kdQ HO_5) (Kd.R_base ho0) hb); replace HO_484001 := Aside0.mk (Kd.R_elder' (kdQ HO_484001) (Kd.R_base ho0) hb); replace HO500 := Aside0.mk (Kd.R_elder' (kdQ HO500) (Kd.R_base ho0) hb); replace BK483 := bb BK483 hb; replace HB := Aside0.mk (below_step (zLFnNormalFormsx2) hb); replace HI497 := Aside0.mk (IsS76.below (zLFnNormalFormsx1) hb); (try clear hb); (try clear hb2); (try clear hk); (try clear hi); (try clear hgw_); (try clear ho0); have hcz97_0 : w96.cell? ⟨gb483, 0, none⟩ = some (.int .i64 t476) := bc BK483 0; have hcz97_1 : w96.cell? ⟨gb483, 1, none⟩ = some (.slice Ao11 t477.length co11) := bc BK483 1; have hfz97_0 := blk_frozen BK483.out 0; have hfz97_1 := blk_frozen BK483.out 1; obtain ⟨Ao98, co98, eo98⟩ := Kd.R_slice HO_5.out; subst eo98) | ((with_reducible refine gate_callee (f := 17) rfl ?_); refine goesL_ (some 73) rfl rfl Tryd.func17 (by kernel_rfl) rfl #[.agg #[.int .i64 t476, .slice Ao11 t477.length co11], .slice Ao95 t498.length co95, .slice Ao98 t484.length co98] rfl lz ?_; (with_reducible refine (impl_AreSameTrace.calls kj6 t476 _ _ t477 (fun k_ => some k_ = (.slice Ao95 t498.length co95 : Value).ownBlock) _ _ t498 (fun k_ => some k_ = (.slice Ao98 t484.length co98 : Value).ownBlock) _ _ t484 true t508 _ ?side1 ?side2 ?side3 ?side4 ?side5 A33.out).mono ?_); (case side1 => have q_ := Aside0.mk (Kd.R_reads' HO_484001.out).2.2; exact cQ q_); (case side2 => exact (Kd.R_reads' HO_484001.out).2.1); (case side3 => exact Kd.R_V (Kd.R_tight rfl (IsS76.apart HI497.out (Kd.R_types (HO500.out) BK483.out (by decide)) (by decide)))); (case side4 => exact Kd.R_V (Kd.R_tight rfl (IsS76.apart HI497.out (Kd.R_types (HO_5.out) BK483.out (by decide)) (by decide)))); (case side5 => exact TabW.below HT.out (zLFnNormalFormsx2)); rintro e w99 ⟨rfl, hb⟩; refine ⟨_, rfl, ?_⟩; replace HO_4 := kb HO_4 hb; replace HO_5 := kb HO_5 hb; replace HO_484001 := kb HO_484001 hb; replace HO500 := kb HO500 hb; replace HO505 := kb HO505 hb; replace BK483 := bb BK483 hb; replace HB := Aside0.mk (below_step (zLFnNormalFormsx2) hb); replace HI497 := Aside0.mk (IsS76.below (zLFnNormalFormsx1) hb); (try clear hb); (try clear hb2); (try clear hk); (try clear hi); (try clear hgw_); have hcz100_0 : w99.cell? ⟨gb483, 0, none⟩ = some (.int .i64 t476) := bc BK483 0; have hcz100_1 : w99.cell? ⟨gb483, 1, none⟩ = some (.slice Ao11 t477.length co11) := bc BK483 1; have hfz100_0 := blk_frozen BK483.out 0; have hfz100_1 := blk_frozen BK483.out 1) | ((with_reducible refine gate_callee (f := 11) rfl ?_); refine goesL_ (some 79) rfl rfl Tryd.func11 (by kernel_rfl) rfl #[.agg #[.int .i64 t476, .slice Ao11 t477.length co11], .slice Ao98 t484.length co98] rfl lz ?_; (with_reducible refine (impl_NormalForm.calls kj6 t476 _ _ t477 (fun k_ => some k_ = (.slice Ao98 t484.length co98 : Value).ownBlock) _ _ t484 t509 t512 _ ?side1 ?side2 ?side3 ?side4 A34.out).mono ?_); (case side1 => have q_ := Aside0.mk (Kd.R_reads' HO_484001.out).2.2; exact cQ q_); (case side2 => exact (Kd.R_reads' HO_484001.out).2.1); (case side3 => exact Kd.R_V (Kd.R_tight rfl (IsS76.apart HI497.out (Kd.R_types (HO_5.out) BK483.out (by decide)) (by decide)))); (case side4 => exact TabW.below HT.out (zLFnNormalFormsx2)); rintro e w101 ⟨v510, rfl, ho0, hb⟩; refine ⟨_, rfl, ?_⟩; have HO511 := Aside0.mk (Kd.R_lower (Kd.R_new' (Kd.R_new' (Kd.R_new' (Kd.R_new' (Kd.R_new' (Kd.R_mono (ok' := fun k_ => True) ho0 (fun _ hk_ => trivial)) (Kd.R_lt (kdQ HO_4))) (Kd.R_lt (kdQ HO_5))) (Kd.R_lt (kdQ HO_484001))) (Kd.R_lt (kdQ HO500))) (Kd.R_lt (kdQ HO505))) (below_size (zLFnNormalFormsx2))); replace HO_4 := Aside0.mk (Kd.R_elder' (kdQ HO_4) (Kd.R_base ho0) hb); replace HO_5 := Aside0.mk (Kd.R_elder' (kdQ HO_5) (Kd.R_base ho0) hb); replace HO_484001 := Aside0.mk (Kd.R_elder' (kdQ HO_484001) (Kd.R_base ho0) hb); replace HO500 := Aside0.mk (Kd.R_elder' (kdQ HO500) (Kd.R_base ho0) hb); replace HO505 := Aside0.mk (Kd.R_elder' (kdQ HO505) (Kd.R_base ho0) hb); replace BK483 := bb BK483 hb; replace HB := Aside0.mk (below_step (zLFnNormalFormsx2) hb); replace HI497 := Aside0.mk (IsS76.below (zLFnNormalFormsx1) hb); (try clear hb); (try clear hb2); (try clear hk); (try clear hi); (try clear hgw_); (try clear ho0); have hcz102_0 : w101.cell? ⟨gb483, 0, none⟩ = some (.int .i64 t476) := bc BK483 0; have hcz102_1 : w101.cell? ⟨gb483, 1, none⟩ = some (.slice Ao11 t477.length co11) := bc BK483 1; have hfz102_0 := blk_frozen BK483.out 0; have hfz102_1 := blk_frozen BK483.out 1) | ((with_reducible refine gate_callee (f := 18) rfl ?_); refine goesL_ (some 85) rfl rfl Tryd.func18 (by kernel_rfl) rfl #[.agg #[.int .i64 t476, .slice Ao11 t477.length co11], .slice Ao14 t480.length co14] rfl lz ?_; (with_reducible refine (impl_ContentOf.calls kj6 t476 _ _ t477 (fun k_ => some k_ = (.slice Ao14 t480.length co14 : Value).ownBlock) _ _ t480 t513 t516 _ ?side1 ?side2 ?side3 ?side4 A35.out).mono ?_); (case side1 => have q_ := Aside0.mk (Kd.R_reads' HO_484001.out).2.2; exact cQ q_); (case side2 => exact (Kd.R_reads' HO_484001.out).2.1); (case side3 => exact Kd.R_V (Kd.R_tight rfl (IsS76.apart HI497.out (Kd.R_types (HO_4.out) BK483.out (by decide)) (by decide)))); (case side4 => exact TabW.below HT.out (zLFnNormalFormsx2)); rintro e w103 ⟨v514, rfl, ho0, hb⟩; refine ⟨_, rfl, ?_⟩; have HO515 := Aside0.mk (Kd.R_lower (Kd.R_new' (Kd.R_new' (Kd.R_new' (Kd.R_new' (Kd.R_new' (Kd.R_new' (Kd.R_mono (ok' := fun k_ => True) ho0 (fun _ hk_ => trivial)) (Kd.R_lt (kdQ HO_4))) (Kd.R_lt (kdQ HO_5))) (Kd.R_lt (kdQ HO_484001))) (Kd.R_lt (kdQ HO500))) (Kd.R_lt (kdQ HO505))) (Kd.R_lt (kdQ HO511))) (below_size (zLFnNormalFormsx2))); replace HO_4 := Aside0.mk (Kd.R_elder' (kdQ HO_4) (Kd.R_base ho0) hb); replace HO_5 := Aside0.mk (Kd.R_elder' (kdQ HO_5) (Kd.R_base ho0) hb); replace HO_484001 := Aside0.mk (Kd.R_elder' (kdQ HO_484001) (Kd.R_base ho0) hb); replace HO500 := Aside0.mk (Kd.R_elder' (kdQ HO500) (Kd.R_base ho0) hb); replace HO505 := Aside0.mk (Kd.R_elder' (kdQ HO505) (Kd.R_base ho0) hb); replace HO511 := Aside0.mk (Kd.R_elder' (kdQ HO511) (Kd.R_base ho0) hb); replace BK483 := bb BK483 hb; replace HB := Aside0.mk (below_step (zLFnNormalFormsx2) hb); replace HI497 := Aside0.mk (IsS76.below (zLFnNormalFormsx1) hb); (try clear hb); (try clear hb2); (try clear hk); (try clear hi); (try clear hgw_); (try clear ho0); have hcz104_0 : w103.cell? ⟨gb483, 0, none⟩ = some (.int .i64 t476) := bc BK483 0; have hcz104_1 : w103.cell? ⟨gb483, 1, none⟩ = some (.slice Ao11 t477.length co11) := bc BK483 1; have hfz104_0 := blk_frozen BK483.out 0; have hfz104_1 := blk_frozen BK483.out 1) | ((with_reducible refine gate_callee (f := 18) rfl ?_); refine goesL_ (some 91) rfl rfl Tryd.func18 (by kernel_rfl) rfl #[.agg #[.int .i64 t476, .slice Ao11 t477.length co11], .slice Ao98 t484.length co98] rfl lz ?_; (with_reducible refine (impl_ContentOf.calls kj6 t476 _ _ t477 (fun k_ => some k_ = (.slice Ao98 t484.length co98 : Value).ownBlock) _ _ t484 t517 t520 _ ?side1 ?side2 ?side3 ?side4 A36.out).mono ?_); (case side1 => have q_ := Aside0.mk (Kd.R_reads' HO_484001.out).2.2; exact cQ q_); (case side2 => exact (Kd.R_reads' HO_484001.out).2.1); (case side3 => exact Kd.R_V (Kd.R_tight rfl (IsS76.apart HI497.out (Kd.R_types (HO_5.out) BK483.out (by decide)) (by decide)))); (case side4 => exact TabW.below HT.out (zLFnNormalFormsx2)); rintro e w105 ⟨v518, rfl, ho0, hb⟩; refine ⟨_, rfl, ?_⟩; have HO519 := Aside0.mk (Kd.R_lower (Kd.R_new' (Kd.R_new' (Kd.R_new' (Kd.R_new' (Kd.R_new' (Kd.R_new' (Kd.R_new' (Kd.R_mono (ok' := fun k_ => True) ho0 (fun _ hk_ => trivial)) (Kd.R_lt (kdQ HO_4))) (Kd.R_lt (kdQ HO_5))) (Kd.R_lt (kdQ HO_484001))) (Kd.R_lt (kdQ HO500))) (Kd.R_lt (kdQ HO505))) (Kd.R_lt (kdQ HO511))) (Kd.R_lt (kdQ HO515))) (below_size (zLFnNormalFormsx2))); replace HO_4 := Aside0.mk (Kd.R_elder' (kdQ HO_4) (Kd.R_base ho0) hb); replace HO_5 := Aside0.mk (Kd.R_elder' (kdQ HO_5) (Kd.R_base ho0) hb); replace HO_484001 := Aside0.mk (Kd.R_elder' (kdQ HO_484001) (Kd.R_base ho0) hb); replace HO500 := Aside0.mk (Kd.R_elder' (kdQ HO500) (Kd.R_base ho0) hb); replace HO505 := Aside0.mk (Kd.R_elder' (kdQ HO505) (Kd.R_base ho0) hb); replace HO511 := Aside0.mk (Kd.R_elder' (kdQ HO511) (Kd.R_base ho0) hb); replace HO515 := Aside0.mk (Kd.R_elder' (kdQ HO515) (Kd.R_base ho0) hb); replace BK483 := bb BK483 hb; replace HB := Aside0.mk (below_step (zLFnNormalFormsx2) hb); replace HI497 := Aside0.mk (IsS76.below (zLFnNormalFormsx1) hb); (try clear hb); (try clear hb2); (try clear hk); (try clear hi); (try clear hgw_); (try clear ho0); obtain ⟨Ao106, co106, eo106⟩ := Kd.R_slice HO505.out; subst eo106) | (go_at_call 13; (with_reducible refine (laws_likeInts.calls kj6 _ _ t503 _ _ t484 true _ ?side1 ?side2 ?side3 ?side4 A42.out).mono ?_); (case side1 => have q_ := Aside0.mk (Kd.R_reads' HO505.out).2.2; exact cQ q_); (case side2 => exact (Kd.R_reads' HO505.out).2.1); (case side3 => have q_ := Aside0.mk (Kd.R_reads' HO_5.out).2.2; exact cQ q_); (case side4 => exact (Kd.R_reads' HO_5.out).2.1); rintro e w' ⟨rfl, ⟨nd, rfl⟩⟩; obtain ⟨Ao107, co107, eo107⟩ := Kd.R_slice HO511.out; subst eo107) | (go_at_call 13; (with_reducible refine (laws_likeInts.calls kj6 _ _ t509 _ _ t484 true _ ?side1 ?side2 ?side3 ?side4 A45.out).mono ?_); (case side1 => have q_ := Aside0.mk (Kd.R_reads' HO511.out).2.2; exact cQ q_); (case side2 => exact (Kd.R_reads' HO511.out).2.1); (case side3 => have q_ := Aside0.mk (Kd.R_reads' HO_5.out).2.2; exact cQ q_); (case side4 => exact (Kd.R_reads' HO_5.out).2.1); rintro e w' ⟨rfl, ⟨nd, rfl⟩⟩) | (go_at_call 19; (with_reducible refine (laws_less5.calls kj6 _ _ t498 _ _ t484 false _ ?side1 ?side2 ?side3 ?side4 A47.out).mono ?_); (case side1 => have q_ := Aside0.mk (Kd.R_reads' HO500.out).2.2; exact cQ q_); (case side2 => exact (Kd.R_reads' HO500.out).2.1); (case side3 => have q_ := Aside0.mk (Kd.R_reads' HO_5.out).2.2; exact cQ q_); (case side4 => exact (Kd.R_reads' HO_5.out).2.1); rintro e w' ⟨rfl, ⟨nd, rfl⟩⟩; obtain ⟨Ao108, co108, eo108⟩ := Kd.R_slice HO515.out; subst eo108; obtain ⟨Ao109, co109, eo109⟩ := Kd.R_slice HO519.out; subst eo109) | (go_at_call 13; (with_reducible refine (laws_likeInts.calls kj6 _ _ t513 _ _ t517 false _ ?side1 ?side2 ?side3 ?side4 A67.out).mono ?_); (case side1 => have q_ := Aside0.mk (Kd.R_reads' HO515.out).2.2; exact cQ q_); (case side2 => exact (Kd.R_reads' HO515.out).2.1); (case side3 => have q_ := Aside0.mk (Kd.R_reads' HO519.out).2.2; exact cQ q_); (case side4 => exact (Kd.R_reads' HO519.out).2.1); rintro e w' ⟨rfl, ⟨nd, rfl⟩⟩))
                go_ret
                exact ⟨rz, zLFnNormalFormsx2⟩
             ·replace c46 := Bool.eq_false_iff.mpr c46
              subst c46
              have H1 : (some false) = some r := by rw [if_neg (show ¬ (false = true) by decide)] at H; exact H
              clear H; have H := H1; clear H1
              obtain rfl := Option.some.inj H
              try go_wp2
              replace HO_4 := Aside0.mk (Kd.R_drew HO_4.out); replace HO_5 := Aside0.mk (Kd.R_drew HO_5.out); replace HO_484001 := Aside0.mk (Kd.R_drew HO_484001.out); replace BK483 := Aside0.mk (blk_drew BK483.out); replace HB := Aside0.mk (below_drew1 HB.out)
              refine start_ (n := 6) (S := fun w' => w'.cell? ⟨gb483, 0, none⟩ = some (.int .i64 t476) ∧ w'.cell? ⟨gb483, 1, none⟩ = some (.slice Ao11 t477.length co11)) (ds := []) #[false, false, false, false, false, false] (by kernel_rfl) rfl rfl ⟨bc BK483 0, bc BK483 1⟩ (fun hHeld => ?_)
              generalize wc.drew = w110 at HO_4 HO_5 HO_484001 BK483 HB hHeld ⊢
              refine pure_ (i := 0) (N := some 58) (v := ?_) (a' := ?_) #[true, false, false, false, false, false] rfl rfl (by kernel_rfl) (fun _ _ _ h => h) (Or.inl ⟨by rfl, ?_⟩) ?_ ?_
              rotate_left
              ·intro w'
               go_simp
               with_reducible rfl
              rotate_left
              ·simp only [Act.put, s1, s2, s3, i64_w, i32_w]
               rfl
              refine pure_ (i := 3) (N := some 61) (v := ?_) (a' := ?_) #[true, false, false, true, false, false] rfl rfl (by kernel_rfl) (fun _ _ _ h => h) (Or.inl ⟨by rfl, ?_⟩) ?_ ?_
              rotate_left
              ·intro w'
               go_simp
               with_reducible rfl
              rotate_left
              ·simp only [Act.put, s1, s2, s3, i64_w, i32_w]
               rfl
              refine take_ (i := 2) (N := some 60) (v := ?_) (a' := ?_) #[true, false, true, true, false, false] rfl rfl (by kernel_rfl) (fun _ _ _ h => h) (Or.inl ⟨by rfl, ?_⟩) hHeld ?_ ?_
              rotate_left
              ·rintro w' ⟨s0, s1⟩
               go_simp
               with_reducible rfl
              rotate_left
              ·simp only [Act.put, s1, s2, s3, i64_w, i32_w]
               rfl
              refine one_ (i := 1) (N := some 59) #[true, true, true, true, false, false] rfl rfl (by kernel_rfl) (by decide) (fun K hK => ?_)
              refine goes_ Tryd.func16 (by kernel_rfl) rfl #[.slice A0 l0.length c0, .int .u64 504] (by rfl) rfl rfl lz ?_
              with_reducible refine (laws_roll.calls kj6 _ _ l0 504 t494 t495 t496 w _ ?side1 ?side2 ?side3 A30.out).mono ?_
              (case side1 => exact zLFnNormalFormsx0)
              (case side2 => exact HR0.out)
              (case side3 => exact HC0.out)
              rintro e w111 ⟨g497, rfl, hi, hb, hb2, hgw_⟩
              refine ⟨_, rfl, ?_⟩
              replace HO_4 := Aside0.mk (Kd.R_below (kdQ HO_4) hb2); replace HO_5 := Aside0.mk (Kd.R_below (kdQ HO_5) hb2); replace HO_484001 := Aside0.mk (Kd.R_below (kdQ HO_484001) hb2); replace HB := Aside0.mk (hb); have HI497 := Aside0.mk (hi)
              have NB497_483 := Aside0.mk (IsS76.ne_blk hi (blk_below (blkQ BK483) hb2) (by decide))
              have NB483_497 := Aside0.mk (Ne.symm (IsS76.ne_blk hi (blk_below (blkQ BK483) hb2) (by decide)))
              replace BK483 := Aside0.mk (blk_below (blkQ BK483) hb2)
              (try clear hb)
              (try clear hb2)
              (try clear hk)
              (try clear hi)
              (try clear hgw_)
              refine hK.out _ _ ⟨bc BK483 0, bc BK483 1⟩ (fun hHeld => ?_)
              clear hK K
              refine norm_ (a' := ?_) ?_ ?_
              rotate_left
              ·show Act.put _ (some 59) _ = _
               simp only [Act.put, s1, s2, s3, i64_w, i32_w]
               rfl
              refine one_ (i := 4) (N := some 62) #[true, true, true, true, true, false] rfl rfl (by kernel_rfl) (by decide) (fun K hK => ?_)
              refine goes_ Tryd.func15 (by kernel_rfl) rfl #[.pointer (some ⟨g497, 0, none⟩), .agg #[.int .i64 t476, .slice Ao11 t477.length co11], .slice Ao14 t480.length co14] (by rfl) rfl rfl lz ?_
              with_reducible refine (laws_shuffle5.calls kj6 g497 t494 t495 t496 t476 _ _ t477 _ _ t480 t498 t501 t502 w _ ?side1 ?side2 ?side3 ?side4 ?side5 ?side6 ?side7 ?side8 A31.out).mono ?_
              (case side1 => exact zLFnNormalFormsx1)
              (case side2 => exact zLFnNormalFormsx2)
              (case side3 => have q_ := Aside0.mk (Kd.R_reads' HO_484001.out).2.2; exact cQ q_)
              (case side4 => exact (Kd.R_reads' HO_484001.out).2.1)
              (case side5 => exact far_slice (IsS76.own_ne HI497.out HO_484001.out (by decide)))
              (case side6 => have q_ := Aside0.mk (Kd.R_reads' HO_4.out).2.2; exact cQ q_)
              (case side7 => exact (Kd.R_reads' HO_4.out).2.1)
              (case side8 => exact far_slice (IsS76.own_ne HI497.out HO_4.out (by decide)))
              rintro e w112 ⟨v499, rfl, ho0, hi, hb, hk⟩
              refine ⟨_, rfl, ?_⟩
              replace BK483 := Aside0.mk (KeepBut.blk hk (g' := gb483) (o := .cells #[.int .i64 t476, .slice Ao11 t477.length co11] 26 (0, 0)) (blkQ BK483) NB483_497.out (by simp))
              have HO500 := Aside0.mk (Kd.R_lower (Kd.R_new' (Kd.R_new' (Kd.R_new' ho0 (Kd.R_lt (kdQ HO_4))) (Kd.R_lt (kdQ HO_5))) (Kd.R_lt (kdQ HO_484001))) (below_size (zLFnNormalFormsx2)))
              replace HO_4 := Aside0.mk (Kd.R_mono (Kd.R_told (Kd.R_oldK (IsS76.apart (show IsS76 w _ g497 t494 t495 t496 from zLFnNormalFormsx1) (kdQ HO_4) (by decide)) hk) (Kd.R_base ho0)) (fun _ h_ => h_.1))
              replace HO_5 := Aside0.mk (Kd.R_mono (Kd.R_told (Kd.R_oldK (IsS76.apart (show IsS76 w _ g497 t494 t495 t496 from zLFnNormalFormsx1) (kdQ HO_5) (by decide)) hk) (Kd.R_base ho0)) (fun _ h_ => h_.1))
              replace HO_484001 := Aside0.mk (Kd.R_mono (Kd.R_told (Kd.R_oldK (IsS76.apart (show IsS76 w _ g497 t494 t495 t496 from zLFnNormalFormsx1) (kdQ HO_484001) (by decide)) hk) (Kd.R_base ho0)) (fun _ h_ => h_.1))
              replace HB := Aside0.mk (hb); replace HI497 := Aside0.mk (hi)
              (try clear hb)
              (try clear hb2)
              (try clear hk)
              (try clear hi)
              (try clear hgw_)
              (try clear ho0)
              refine hK.out _ _ ⟨bc BK483 0, bc BK483 1⟩ (fun hHeld => ?_)
              clear hK K
              refine norm_ (a' := ?_) ?_ ?_
              rotate_left
              ·show Act.put _ (some 62) _ = _
               simp only [Act.put, s1, s2, s3, i64_w, i32_w]
               rfl
              refine pure_ (i := 5) (N := some 9) (v := ?_) (a' := ?_) #[true, true, true, true, true, true] rfl rfl (by kernel_rfl) (fun _ _ _ h => h) (Or.inl ⟨by rfl, ?_⟩) ?_ ?_
              rotate_left
              ·intro w'
               go_simp
               with_reducible rfl
              rotate_left
              ·simp only [Act.put, s1, s2, s3, i64_w, i32_w]
               rfl
              refine done_ (by kernel_rfl) ?_
              have hnb113 := NB483_497.out; have hnc113 := NB497_483.out
              have hcz114_0 : w112.cell? ⟨gb483, 0, none⟩ = some (.int .i64 t476) := bc BK483 0
              have hcz114_1 : w112.cell? ⟨gb483, 1, none⟩ = some (.slice Ao11 t477.length co11) := bc BK483 1
              have hfz114_0 := blk_frozen BK483.out 0; have hfz114_1 := blk_frozen BK483.out 1; obtain ⟨Ao115, co115, eo115⟩ := Kd.R_slice HO500.out; subst eo115
              try go_wp2_with (first | ((with_reducible refine gate_callee (f := 11) rfl ?_); refine goesL_ (some 66) rfl rfl Tryd.func11 (by kernel_rfl) rfl #[.agg #[.int .i64 t476, .slice Ao11 t477.length co11], .slice Ao115 t498.length co115] rfl lz ?_; (with_reducible refine (impl_NormalForm.calls kj6 t476 _ _ t477 (fun k_ => some k_ = (.slice Ao115 t498.length co115 : Value).ownBlock) _ _ t498 t503 t506 _ ?side1 ?side2 ?side3 ?side4 A32.out).mono ?_); (case side1 => have q_ := Aside0.mk (Kd.R_reads' HO_484001.out).2.2; exact cQ q_); (case side2 => exact (Kd.R_reads' HO_484001.out).2.1); (case side3 => exact Kd.R_V (Kd.R_tight rfl (IsS76.apart HI497.out (Kd.R_types (HO500.out) BK483.out (by decide)) (by decide)))); (case side4 => exact TabW.below HT.out (zLFnNormalFormsx2)); rintro e w116 ⟨v504, rfl, ho0, hb⟩; refine ⟨_, rfl, ?_⟩; have HO505 := Aside0.mk (Kd.R_lower (Kd.R_new' (Kd.R_new' (Kd.R_new' (Kd.R_new' (Kd.R_mono (ok' := fun k_ => True) ho0 (fun _ hk_ => trivial)) (Kd.R_lt (kdQ HO_4))) (Kd.R_lt (kdQ HO_5))) (Kd.R_lt (kdQ HO_484001))) (Kd.R_lt (kdQ HO500))) (below_size (zLFnNormalFormsx2))); replace HO_4 := Aside0.mk (Kd.R_elder' (kdQ HO_4) (Kd.R_base ho0) hb); replace HO_5 := Aside0.mk (Kd.R_elder' (kdQ HO_5) (Kd.R_base ho0) hb); replace HO_484001 := Aside0.mk (Kd.R_elder' (kdQ HO_484001) (Kd.R_base ho0) hb); replace HO500 := Aside0.mk (Kd.R_elder' (kdQ HO500) (Kd.R_base ho0) hb); replace BK483 := bb BK483 hb; replace HB := Aside0.mk (below_step (zLFnNormalFormsx2) hb); replace HI497 := Aside0.mk (IsS76.below (zLFnNormalFormsx1) hb); (try clear hb); (try clear hb2); (try clear hk); (try clear hi); (try clear hgw_); (try clear ho0); have hcz117_0 : w116.cell? ⟨gb483, 0, none⟩ = some (.int .i64 t476) := bc BK483 0; have hcz117_1 : w116.cell? ⟨gb483, 1, none⟩ = some (.slice Ao11 t477.length co11) := bc BK483 1; have hfz117_0 := blk_frozen BK483.out 0; have hfz117_1 := blk_frozen BK483.out 1; obtain ⟨Ao118, co118, eo118⟩ := Kd.R_slice HO_5.out; subst eo118) | ((with_reducible refine gate_callee (f := 17) rfl ?_); refine goesL_ (some 73) rfl rfl Tryd.func17 (by kernel_rfl) rfl #[.agg #[.int .i64 t476, .slice Ao11 t477.length co11], .slice Ao115 t498.length co115, .slice Ao118 t484.length co118] rfl lz ?_; (with_reducible refine (impl_AreSameTrace.calls kj6 t476 _ _ t477 (fun k_ => some k_ = (.slice Ao115 t498.length co115 : Value).ownBlock) _ _ t498 (fun k_ => some k_ = (.slice Ao118 t484.length co118 : Value).ownBlock) _ _ t484 true t508 _ ?side1 ?side2 ?side3 ?side4 ?side5 A33.out).mono ?_); (case side1 => have q_ := Aside0.mk (Kd.R_reads' HO_484001.out).2.2; exact cQ q_); (case side2 => exact (Kd.R_reads' HO_484001.out).2.1); (case side3 => exact Kd.R_V (Kd.R_tight rfl (IsS76.apart HI497.out (Kd.R_types (HO500.out) BK483.out (by decide)) (by decide)))); (case side4 => exact Kd.R_V (Kd.R_tight rfl (IsS76.apart HI497.out (Kd.R_types (HO_5.out) BK483.out (by decide)) (by decide)))); (case side5 => exact TabW.below HT.out (zLFnNormalFormsx2)); rintro e w119 ⟨rfl, hb⟩; refine ⟨_, rfl, ?_⟩; replace HO_4 := kb HO_4 hb; replace HO_5 := kb HO_5 hb; replace HO_484001 := kb HO_484001 hb; replace HO500 := kb HO500 hb; replace HO505 := kb HO505 hb; replace BK483 := bb BK483 hb; replace HB := Aside0.mk (below_step (zLFnNormalFormsx2) hb); replace HI497 := Aside0.mk (IsS76.below (zLFnNormalFormsx1) hb); (try clear hb); (try clear hb2); (try clear hk); (try clear hi); (try clear hgw_); have hcz120_0 : w119.cell? ⟨gb483, 0, none⟩ = some (.int .i64 t476) := bc BK483 0; have hcz120_1 : w119.cell? ⟨gb483, 1, none⟩ = some (.slice Ao11 t477.length co11) := bc BK483 1; have hfz120_0 := blk_frozen BK483.out 0; have hfz120_1 := blk_frozen BK483.out 1) | ((with_reducible refine gate_callee (f := 11) rfl ?_); refine goesL_ (some 79) rfl rfl Tryd.func11 (by kernel_rfl) rfl #[.agg #[.int .i64 t476, .slice Ao11 t477.length co11], .slice Ao118 t484.length co118] rfl lz ?_; (with_reducible refine (impl_NormalForm.calls kj6 t476 _ _ t477 (fun k_ => some k_ = (.slice Ao118 t484.length co118 : Value).ownBlock) _ _ t484 t509 t512 _ ?side1 ?side2 ?side3 ?side4 A34.out).mono ?_); (case side1 => have q_ := Aside0.mk (Kd.R_reads' HO_484001.out).2.2; exact cQ q_); (case side2 => exact (Kd.R_reads' HO_484001.out).2.1); (case side3 => exact Kd.R_V (Kd.R_tight rfl (IsS76.apart HI497.out (Kd.R_types (HO_5.out) BK483.out (by decide)) (by decide)))); (case side4 => exact TabW.below HT.out (zLFnNormalFormsx2)); rintro e w121 ⟨v510, rfl, ho0, hb⟩; refine ⟨_, rfl, ?_⟩; have HO511 := Aside0.mk (Kd.R_lower (Kd.R_new' (Kd.R_new' (Kd.R_new' (Kd.R_new' (Kd.R_new' (Kd.R_mono (ok' := fun k_ => True) ho0 (fun _ hk_ => trivial)) (Kd.R_lt (kdQ HO_4))) (Kd.R_lt (kdQ HO_5))) (Kd.R_lt (kdQ HO_484001))) (Kd.R_lt (kdQ HO500))) (Kd.R_lt (kdQ HO505))) (below_size (zLFnNormalFormsx2))); replace HO_4 := Aside0.mk (Kd.R_elder' (kdQ HO_4) (Kd.R_base ho0) hb); replace HO_5 := Aside0.mk (Kd.R_elder' (kdQ HO_5) (Kd.R_base ho0) hb); replace HO_484001 := Aside0.mk (Kd.R_elder' (kdQ HO_484001) (Kd.R_base ho0) hb); replace HO500 := Aside0.mk (Kd.R_elder' (kdQ HO500) (Kd.R_base ho0) hb); replace HO505 := Aside0.mk (Kd.R_elder' (kdQ HO505) (Kd.R_base ho0) hb); replace BK483 := bb BK483 hb; replace HB := Aside0.mk (below_step (zLFnNormalFormsx2) hb); replace HI497 := Aside0.mk (IsS76.below (zLFnNormalFormsx1) hb); (try clear hb); (try clear hb2); (try clear hk); (try clear hi); (try clear hgw_); (try clear ho0); have hcz122_0 : w121.cell? ⟨gb483, 0, none⟩ = some (.int .i64 t476) := bc BK483 0; have hcz122_1 : w121.cell? ⟨gb483, 1, none⟩ = some (.slice Ao11 t477.length co11) := bc BK483 1; have hfz122_0 := blk_frozen BK483.out 0; have hfz122_1 := blk_frozen BK483.out 1) | ((with_reducible refine gate_callee (f := 18) rfl ?_); refine goesL_ (some 85) rfl rfl Tryd.func18 (by kernel_rfl) rfl #[.agg #[.int .i64 t476, .slice Ao11 t477.length co11], .slice Ao14 t480.length co14] rfl lz ?_; (with_reducible refine (impl_ContentOf.calls kj6 t476 _ _ t477 (fun k_ => some k_ = (.slice Ao14 t480.length co14 : Value).ownBlock) _ _ t480 t513 t516 _ ?side1 ?side2 ?side3 ?side4 A35.out).mono ?_); (case side1 => have q_ := Aside0.mk (Kd.R_reads' HO_484001.out).2.2; exact cQ q_); (case side2 => exact (Kd.R_reads' HO_484001.out).2.1); (case side3 => exact Kd.R_V (Kd.R_tight rfl (IsS76.apart HI497.out (Kd.R_types (HO_4.out) BK483.out (by decide)) (by decide)))); (case side4 => exact TabW.below HT.out (zLFnNormalFormsx2)); rintro e w123 ⟨v514, rfl, ho0, hb⟩; refine ⟨_, rfl, ?_⟩; have HO515 := Aside0.mk (Kd.R_lower (Kd.R_new' (Kd.R_new' (Kd.R_new' (Kd.R_new' (Kd.R_new' (Kd.R_new' (Kd.R_mono (ok' := fun k_ => True) ho0 (fun _ hk_ => trivial)) (Kd.R_lt (kdQ HO_4))) (Kd.R_lt (kdQ HO_5))) (Kd.R_lt (kdQ HO_484001))) (Kd.R_lt (kdQ HO500))) (Kd.R_lt (kdQ HO505))) (Kd.R_lt (kdQ HO511))) (below_size (zLFnNormalFormsx2))); replace HO_4 := Aside0.mk (Kd.R_elder' (kdQ HO_4) (Kd.R_base ho0) hb); replace HO_5 := Aside0.mk (Kd.R_elder' (kdQ HO_5) (Kd.R_base ho0) hb); replace HO_484001 := Aside0.mk (Kd.R_elder' (kdQ HO_484001) (Kd.R_base ho0) hb); replace HO500 := Aside0.mk (Kd.R_elder' (kdQ HO500) (Kd.R_base ho0) hb); replace HO505 := Aside0.mk (Kd.R_elder' (kdQ HO505) (Kd.R_base ho0) hb); replace HO511 := Aside0.mk (Kd.R_elder' (kdQ HO511) (Kd.R_base ho0) hb); replace BK483 := bb BK483 hb; replace HB := Aside0.mk (below_step (zLFnNormalFormsx2) hb); replace HI497 := Aside0.mk (IsS76.below (zLFnNormalFormsx1) hb); (try clear hb); (try clear hb2); (try clear hk); (try clear hi); (try clear hgw_); (try clear ho0); have hcz124_0 : w123.cell? ⟨gb483, 0, none⟩ = some (.int .i64 t476) := bc BK483 0; have hcz124_1 : w123.cell? ⟨gb483, 1, none⟩ = some (.slice Ao11 t477.length co11) := bc BK483 1; have hfz124_0 := blk_frozen BK483.out 0; have hfz124_1 := blk_frozen BK483.out 1) | ((with_reducible refine gate_callee (f := 18) rfl ?_); refine goesL_ (some 91) rfl rfl Tryd.func18 (by kernel_rfl) rfl #[.agg #[.int .i64 t476, .slice Ao11 t477.length co11], .slice Ao118 t484.length co118] rfl lz ?_; (with_reducible refine (impl_ContentOf.calls kj6 t476 _ _ t477 (fun k_ => some k_ = (.slice Ao118 t484.length co118 : Value).ownBlock) _ _ t484 t517 t520 _ ?side1 ?side2 ?side3 ?side4 A36.out).mono ?_); (case side1 => have q_ := Aside0.mk (Kd.R_reads' HO_484001.out).2.2; exact cQ q_); (case side2 => exact (Kd.R_reads' HO_484001.out).2.1); (case side3 => exact Kd.R_V (Kd.R_tight rfl (IsS76.apart HI497.out (Kd.R_types (HO_5.out) BK483.out (by decide)) (by decide)))); (case side4 => exact TabW.below HT.out (zLFnNormalFormsx2)); rintro e w125 ⟨v518, rfl, ho0, hb⟩; refine ⟨_, rfl, ?_⟩; have HO519 := Aside0.mk (Kd.R_lower (Kd.R_new' (Kd.R_new' (Kd.R_new' (Kd.R_new' (Kd.R_new' (Kd.R_new' (Kd.R_new' (Kd.R_mono (ok' := fun k_ => True) ho0 (fun _ hk_ => trivial)) (Kd.R_lt (kdQ HO_4))) (Kd.R_lt (kdQ HO_5))) (Kd.R_lt (kdQ HO_484001))) (Kd.R_lt (kdQ HO500))) (Kd.R_lt (kdQ HO505))) (Kd.R_lt (kdQ HO511))) (Kd.R_lt (kdQ HO515))) (below_size (zLFnNormalFormsx2))); replace HO_4 := Aside0.mk (Kd.R_elder' (kdQ HO_4) (Kd.R_base ho0) hb); replace HO_5 := Aside0.mk (Kd.R_elder' (kdQ HO_5) (Kd.R_base ho0) hb); replace HO_484001 := Aside0.mk (Kd.R_elder' (kdQ HO_484001) (Kd.R_base ho0) hb); replace HO500 := Aside0.mk (Kd.R_elder' (kdQ HO500) (Kd.R_base ho0) hb); replace HO505 := Aside0.mk (Kd.R_elder' (kdQ HO505) (Kd.R_base ho0) hb); replace HO511 := Aside0.mk (Kd.R_elder' (kdQ HO511) (Kd.R_base ho0) hb); replace HO515 := Aside0.mk (Kd.R_elder' (kdQ HO515) (Kd.R_base ho0) hb); replace BK483 := bb BK483 hb; replace HB := Aside0.mk (below_step (zLFnNormalFormsx2) hb); replace HI497 := Aside0.mk (IsS76.below (zLFnNormalFormsx1) hb); (try clear hb); (try clear hb2); (try clear hk); (try clear hi); (try clear hgw_); (try clear ho0); obtain ⟨Ao126, co126, eo126⟩ := Kd.R_slice HO505.out; subst eo126) | (go_at_call 13; (with_reducible refine (laws_likeInts.calls kj6 _ _ t503 _ _ t484 true _ ?side1 ?side2 ?side3 ?side4 A42.out).mono ?_); (case side1 => have q_ := Aside0.mk (Kd.R_reads' HO505.out).2.2; exact cQ q_); (case side2 => exact (Kd.R_reads' HO505.out).2.1); (case side3 => have q_ := Aside0.mk (Kd.R_reads' HO_5.out).2.2; exact cQ q_); (case side4 => exact (Kd.R_reads' HO_5.out).2.1); rintro e w' ⟨rfl, ⟨nd, rfl⟩⟩; obtain ⟨Ao127, co127, eo127⟩ := Kd.R_slice HO511.out; subst eo127) | (go_at_call 13; (with_reducible refine (laws_likeInts.calls kj6 _ _ t509 _ _ t484 false _ ?side1 ?side2 ?side3 ?side4 A45.out).mono ?_); (case side1 => have q_ := Aside0.mk (Kd.R_reads' HO511.out).2.2; exact cQ q_); (case side2 => exact (Kd.R_reads' HO511.out).2.1); (case side3 => have q_ := Aside0.mk (Kd.R_reads' HO_5.out).2.2; exact cQ q_); (case side4 => exact (Kd.R_reads' HO_5.out).2.1); rintro e w' ⟨rfl, ⟨nd, rfl⟩⟩))
              go_ret
              exact ⟨rz, zLFnNormalFormsx2⟩
            ·replace c44 := Bool.eq_false_iff.mpr c44
             subst c44
             have H1 : (some false) = some r := by rw [if_neg (show ¬ (false = true) by decide)] at H; exact H
             clear H; have H := H1; clear H1
             obtain rfl := Option.some.inj H
             try go_wp2
             replace HO_4 := Aside0.mk (Kd.R_drew HO_4.out); replace HO_5 := Aside0.mk (Kd.R_drew HO_5.out); replace HO_484001 := Aside0.mk (Kd.R_drew HO_484001.out); replace BK483 := Aside0.mk (blk_drew BK483.out); replace HB := Aside0.mk (below_drew1 HB.out)
             refine start_ (n := 6) (S := fun w' => w'.cell? ⟨gb483, 0, none⟩ = some (.int .i64 t476) ∧ w'.cell? ⟨gb483, 1, none⟩ = some (.slice Ao11 t477.length co11)) (ds := []) #[false, false, false, false, false, false] (by kernel_rfl) rfl rfl ⟨bc BK483 0, bc BK483 1⟩ (fun hHeld => ?_)
             generalize wc.drew = w128 at HO_4 HO_5 HO_484001 BK483 HB hHeld ⊢
             refine pure_ (i := 0) (N := some 58) (v := ?_) (a' := ?_) #[true, false, false, false, false, false] rfl rfl (by kernel_rfl) (fun _ _ _ h => h) (Or.inl ⟨by rfl, ?_⟩) ?_ ?_
             rotate_left
             ·intro w'
              go_simp
              with_reducible rfl
             rotate_left
             ·simp only [Act.put, s1, s2, s3, i64_w, i32_w]
              rfl
             refine pure_ (i := 3) (N := some 61) (v := ?_) (a' := ?_) #[true, false, false, true, false, false] rfl rfl (by kernel_rfl) (fun _ _ _ h => h) (Or.inl ⟨by rfl, ?_⟩) ?_ ?_
             rotate_left
             ·intro w'
              go_simp
              with_reducible rfl
             rotate_left
             ·simp only [Act.put, s1, s2, s3, i64_w, i32_w]
              rfl
             refine take_ (i := 2) (N := some 60) (v := ?_) (a' := ?_) #[true, false, true, true, false, false] rfl rfl (by kernel_rfl) (fun _ _ _ h => h) (Or.inl ⟨by rfl, ?_⟩) hHeld ?_ ?_
             rotate_left
             ·rintro w' ⟨s0, s1⟩
              go_simp
              with_reducible rfl
             rotate_left
             ·simp only [Act.put, s1, s2, s3, i64_w, i32_w]
              rfl
             refine one_ (i := 1) (N := some 59) #[true, true, true, true, false, false] rfl rfl (by kernel_rfl) (by decide) (fun K hK => ?_)
             refine goes_ Tryd.func16 (by kernel_rfl) rfl #[.slice A0 l0.length c0, .int .u64 504] (by rfl) rfl rfl lz ?_
             with_reducible refine (laws_roll.calls kj6 _ _ l0 504 t494 t495 t496 w _ ?side1 ?side2 ?side3 A30.out).mono ?_
             (case side1 => exact zLFnNormalFormsx0)
             (case side2 => exact HR0.out)
             (case side3 => exact HC0.out)
             rintro e w129 ⟨g497, rfl, hi, hb, hb2, hgw_⟩
             refine ⟨_, rfl, ?_⟩
             replace HO_4 := Aside0.mk (Kd.R_below (kdQ HO_4) hb2); replace HO_5 := Aside0.mk (Kd.R_below (kdQ HO_5) hb2); replace HO_484001 := Aside0.mk (Kd.R_below (kdQ HO_484001) hb2); replace HB := Aside0.mk (hb); have HI497 := Aside0.mk (hi)
             have NB497_483 := Aside0.mk (IsS76.ne_blk hi (blk_below (blkQ BK483) hb2) (by decide))
             have NB483_497 := Aside0.mk (Ne.symm (IsS76.ne_blk hi (blk_below (blkQ BK483) hb2) (by decide)))
             replace BK483 := Aside0.mk (blk_below (blkQ BK483) hb2)
             (try clear hb)
             (try clear hb2)
             (try clear hk)
             (try clear hi)
             (try clear hgw_)
             refine hK.out _ _ ⟨bc BK483 0, bc BK483 1⟩ (fun hHeld => ?_)
             clear hK K
             refine norm_ (a' := ?_) ?_ ?_
             rotate_left
             ·show Act.put _ (some 59) _ = _
              simp only [Act.put, s1, s2, s3, i64_w, i32_w]
              rfl
             refine one_ (i := 4) (N := some 62) #[true, true, true, true, true, false] rfl rfl (by kernel_rfl) (by decide) (fun K hK => ?_)
             refine goes_ Tryd.func15 (by kernel_rfl) rfl #[.pointer (some ⟨g497, 0, none⟩), .agg #[.int .i64 t476, .slice Ao11 t477.length co11], .slice Ao14 t480.length co14] (by rfl) rfl rfl lz ?_
             with_reducible refine (laws_shuffle5.calls kj6 g497 t494 t495 t496 t476 _ _ t477 _ _ t480 t498 t501 t502 w _ ?side1 ?side2 ?side3 ?side4 ?side5 ?side6 ?side7 ?side8 A31.out).mono ?_
             (case side1 => exact zLFnNormalFormsx1)
             (case side2 => exact zLFnNormalFormsx2)
             (case side3 => have q_ := Aside0.mk (Kd.R_reads' HO_484001.out).2.2; exact cQ q_)
             (case side4 => exact (Kd.R_reads' HO_484001.out).2.1)
             (case side5 => exact far_slice (IsS76.own_ne HI497.out HO_484001.out (by decide)))
             (case side6 => have q_ := Aside0.mk (Kd.R_reads' HO_4.out).2.2; exact cQ q_)
             (case side7 => exact (Kd.R_reads' HO_4.out).2.1)
             (case side8 => exact far_slice (IsS76.own_ne HI497.out HO_4.out (by decide)))
             rintro e w130 ⟨v499, rfl, ho0, hi, hb, hk⟩
             refine ⟨_, rfl, ?_⟩
             replace BK483 := Aside0.mk (KeepBut.blk hk (g' := gb483) (o := .cells #[.int .i64 t476, .slice Ao11 t477.length co11] 26 (0, 0)) (blkQ BK483) NB483_497.out (by simp))
             have HO500 := Aside0.mk (Kd.R_lower (Kd.R_new' (Kd.R_new' (Kd.R_new' ho0 (Kd.R_lt (kdQ HO_4))) (Kd.R_lt (kdQ HO_5))) (Kd.R_lt (kdQ HO_484001))) (below_size (zLFnNormalFormsx2)))
             replace HO_4 := Aside0.mk (Kd.R_mono (Kd.R_told (Kd.R_oldK (IsS76.apart (show IsS76 w _ g497 t494 t495 t496 from zLFnNormalFormsx1) (kdQ HO_4) (by decide)) hk) (Kd.R_base ho0)) (fun _ h_ => h_.1))
             replace HO_5 := Aside0.mk (Kd.R_mono (Kd.R_told (Kd.R_oldK (IsS76.apart (show IsS76 w _ g497 t494 t495 t496 from zLFnNormalFormsx1) (kdQ HO_5) (by decide)) hk) (Kd.R_base ho0)) (fun _ h_ => h_.1))
             replace HO_484001 := Aside0.mk (Kd.R_mono (Kd.R_told (Kd.R_oldK (IsS76.apart (show IsS76 w _ g497 t494 t495 t496 from zLFnNormalFormsx1) (kdQ HO_484001) (by decide)) hk) (Kd.R_base ho0)) (fun _ h_ => h_.1))
             replace HB := Aside0.mk (hb); replace HI497 := Aside0.mk (hi)
             (try clear hb)
             (try clear hb2)
             (try clear hk)
             (try clear hi)
             (try clear hgw_)
             (try clear ho0)
             refine hK.out _ _ ⟨bc BK483 0, bc BK483 1⟩ (fun hHeld => ?_)
             clear hK K
             refine norm_ (a' := ?_) ?_ ?_
             rotate_left
             ·show Act.put _ (some 62) _ = _
              simp only [Act.put, s1, s2, s3, i64_w, i32_w]
              rfl
             refine pure_ (i := 5) (N := some 9) (v := ?_) (a' := ?_) #[true, true, true, true, true, true] rfl rfl (by kernel_rfl) (fun _ _ _ h => h) (Or.inl ⟨by rfl, ?_⟩) ?_ ?_
             rotate_left
             ·intro w'
              go_simp
              with_reducible rfl
             rotate_left
             ·simp only [Act.put, s1, s2, s3, i64_w, i32_w]
              rfl
             refine done_ (by kernel_rfl) ?_
             have hnb131 := NB483_497.out; have hnc131 := NB497_483.out
             have hcz132_0 : w130.cell? ⟨gb483, 0, none⟩ = some (.int .i64 t476) := bc BK483 0
             have hcz132_1 : w130.cell? ⟨gb483, 1, none⟩ = some (.slice Ao11 t477.length co11) := bc BK483 1
             have hfz132_0 := blk_frozen BK483.out 0; have hfz132_1 := blk_frozen BK483.out 1; obtain ⟨Ao133, co133, eo133⟩ := Kd.R_slice HO500.out; subst eo133
             try go_wp2_with (first | ((with_reducible refine gate_callee (f := 11) rfl ?_); refine goesL_ (some 66) rfl rfl Tryd.func11 (by kernel_rfl) rfl #[.agg #[.int .i64 t476, .slice Ao11 t477.length co11], .slice Ao133 t498.length co133] rfl lz ?_; (with_reducible refine (impl_NormalForm.calls kj6 t476 _ _ t477 (fun k_ => some k_ = (.slice Ao133 t498.length co133 : Value).ownBlock) _ _ t498 t503 t506 _ ?side1 ?side2 ?side3 ?side4 A32.out).mono ?_); (case side1 => have q_ := Aside0.mk (Kd.R_reads' HO_484001.out).2.2; exact cQ q_); (case side2 => exact (Kd.R_reads' HO_484001.out).2.1); (case side3 => exact Kd.R_V (Kd.R_tight rfl (IsS76.apart HI497.out (Kd.R_types (HO500.out) BK483.out (by decide)) (by decide)))); (case side4 => exact TabW.below HT.out (zLFnNormalFormsx2)); rintro e w134 ⟨v504, rfl, ho0, hb⟩; refine ⟨_, rfl, ?_⟩; have HO505 := Aside0.mk (Kd.R_lower (Kd.R_new' (Kd.R_new' (Kd.R_new' (Kd.R_new' (Kd.R_mono (ok' := fun k_ => True) ho0 (fun _ hk_ => trivial)) (Kd.R_lt (kdQ HO_4))) (Kd.R_lt (kdQ HO_5))) (Kd.R_lt (kdQ HO_484001))) (Kd.R_lt (kdQ HO500))) (below_size (zLFnNormalFormsx2))); replace HO_4 := Aside0.mk (Kd.R_elder' (kdQ HO_4) (Kd.R_base ho0) hb); replace HO_5 := Aside0.mk (Kd.R_elder' (kdQ HO_5) (Kd.R_base ho0) hb); replace HO_484001 := Aside0.mk (Kd.R_elder' (kdQ HO_484001) (Kd.R_base ho0) hb); replace HO500 := Aside0.mk (Kd.R_elder' (kdQ HO500) (Kd.R_base ho0) hb); replace BK483 := bb BK483 hb; replace HB := Aside0.mk (below_step (zLFnNormalFormsx2) hb); replace HI497 := Aside0.mk (IsS76.below (zLFnNormalFormsx1) hb); (try clear hb); (try clear hb2); (try clear hk); (try clear hi); (try clear hgw_); (try clear ho0); have hcz135_0 : w134.cell? ⟨gb483, 0, none⟩ = some (.int .i64 t476) := bc BK483 0; have hcz135_1 : w134.cell? ⟨gb483, 1, none⟩ = some (.slice Ao11 t477.length co11) := bc BK483 1; have hfz135_0 := blk_frozen BK483.out 0; have hfz135_1 := blk_frozen BK483.out 1; obtain ⟨Ao136, co136, eo136⟩ := Kd.R_slice HO_5.out; subst eo136) | ((with_reducible refine gate_callee (f := 17) rfl ?_); refine goesL_ (some 73) rfl rfl Tryd.func17 (by kernel_rfl) rfl #[.agg #[.int .i64 t476, .slice Ao11 t477.length co11], .slice Ao133 t498.length co133, .slice Ao136 t484.length co136] rfl lz ?_; (with_reducible refine (impl_AreSameTrace.calls kj6 t476 _ _ t477 (fun k_ => some k_ = (.slice Ao133 t498.length co133 : Value).ownBlock) _ _ t498 (fun k_ => some k_ = (.slice Ao136 t484.length co136 : Value).ownBlock) _ _ t484 false t508 _ ?side1 ?side2 ?side3 ?side4 ?side5 A33.out).mono ?_); (case side1 => have q_ := Aside0.mk (Kd.R_reads' HO_484001.out).2.2; exact cQ q_); (case side2 => exact (Kd.R_reads' HO_484001.out).2.1); (case side3 => exact Kd.R_V (Kd.R_tight rfl (IsS76.apart HI497.out (Kd.R_types (HO500.out) BK483.out (by decide)) (by decide)))); (case side4 => exact Kd.R_V (Kd.R_tight rfl (IsS76.apart HI497.out (Kd.R_types (HO_5.out) BK483.out (by decide)) (by decide)))); (case side5 => exact TabW.below HT.out (zLFnNormalFormsx2)); rintro e w137 ⟨rfl, hb⟩; refine ⟨_, rfl, ?_⟩; replace HO_4 := kb HO_4 hb; replace HO_5 := kb HO_5 hb; replace HO_484001 := kb HO_484001 hb; replace HO500 := kb HO500 hb; replace HO505 := kb HO505 hb; replace BK483 := bb BK483 hb; replace HB := Aside0.mk (below_step (zLFnNormalFormsx2) hb); replace HI497 := Aside0.mk (IsS76.below (zLFnNormalFormsx1) hb); (try clear hb); (try clear hb2); (try clear hk); (try clear hi); (try clear hgw_); have hcz138_0 : w137.cell? ⟨gb483, 0, none⟩ = some (.int .i64 t476) := bc BK483 0; have hcz138_1 : w137.cell? ⟨gb483, 1, none⟩ = some (.slice Ao11 t477.length co11) := bc BK483 1; have hfz138_0 := blk_frozen BK483.out 0; have hfz138_1 := blk_frozen BK483.out 1) | ((with_reducible refine gate_callee (f := 11) rfl ?_); refine goesL_ (some 79) rfl rfl Tryd.func11 (by kernel_rfl) rfl #[.agg #[.int .i64 t476, .slice Ao11 t477.length co11], .slice Ao136 t484.length co136] rfl lz ?_; (with_reducible refine (impl_NormalForm.calls kj6 t476 _ _ t477 (fun k_ => some k_ = (.slice Ao136 t484.length co136 : Value).ownBlock) _ _ t484 t509 t512 _ ?side1 ?side2 ?side3 ?side4 A34.out).mono ?_); (case side1 => have q_ := Aside0.mk (Kd.R_reads' HO_484001.out).2.2; exact cQ q_); (case side2 => exact (Kd.R_reads' HO_484001.out).2.1); (case side3 => exact Kd.R_V (Kd.R_tight rfl (IsS76.apart HI497.out (Kd.R_types (HO_5.out) BK483.out (by decide)) (by decide)))); (case side4 => exact TabW.below HT.out (zLFnNormalFormsx2)); rintro e w139 ⟨v510, rfl, ho0, hb⟩; refine ⟨_, rfl, ?_⟩; have HO511 := Aside0.mk (Kd.R_lower (Kd.R_new' (Kd.R_new' (Kd.R_new' (Kd.R_new' (Kd.R_new' (Kd.R_mono (ok' := fun k_ => True) ho0 (fun _ hk_ => trivial)) (Kd.R_lt (kdQ HO_4))) (Kd.R_lt (kdQ HO_5))) (Kd.R_lt (kdQ HO_484001))) (Kd.R_lt (kdQ HO500))) (Kd.R_lt (kdQ HO505))) (below_size (zLFnNormalFormsx2))); replace HO_4 := Aside0.mk (Kd.R_elder' (kdQ HO_4) (Kd.R_base ho0) hb); replace HO_5 := Aside0.mk (Kd.R_elder' (kdQ HO_5) (Kd.R_base ho0) hb); replace HO_484001 := Aside0.mk (Kd.R_elder' (kdQ HO_484001) (Kd.R_base ho0) hb); replace HO500 := Aside0.mk (Kd.R_elder' (kdQ HO500) (Kd.R_base ho0) hb); replace HO505 := Aside0.mk (Kd.R_elder' (kdQ HO505) (Kd.R_base ho0) hb); replace BK483 := bb BK483 hb; replace HB := Aside0.mk (below_step (zLFnNormalFormsx2) hb); replace HI497 := Aside0.mk (IsS76.below (zLFnNormalFormsx1) hb); (try clear hb); (try clear hb2); (try clear hk); (try clear hi); (try clear hgw_); (try clear ho0); have hcz140_0 : w139.cell? ⟨gb483, 0, none⟩ = some (.int .i64 t476) := bc BK483 0; have hcz140_1 : w139.cell? ⟨gb483, 1, none⟩ = some (.slice Ao11 t477.length co11) := bc BK483 1; have hfz140_0 := blk_frozen BK483.out 0; have hfz140_1 := blk_frozen BK483.out 1) | ((with_reducible refine gate_callee (f := 18) rfl ?_); refine goesL_ (some 85) rfl rfl Tryd.func18 (by kernel_rfl) rfl #[.agg #[.int .i64 t476, .slice Ao11 t477.length co11], .slice Ao14 t480.length co14] rfl lz ?_; (with_reducible refine (impl_ContentOf.calls kj6 t476 _ _ t477 (fun k_ => some k_ = (.slice Ao14 t480.length co14 : Value).ownBlock) _ _ t480 t513 t516 _ ?side1 ?side2 ?side3 ?side4 A35.out).mono ?_); (case side1 => have q_ := Aside0.mk (Kd.R_reads' HO_484001.out).2.2; exact cQ q_); (case side2 => exact (Kd.R_reads' HO_484001.out).2.1); (case side3 => exact Kd.R_V (Kd.R_tight rfl (IsS76.apart HI497.out (Kd.R_types (HO_4.out) BK483.out (by decide)) (by decide)))); (case side4 => exact TabW.below HT.out (zLFnNormalFormsx2)); rintro e w141 ⟨v514, rfl, ho0, hb⟩; refine ⟨_, rfl, ?_⟩; have HO515 := Aside0.mk (Kd.R_lower (Kd.R_new' (Kd.R_new' (Kd.R_new' (Kd.R_new' (Kd.R_new' (Kd.R_new' (Kd.R_mono (ok' := fun k_ => True) ho0 (fun _ hk_ => trivial)) (Kd.R_lt (kdQ HO_4))) (Kd.R_lt (kdQ HO_5))) (Kd.R_lt (kdQ HO_484001))) (Kd.R_lt (kdQ HO500))) (Kd.R_lt (kdQ HO505))) (Kd.R_lt (kdQ HO511))) (below_size (zLFnNormalFormsx2))); replace HO_4 := Aside0.mk (Kd.R_elder' (kdQ HO_4) (Kd.R_base ho0) hb); replace HO_5 := Aside0.mk (Kd.R_elder' (kdQ HO_5) (Kd.R_base ho0) hb); replace HO_484001 := Aside0.mk (Kd.R_elder' (kdQ HO_484001) (Kd.R_base ho0) hb); replace HO500 := Aside0.mk (Kd.R_elder' (kdQ HO500) (Kd.R_base ho0) hb); replace HO505 := Aside0.mk (Kd.R_elder' (kdQ HO505) (Kd.R_base ho0) hb); replace HO511 := Aside0.mk (Kd.R_elder' (kdQ HO511) (Kd.R_base ho0) hb); replace BK483 := bb BK483 hb; replace HB := Aside0.mk (below_step (zLFnNormalFormsx2) hb); replace HI497 := Aside0.mk (IsS76.below (zLFnNormalFormsx1) hb); (try clear hb); (try clear hb2); (try clear hk); (try clear hi); (try clear hgw_); (try clear ho0); have hcz142_0 : w141.cell? ⟨gb483, 0, none⟩ = some (.int .i64 t476) := bc BK483 0; have hcz142_1 : w141.cell? ⟨gb483, 1, none⟩ = some (.slice Ao11 t477.length co11) := bc BK483 1; have hfz142_0 := blk_frozen BK483.out 0; have hfz142_1 := blk_frozen BK483.out 1) | ((with_reducible refine gate_callee (f := 18) rfl ?_); refine goesL_ (some 91) rfl rfl Tryd.func18 (by kernel_rfl) rfl #[.agg #[.int .i64 t476, .slice Ao11 t477.length co11], .slice Ao136 t484.length co136] rfl lz ?_; (with_reducible refine (impl_ContentOf.calls kj6 t476 _ _ t477 (fun k_ => some k_ = (.slice Ao136 t484.length co136 : Value).ownBlock) _ _ t484 t517 t520 _ ?side1 ?side2 ?side3 ?side4 A36.out).mono ?_); (case side1 => have q_ := Aside0.mk (Kd.R_reads' HO_484001.out).2.2; exact cQ q_); (case side2 => exact (Kd.R_reads' HO_484001.out).2.1); (case side3 => exact Kd.R_V (Kd.R_tight rfl (IsS76.apart HI497.out (Kd.R_types (HO_5.out) BK483.out (by decide)) (by decide)))); (case side4 => exact TabW.below HT.out (zLFnNormalFormsx2)); rintro e w143 ⟨v518, rfl, ho0, hb⟩; refine ⟨_, rfl, ?_⟩; have HO519 := Aside0.mk (Kd.R_lower (Kd.R_new' (Kd.R_new' (Kd.R_new' (Kd.R_new' (Kd.R_new' (Kd.R_new' (Kd.R_new' (Kd.R_mono (ok' := fun k_ => True) ho0 (fun _ hk_ => trivial)) (Kd.R_lt (kdQ HO_4))) (Kd.R_lt (kdQ HO_5))) (Kd.R_lt (kdQ HO_484001))) (Kd.R_lt (kdQ HO500))) (Kd.R_lt (kdQ HO505))) (Kd.R_lt (kdQ HO511))) (Kd.R_lt (kdQ HO515))) (below_size (zLFnNormalFormsx2))); replace HO_4 := Aside0.mk (Kd.R_elder' (kdQ HO_4) (Kd.R_base ho0) hb); replace HO_5 := Aside0.mk (Kd.R_elder' (kdQ HO_5) (Kd.R_base ho0) hb); replace HO_484001 := Aside0.mk (Kd.R_elder' (kdQ HO_484001) (Kd.R_base ho0) hb); replace HO500 := Aside0.mk (Kd.R_elder' (kdQ HO500) (Kd.R_base ho0) hb); replace HO505 := Aside0.mk (Kd.R_elder' (kdQ HO505) (Kd.R_base ho0) hb); replace HO511 := Aside0.mk (Kd.R_elder' (kdQ HO511) (Kd.R_base ho0) hb); replace HO515 := Aside0.mk (Kd.R_elder' (kdQ HO515) (Kd.R_base ho0) hb); replace BK483 := bb BK483 hb; replace HB := Aside0.mk (below_step (zLFnNormalFormsx2) hb); replace HI497 := Aside0.mk (IsS76.below (zLFnNormalFormsx1) hb); (try clear hb); (try clear hb2); (try clear hk); (try clear hi); (try clear hgw_); (try clear ho0); obtain ⟨Ao144, co144, eo144⟩ := Kd.R_slice HO505.out; subst eo144) | (go_at_call 13; (with_reducible refine (laws_likeInts.calls kj6 _ _ t503 _ _ t484 true _ ?side1 ?side2 ?side3 ?side4 A42.out).mono ?_); (case side1 => have q_ := Aside0.mk (Kd.R_reads' HO505.out).2.2; exact cQ q_); (case side2 => exact (Kd.R_reads' HO505.out).2.1); (case side3 => have q_ := Aside0.mk (Kd.R_reads' HO_5.out).2.2; exact cQ q_); (case side4 => exact (Kd.R_reads' HO_5.out).2.1); rintro e w' ⟨rfl, ⟨nd, rfl⟩⟩))
             go_ret
             exact ⟨rz, zLFnNormalFormsx2⟩
           ·replace c43 := Bool.eq_false_iff.mpr c43
            subst c43
            have H1 : (some false) = some r := by rw [if_neg (show ¬ (false = true) by decide)] at H; exact H
            clear H; have H := H1; clear H1
            obtain rfl := Option.some.inj H
            try go_wp2
            replace HO_4 := Aside0.mk (Kd.R_drew HO_4.out); replace HO_5 := Aside0.mk (Kd.R_drew HO_5.out); replace HO_484001 := Aside0.mk (Kd.R_drew HO_484001.out); replace BK483 := Aside0.mk (blk_drew BK483.out); replace HB := Aside0.mk (below_drew1 HB.out)
            refine start_ (n := 6) (S := fun w' => w'.cell? ⟨gb483, 0, none⟩ = some (.int .i64 t476) ∧ w'.cell? ⟨gb483, 1, none⟩ = some (.slice Ao11 t477.length co11)) (ds := []) #[false, false, false, false, false, false] (by kernel_rfl) rfl rfl ⟨bc BK483 0, bc BK483 1⟩ (fun hHeld => ?_)
            generalize wc.drew = w145 at HO_4 HO_5 HO_484001 BK483 HB hHeld ⊢
            refine pure_ (i := 0) (N := some 58) (v := ?_) (a' := ?_) #[true, false, false, false, false, false] rfl rfl (by kernel_rfl) (fun _ _ _ h => h) (Or.inl ⟨by rfl, ?_⟩) ?_ ?_
            rotate_left
            ·intro w'
             go_simp
             with_reducible rfl
            rotate_left
            ·simp only [Act.put, s1, s2, s3, i64_w, i32_w]
             rfl
            refine pure_ (i := 3) (N := some 61) (v := ?_) (a' := ?_) #[true, false, false, true, false, false] rfl rfl (by kernel_rfl) (fun _ _ _ h => h) (Or.inl ⟨by rfl, ?_⟩) ?_ ?_
            rotate_left
            ·intro w'
             go_simp
             with_reducible rfl
            rotate_left
            ·simp only [Act.put, s1, s2, s3, i64_w, i32_w]
             rfl
            refine take_ (i := 2) (N := some 60) (v := ?_) (a' := ?_) #[true, false, true, true, false, false] rfl rfl (by kernel_rfl) (fun _ _ _ h => h) (Or.inl ⟨by rfl, ?_⟩) hHeld ?_ ?_
            rotate_left
            ·rintro w' ⟨s0, s1⟩
             go_simp
             with_reducible rfl
            rotate_left
            ·simp only [Act.put, s1, s2, s3, i64_w, i32_w]
             rfl
            refine one_ (i := 1) (N := some 59) #[true, true, true, true, false, false] rfl rfl (by kernel_rfl) (by decide) (fun K hK => ?_)
            refine goes_ Tryd.func16 (by kernel_rfl) rfl #[.slice A0 l0.length c0, .int .u64 504] (by rfl) rfl rfl lz ?_
            with_reducible refine (laws_roll.calls kj6 _ _ l0 504 t494 t495 t496 w _ ?side1 ?side2 ?side3 A30.out).mono ?_
            (case side1 => exact zLFnNormalFormsx0)
            (case side2 => exact HR0.out)
            (case side3 => exact HC0.out)
            rintro e w146 ⟨g497, rfl, hi, hb, hb2, hgw_⟩
            refine ⟨_, rfl, ?_⟩
            replace HO_4 := Aside0.mk (Kd.R_below (kdQ HO_4) hb2); replace HO_5 := Aside0.mk (Kd.R_below (kdQ HO_5) hb2); replace HO_484001 := Aside0.mk (Kd.R_below (kdQ HO_484001) hb2); replace HB := Aside0.mk (hb); have HI497 := Aside0.mk (hi)
            have NB497_483 := Aside0.mk (IsS76.ne_blk hi (blk_below (blkQ BK483) hb2) (by decide))
            have NB483_497 := Aside0.mk (Ne.symm (IsS76.ne_blk hi (blk_below (blkQ BK483) hb2) (by decide)))
            replace BK483 := Aside0.mk (blk_below (blkQ BK483) hb2)
            (try clear hb)
            (try clear hb2)
            (try clear hk)
            (try clear hi)
            (try clear hgw_)
            refine hK.out _ _ ⟨bc BK483 0, bc BK483 1⟩ (fun hHeld => ?_)
            clear hK K
            refine norm_ (a' := ?_) ?_ ?_
            rotate_left
            ·show Act.put _ (some 59) _ = _
             simp only [Act.put, s1, s2, s3, i64_w, i32_w]
             rfl
            refine one_ (i := 4) (N := some 62) #[true, true, true, true, true, false] rfl rfl (by kernel_rfl) (by decide) (fun K hK => ?_)
            refine goes_ Tryd.func15 (by kernel_rfl) rfl #[.pointer (some ⟨g497, 0, none⟩), .agg #[.int .i64 t476, .slice Ao11 t477.length co11], .slice Ao14 t480.length co14] (by rfl) rfl rfl lz ?_
            with_reducible refine (laws_shuffle5.calls kj6 g497 t494 t495 t496 t476 _ _ t477 _ _ t480 t498 t501 t502 w _ ?side1 ?side2 ?side3 ?side4 ?side5 ?side6 ?side7 ?side8 A31.out).mono ?_
            (case side1 => exact zLFnNormalFormsx1)
            (case side2 => exact zLFnNormalFormsx2)
            (case side3 => have q_ := Aside0.mk (Kd.R_reads' HO_484001.out).2.2; exact cQ q_)
            (case side4 => exact (Kd.R_reads' HO_484001.out).2.1)
            (case side5 => exact far_slice (IsS76.own_ne HI497.out HO_484001.out (by decide)))
            (case side6 => have q_ := Aside0.mk (Kd.R_reads' HO_4.out).2.2; exact cQ q_)
            (case side7 => exact (Kd.R_reads' HO_4.out).2.1)
            (case side8 => exact far_slice (IsS76.own_ne HI497.out HO_4.out (by decide)))
            rintro e w147 ⟨v499, rfl, ho0, hi, hb, hk⟩
            refine ⟨_, rfl, ?_⟩
            replace BK483 := Aside0.mk (KeepBut.blk hk (g' := gb483) (o := .cells #[.int .i64 t476, .slice Ao11 t477.length co11] 26 (0, 0)) (blkQ BK483) NB483_497.out (by simp))
            have HO500 := Aside0.mk (Kd.R_lower (Kd.R_new' (Kd.R_new' (Kd.R_new' ho0 (Kd.R_lt (kdQ HO_4))) (Kd.R_lt (kdQ HO_5))) (Kd.R_lt (kdQ HO_484001))) (below_size (zLFnNormalFormsx2)))
            replace HO_4 := Aside0.mk (Kd.R_mono (Kd.R_told (Kd.R_oldK (IsS76.apart (show IsS76 w _ g497 t494 t495 t496 from zLFnNormalFormsx1) (kdQ HO_4) (by decide)) hk) (Kd.R_base ho0)) (fun _ h_ => h_.1))
            replace HO_5 := Aside0.mk (Kd.R_mono (Kd.R_told (Kd.R_oldK (IsS76.apart (show IsS76 w _ g497 t494 t495 t496 from zLFnNormalFormsx1) (kdQ HO_5) (by decide)) hk) (Kd.R_base ho0)) (fun _ h_ => h_.1))
            replace HO_484001 := Aside0.mk (Kd.R_mono (Kd.R_told (Kd.R_oldK (IsS76.apart (show IsS76 w _ g497 t494 t495 t496 from zLFnNormalFormsx1) (kdQ HO_484001) (by decide)) hk) (Kd.R_base ho0)) (fun _ h_ => h_.1))
            replace HB := Aside0.mk (hb); replace HI497 := Aside0.mk (hi)
            (try clear hb)
            (try clear hb2)
            (try clear hk)
            (try clear hi)
            (try clear hgw_)
            (try clear ho0)
            refine hK.out _ _ ⟨bc BK483 0, bc BK483 1⟩ (fun hHeld => ?_)
            clear hK K
            refine norm_ (a' := ?_) ?_ ?_
            rotate_left
            ·show Act.put _ (some 62) _ = _
             simp only [Act.put, s1, s2, s3, i64_w, i32_w]
             rfl
            refine pure_ (i := 5) (N := some 9) (v := ?_) (a' := ?_) #[true, true, true, true, true, true] rfl rfl (by kernel_rfl) (fun _ _ _ h => h) (Or.inl ⟨by rfl, ?_⟩) ?_ ?_
            rotate_left
            ·intro w'
             go_simp
             with_reducible rfl
            rotate_left
            ·simp only [Act.put, s1, s2, s3, i64_w, i32_w]
             rfl
            refine done_ (by kernel_rfl) ?_
            have hnb148 := NB483_497.out; have hnc148 := NB497_483.out
            have hcz149_0 : w147.cell? ⟨gb483, 0, none⟩ = some (.int .i64 t476) := bc BK483 0
            have hcz149_1 : w147.cell? ⟨gb483, 1, none⟩ = some (.slice Ao11 t477.length co11) := bc BK483 1
            have hfz149_0 := blk_frozen BK483.out 0; have hfz149_1 := blk_frozen BK483.out 1; obtain ⟨Ao150, co150, eo150⟩ := Kd.R_slice HO500.out; subst eo150
            try go_wp2_with (first | ((with_reducible refine gate_callee (f := 11) rfl ?_); refine goesL_ (some 66) rfl rfl Tryd.func11 (by kernel_rfl) rfl #[.agg #[.int .i64 t476, .slice Ao11 t477.length co11], .slice Ao150 t498.length co150] rfl lz ?_; (with_reducible refine (impl_NormalForm.calls kj6 t476 _ _ t477 (fun k_ => some k_ = (.slice Ao150 t498.length co150 : Value).ownBlock) _ _ t498 t503 t506 _ ?side1 ?side2 ?side3 ?side4 A32.out).mono ?_); (case side1 => have q_ := Aside0.mk (Kd.R_reads' HO_484001.out).2.2; exact cQ q_); (case side2 => exact (Kd.R_reads' HO_484001.out).2.1); (case side3 => exact Kd.R_V (Kd.R_tight rfl (IsS76.apart HI497.out (Kd.R_types (HO500.out) BK483.out (by decide)) (by decide)))); (case side4 => exact TabW.below HT.out (zLFnNormalFormsx2)); rintro e w151 ⟨v504, rfl, ho0, hb⟩; refine ⟨_, rfl, ?_⟩; have HO505 := Aside0.mk (Kd.R_lower (Kd.R_new' (Kd.R_new' (Kd.R_new' (Kd.R_new' (Kd.R_mono (ok' := fun k_ => True) ho0 (fun _ hk_ => trivial)) (Kd.R_lt (kdQ HO_4))) (Kd.R_lt (kdQ HO_5))) (Kd.R_lt (kdQ HO_484001))) (Kd.R_lt (kdQ HO500))) (below_size (zLFnNormalFormsx2))); replace HO_4 := Aside0.mk (Kd.R_elder' (kdQ HO_4) (Kd.R_base ho0) hb); replace HO_5 := Aside0.mk (Kd.R_elder' (kdQ HO_5) (Kd.R_base ho0) hb); replace HO_484001 := Aside0.mk (Kd.R_elder' (kdQ HO_484001) (Kd.R_base ho0) hb); replace HO500 := Aside0.mk (Kd.R_elder' (kdQ HO500) (Kd.R_base ho0) hb); replace BK483 := bb BK483 hb; replace HB := Aside0.mk (below_step (zLFnNormalFormsx2) hb); replace HI497 := Aside0.mk (IsS76.below (zLFnNormalFormsx1) hb); (try clear hb); (try clear hb2); (try clear hk); (try clear hi); (try clear hgw_); (try clear ho0); have hcz152_0 : w151.cell? ⟨gb483, 0, none⟩ = some (.int .i64 t476) := bc BK483 0; have hcz152_1 : w151.cell? ⟨gb483, 1, none⟩ = some (.slice Ao11 t477.length co11) := bc BK483 1; have hfz152_0 := blk_frozen BK483.out 0; have hfz152_1 := blk_frozen BK483.out 1; obtain ⟨Ao153, co153, eo153⟩ := Kd.R_slice HO_5.out; subst eo153) | ((with_reducible refine gate_callee (f := 17) rfl ?_); refine goesL_ (some 73) rfl rfl Tryd.func17 (by kernel_rfl) rfl #[.agg #[.int .i64 t476, .slice Ao11 t477.length co11], .slice Ao150 t498.length co150, .slice Ao153 t484.length co153] rfl lz ?_; (with_reducible refine (impl_AreSameTrace.calls kj6 t476 _ _ t477 (fun k_ => some k_ = (.slice Ao150 t498.length co150 : Value).ownBlock) _ _ t498 (fun k_ => some k_ = (.slice Ao153 t484.length co153 : Value).ownBlock) _ _ t484 t507 t508 _ ?side1 ?side2 ?side3 ?side4 ?side5 A33.out).mono ?_); (case side1 => have q_ := Aside0.mk (Kd.R_reads' HO_484001.out).2.2; exact cQ q_); (case side2 => exact (Kd.R_reads' HO_484001.out).2.1); (case side3 => exact Kd.R_V (Kd.R_tight rfl (IsS76.apart HI497.out (Kd.R_types (HO500.out) BK483.out (by decide)) (by decide)))); (case side4 => exact Kd.R_V (Kd.R_tight rfl (IsS76.apart HI497.out (Kd.R_types (HO_5.out) BK483.out (by decide)) (by decide)))); (case side5 => exact TabW.below HT.out (zLFnNormalFormsx2)); rintro e w154 ⟨rfl, hb⟩; refine ⟨_, rfl, ?_⟩; replace HO_4 := kb HO_4 hb; replace HO_5 := kb HO_5 hb; replace HO_484001 := kb HO_484001 hb; replace HO500 := kb HO500 hb; replace HO505 := kb HO505 hb; replace BK483 := bb BK483 hb; replace HB := Aside0.mk (below_step (zLFnNormalFormsx2) hb); replace HI497 := Aside0.mk (IsS76.below (zLFnNormalFormsx1) hb); (try clear hb); (try clear hb2); (try clear hk); (try clear hi); (try clear hgw_); have hcz155_0 : w154.cell? ⟨gb483, 0, none⟩ = some (.int .i64 t476) := bc BK483 0; have hcz155_1 : w154.cell? ⟨gb483, 1, none⟩ = some (.slice Ao11 t477.length co11) := bc BK483 1; have hfz155_0 := blk_frozen BK483.out 0; have hfz155_1 := blk_frozen BK483.out 1) | ((with_reducible refine gate_callee (f := 11) rfl ?_); refine goesL_ (some 79) rfl rfl Tryd.func11 (by kernel_rfl) rfl #[.agg #[.int .i64 t476, .slice Ao11 t477.length co11], .slice Ao153 t484.length co153] rfl lz ?_; (with_reducible refine (impl_NormalForm.calls kj6 t476 _ _ t477 (fun k_ => some k_ = (.slice Ao153 t484.length co153 : Value).ownBlock) _ _ t484 t509 t512 _ ?side1 ?side2 ?side3 ?side4 A34.out).mono ?_); (case side1 => have q_ := Aside0.mk (Kd.R_reads' HO_484001.out).2.2; exact cQ q_); (case side2 => exact (Kd.R_reads' HO_484001.out).2.1); (case side3 => exact Kd.R_V (Kd.R_tight rfl (IsS76.apart HI497.out (Kd.R_types (HO_5.out) BK483.out (by decide)) (by decide)))); (case side4 => exact TabW.below HT.out (zLFnNormalFormsx2)); rintro e w156 ⟨v510, rfl, ho0, hb⟩; refine ⟨_, rfl, ?_⟩; have HO511 := Aside0.mk (Kd.R_lower (Kd.R_new' (Kd.R_new' (Kd.R_new' (Kd.R_new' (Kd.R_new' (Kd.R_mono (ok' := fun k_ => True) ho0 (fun _ hk_ => trivial)) (Kd.R_lt (kdQ HO_4))) (Kd.R_lt (kdQ HO_5))) (Kd.R_lt (kdQ HO_484001))) (Kd.R_lt (kdQ HO500))) (Kd.R_lt (kdQ HO505))) (below_size (zLFnNormalFormsx2))); replace HO_4 := Aside0.mk (Kd.R_elder' (kdQ HO_4) (Kd.R_base ho0) hb); replace HO_5 := Aside0.mk (Kd.R_elder' (kdQ HO_5) (Kd.R_base ho0) hb); replace HO_484001 := Aside0.mk (Kd.R_elder' (kdQ HO_484001) (Kd.R_base ho0) hb); replace HO500 := Aside0.mk (Kd.R_elder' (kdQ HO500) (Kd.R_base ho0) hb); replace HO505 := Aside0.mk (Kd.R_elder' (kdQ HO505) (Kd.R_base ho0) hb); replace BK483 := bb BK483 hb; replace HB := Aside0.mk (below_step (zLFnNormalFormsx2) hb); replace HI497 := Aside0.mk (IsS76.below (zLFnNormalFormsx1) hb); (try clear hb); (try clear hb2); (try clear hk); (try clear hi); (try clear hgw_); (try clear ho0); have hcz157_0 : w156.cell? ⟨gb483, 0, none⟩ = some (.int .i64 t476) := bc BK483 0; have hcz157_1 : w156.cell? ⟨gb483, 1, none⟩ = some (.slice Ao11 t477.length co11) := bc BK483 1; have hfz157_0 := blk_frozen BK483.out 0; have hfz157_1 := blk_frozen BK483.out 1) | ((with_reducible refine gate_callee (f := 18) rfl ?_); refine goesL_ (some 85) rfl rfl Tryd.func18 (by kernel_rfl) rfl #[.agg #[.int .i64 t476, .slice Ao11 t477.length co11], .slice Ao14 t480.length co14] rfl lz ?_; (with_reducible refine (impl_ContentOf.calls kj6 t476 _ _ t477 (fun k_ => some k_ = (.slice Ao14 t480.length co14 : Value).ownBlock) _ _ t480 t513 t516 _ ?side1 ?side2 ?side3 ?side4 A35.out).mono ?_); (case side1 => have q_ := Aside0.mk (Kd.R_reads' HO_484001.out).2.2; exact cQ q_); (case side2 => exact (Kd.R_reads' HO_484001.out).2.1); (case side3 => exact Kd.R_V (Kd.R_tight rfl (IsS76.apart HI497.out (Kd.R_types (HO_4.out) BK483.out (by decide)) (by decide)))); (case side4 => exact TabW.below HT.out (zLFnNormalFormsx2)); rintro e w158 ⟨v514, rfl, ho0, hb⟩; refine ⟨_, rfl, ?_⟩; have HO515 := Aside0.mk (Kd.R_lower (Kd.R_new' (Kd.R_new' (Kd.R_new' (Kd.R_new' (Kd.R_new' (Kd.R_new' (Kd.R_mono (ok' := fun k_ => True) ho0 (fun _ hk_ => trivial)) (Kd.R_lt (kdQ HO_4))) (Kd.R_lt (kdQ HO_5))) (Kd.R_lt (kdQ HO_484001))) (Kd.R_lt (kdQ HO500))) (Kd.R_lt (kdQ HO505))) (Kd.R_lt (kdQ HO511))) (below_size (zLFnNormalFormsx2))); replace HO_4 := Aside0.mk (Kd.R_elder' (kdQ HO_4) (Kd.R_base ho0) hb); replace HO_5 := Aside0.mk (Kd.R_elder' (kdQ HO_5) (Kd.R_base ho0) hb); replace HO_484001 := Aside0.mk (Kd.R_elder' (kdQ HO_484001) (Kd.R_base ho0) hb); replace HO500 := Aside0.mk (Kd.R_elder' (kdQ HO500) (Kd.R_base ho0) hb); replace HO505 := Aside0.mk (Kd.R_elder' (kdQ HO505) (Kd.R_base ho0) hb); replace HO511 := Aside0.mk (Kd.R_elder' (kdQ HO511) (Kd.R_base ho0) hb); replace BK483 := bb BK483 hb; replace HB := Aside0.mk (below_step (zLFnNormalFormsx2) hb); replace HI497 := Aside0.mk (IsS76.below (zLFnNormalFormsx1) hb); (try clear hb); (try clear hb2); (try clear hk); (try clear hi); (try clear hgw_); (try clear ho0); have hcz159_0 : w158.cell? ⟨gb483, 0, none⟩ = some (.int .i64 t476) := bc BK483 0; have hcz159_1 : w158.cell? ⟨gb483, 1, none⟩ = some (.slice Ao11 t477.length co11) := bc BK483 1; have hfz159_0 := blk_frozen BK483.out 0; have hfz159_1 := blk_frozen BK483.out 1) | ((with_reducible refine gate_callee (f := 18) rfl ?_); refine goesL_ (some 91) rfl rfl Tryd.func18 (by kernel_rfl) rfl #[.agg #[.int .i64 t476, .slice Ao11 t477.length co11], .slice Ao153 t484.length co153] rfl lz ?_; (with_reducible refine (impl_ContentOf.calls kj6 t476 _ _ t477 (fun k_ => some k_ = (.slice Ao153 t484.length co153 : Value).ownBlock) _ _ t484 t517 t520 _ ?side1 ?side2 ?side3 ?side4 A36.out).mono ?_); (case side1 => have q_ := Aside0.mk (Kd.R_reads' HO_484001.out).2.2; exact cQ q_); (case side2 => exact (Kd.R_reads' HO_484001.out).2.1); (case side3 => exact Kd.R_V (Kd.R_tight rfl (IsS76.apart HI497.out (Kd.R_types (HO_5.out) BK483.out (by decide)) (by decide)))); (case side4 => exact TabW.below HT.out (zLFnNormalFormsx2)); rintro e w160 ⟨v518, rfl, ho0, hb⟩; refine ⟨_, rfl, ?_⟩; have HO519 := Aside0.mk (Kd.R_lower (Kd.R_new' (Kd.R_new' (Kd.R_new' (Kd.R_new' (Kd.R_new' (Kd.R_new' (Kd.R_new' (Kd.R_mono (ok' := fun k_ => True) ho0 (fun _ hk_ => trivial)) (Kd.R_lt (kdQ HO_4))) (Kd.R_lt (kdQ HO_5))) (Kd.R_lt (kdQ HO_484001))) (Kd.R_lt (kdQ HO500))) (Kd.R_lt (kdQ HO505))) (Kd.R_lt (kdQ HO511))) (Kd.R_lt (kdQ HO515))) (below_size (zLFnNormalFormsx2))); replace HO_4 := Aside0.mk (Kd.R_elder' (kdQ HO_4) (Kd.R_base ho0) hb); replace HO_5 := Aside0.mk (Kd.R_elder' (kdQ HO_5) (Kd.R_base ho0) hb); replace HO_484001 := Aside0.mk (Kd.R_elder' (kdQ HO_484001) (Kd.R_base ho0) hb); replace HO500 := Aside0.mk (Kd.R_elder' (kdQ HO500) (Kd.R_base ho0) hb); replace HO505 := Aside0.mk (Kd.R_elder' (kdQ HO505) (Kd.R_base ho0) hb); replace HO511 := Aside0.mk (Kd.R_elder' (kdQ HO511) (Kd.R_base ho0) hb); replace HO515 := Aside0.mk (Kd.R_elder' (kdQ HO515) (Kd.R_base ho0) hb); replace BK483 := bb BK483 hb; replace HB := Aside0.mk (below_step (zLFnNormalFormsx2) hb); replace HI497 := Aside0.mk (IsS76.below (zLFnNormalFormsx1) hb); (try clear hb); (try clear hb2); (try clear hk); (try clear hi); (try clear hgw_); (try clear ho0); obtain ⟨Ao161, co161, eo161⟩ := Kd.R_slice HO505.out; subst eo161) | (go_at_call 13; (with_reducible refine (laws_likeInts.calls kj6 _ _ t503 _ _ t484 false _ ?side1 ?side2 ?side3 ?side4 A42.out).mono ?_); (case side1 => have q_ := Aside0.mk (Kd.R_reads' HO505.out).2.2; exact cQ q_); (case side2 => exact (Kd.R_reads' HO505.out).2.1); (case side3 => have q_ := Aside0.mk (Kd.R_reads' HO_5.out).2.2; exact cQ q_); (case side4 => exact (Kd.R_reads' HO_5.out).2.1); rintro e w' ⟨rfl, ⟨nd, rfl⟩⟩))
            go_ret
            exact ⟨rz, zLFnNormalFormsx2⟩
          ·rw [if_neg c41] at H
           have c41b0 : (t520 == 0) = false := beq_eq_false_iff_ne.mpr c41
           have c41b1 : (t520 != 0) = true := bne_iff_ne.mpr c41
           obtain rfl := Option.some.inj H
           try go_wp2
           replace HO_4 := Aside0.mk (Kd.R_drew HO_4.out); replace HO_5 := Aside0.mk (Kd.R_drew HO_5.out); replace HO_484001 := Aside0.mk (Kd.R_drew HO_484001.out); replace BK483 := Aside0.mk (blk_drew BK483.out); replace HB := Aside0.mk (below_drew1 HB.out)
           refine start_ (n := 6) (S := fun w' => w'.cell? ⟨gb483, 0, none⟩ = some (.int .i64 t476) ∧ w'.cell? ⟨gb483, 1, none⟩ = some (.slice Ao11 t477.length co11)) (ds := []) #[false, false, false, false, false, false] (by kernel_rfl) rfl rfl ⟨bc BK483 0, bc BK483 1⟩ (fun hHeld => ?_)
           generalize wc.drew = w162 at HO_4 HO_5 HO_484001 BK483 HB hHeld ⊢
           refine pure_ (i := 0) (N := some 58) (v := ?_) (a' := ?_) #[true, false, false, false, false, false] rfl rfl (by kernel_rfl) (fun _ _ _ h => h) (Or.inl ⟨by rfl, ?_⟩) ?_ ?_
           rotate_left
           ·intro w'
            go_simp
            with_reducible rfl
           rotate_left
           ·simp only [Act.put, s1, s2, s3, i64_w, i32_w]
            rfl
           refine pure_ (i := 3) (N := some 61) (v := ?_) (a' := ?_) #[true, false, false, true, false, false] rfl rfl (by kernel_rfl) (fun _ _ _ h => h) (Or.inl ⟨by rfl, ?_⟩) ?_ ?_
           rotate_left
           ·intro w'
            go_simp
            with_reducible rfl
           rotate_left
           ·simp only [Act.put, s1, s2, s3, i64_w, i32_w]
            rfl
           refine take_ (i := 2) (N := some 60) (v := ?_) (a' := ?_) #[true, false, true, true, false, false] rfl rfl (by kernel_rfl) (fun _ _ _ h => h) (Or.inl ⟨by rfl, ?_⟩) hHeld ?_ ?_
           rotate_left
           ·rintro w' ⟨s0, s1⟩
            go_simp
            with_reducible rfl
           rotate_left
           ·simp only [Act.put, s1, s2, s3, i64_w, i32_w]
            rfl
           refine one_ (i := 1) (N := some 59) #[true, true, true, true, false, false] rfl rfl (by kernel_rfl) (by decide) (fun K hK => ?_)
           refine goes_ Tryd.func16 (by kernel_rfl) rfl #[.slice A0 l0.length c0, .int .u64 504] (by rfl) rfl rfl lz ?_
           with_reducible refine (laws_roll.calls kj6 _ _ l0 504 t494 t495 t496 w _ ?side1 ?side2 ?side3 A30.out).mono ?_
           (case side1 => exact zLFnNormalFormsx0)
           (case side2 => exact HR0.out)
           (case side3 => exact HC0.out)
           rintro e w163 ⟨g497, rfl, hi, hb, hb2, hgw_⟩
           refine ⟨_, rfl, ?_⟩
           replace HO_4 := Aside0.mk (Kd.R_below (kdQ HO_4) hb2); replace HO_5 := Aside0.mk (Kd.R_below (kdQ HO_5) hb2); replace HO_484001 := Aside0.mk (Kd.R_below (kdQ HO_484001) hb2); replace HB := Aside0.mk (hb); have HI497 := Aside0.mk (hi)
           have NB497_483 := Aside0.mk (IsS76.ne_blk hi (blk_below (blkQ BK483) hb2) (by decide))
           have NB483_497 := Aside0.mk (Ne.symm (IsS76.ne_blk hi (blk_below (blkQ BK483) hb2) (by decide)))
           replace BK483 := Aside0.mk (blk_below (blkQ BK483) hb2)
           (try clear hb)
           (try clear hb2)
           (try clear hk)
           (try clear hi)
           (try clear hgw_)
           refine hK.out _ _ ⟨bc BK483 0, bc BK483 1⟩ (fun hHeld => ?_)
           clear hK K
           refine norm_ (a' := ?_) ?_ ?_
           rotate_left
           ·show Act.put _ (some 59) _ = _
            simp only [Act.put, s1, s2, s3, i64_w, i32_w]
            rfl
           refine one_ (i := 4) (N := some 62) #[true, true, true, true, true, false] rfl rfl (by kernel_rfl) (by decide) (fun K hK => ?_)
           refine goes_ Tryd.func15 (by kernel_rfl) rfl #[.pointer (some ⟨g497, 0, none⟩), .agg #[.int .i64 t476, .slice Ao11 t477.length co11], .slice Ao14 t480.length co14] (by rfl) rfl rfl lz ?_
           with_reducible refine (laws_shuffle5.calls kj6 g497 t494 t495 t496 t476 _ _ t477 _ _ t480 t498 t501 t502 w _ ?side1 ?side2 ?side3 ?side4 ?side5 ?side6 ?side7 ?side8 A31.out).mono ?_
           (case side1 => exact zLFnNormalFormsx1)
           (case side2 => exact zLFnNormalFormsx2)
           (case side3 => have q_ := Aside0.mk (Kd.R_reads' HO_484001.out).2.2; exact cQ q_)
           (case side4 => exact (Kd.R_reads' HO_484001.out).2.1)
           (case side5 => exact far_slice (IsS76.own_ne HI497.out HO_484001.out (by decide)))
           (case side6 => have q_ := Aside0.mk (Kd.R_reads' HO_4.out).2.2; exact cQ q_)
           (case side7 => exact (Kd.R_reads' HO_4.out).2.1)
           (case side8 => exact far_slice (IsS76.own_ne HI497.out HO_4.out (by decide)))
           rintro e w164 ⟨v499, rfl, ho0, hi, hb, hk⟩
           refine ⟨_, rfl, ?_⟩
           replace BK483 := Aside0.mk (KeepBut.blk hk (g' := gb483) (o := .cells #[.int .i64 t476, .slice Ao11 t477.length co11] 26 (0, 0)) (blkQ BK483) NB483_497.out (by simp))
           have HO500 := Aside0.mk (Kd.R_lower (Kd.R_new' (Kd.R_new' (Kd.R_new' ho0 (Kd.R_lt (kdQ HO_4))) (Kd.R_lt (kdQ HO_5))) (Kd.R_lt (kdQ HO_484001))) (below_size (zLFnNormalFormsx2)))
           replace HO_4 := Aside0.mk (Kd.R_mono (Kd.R_told (Kd.R_oldK (IsS76.apart (show IsS76 w _ g497 t494 t495 t496 from zLFnNormalFormsx1) (kdQ HO_4) (by decide)) hk) (Kd.R_base ho0)) (fun _ h_ => h_.1))
           replace HO_5 := Aside0.mk (Kd.R_mono (Kd.R_told (Kd.R_oldK (IsS76.apart (show IsS76 w _ g497 t494 t495 t496 from zLFnNormalFormsx1) (kdQ HO_5) (by decide)) hk) (Kd.R_base ho0)) (fun _ h_ => h_.1))
           replace HO_484001 := Aside0.mk (Kd.R_mono (Kd.R_told (Kd.R_oldK (IsS76.apart (show IsS76 w _ g497 t494 t495 t496 from zLFnNormalFormsx1) (kdQ HO_484001) (by decide)) hk) (Kd.R_base ho0)) (fun _ h_ => h_.1))
           replace HB := Aside0.mk (hb); replace HI497 := Aside0.mk (hi)
           (try clear hb)
           (try clear hb2)
           (try clear hk)
           (try clear hi)
           (try clear hgw_)
           (try clear ho0)
           refine hK.out _ _ ⟨bc BK483 0, bc BK483 1⟩ (fun hHeld => ?_)
           clear hK K
           refine norm_ (a' := ?_) ?_ ?_
           rotate_left
           ·show Act.put _ (some 62) _ = _
            simp only [Act.put, s1, s2, s3, i64_w, i32_w]
            rfl
           refine pure_ (i := 5) (N := some 9) (v := ?_) (a' := ?_) #[true, true, true, true, true, true] rfl rfl (by kernel_rfl) (fun _ _ _ h => h) (Or.inl ⟨by rfl, ?_⟩) ?_ ?_
           rotate_left
           ·intro w'
            go_simp
            with_reducible rfl
           rotate_left
           ·simp only [Act.put, s1, s2, s3, i64_w, i32_w]
            rfl
           refine done_ (by kernel_rfl) ?_
           have hnb165 := NB483_497.out; have hnc165 := NB497_483.out
           have hcz166_0 : w164.cell? ⟨gb483, 0, none⟩ = some (.int .i64 t476) := bc BK483 0
           have hcz166_1 : w164.cell? ⟨gb483, 1, none⟩ = some (.slice Ao11 t477.length co11) := bc BK483 1
           have hfz166_0 := blk_frozen BK483.out 0; have hfz166_1 := blk_frozen BK483.out 1; obtain ⟨Ao167, co167, eo167⟩ := Kd.R_slice HO500.out; subst eo167
           try go_wp2_with (first | ((with_reducible refine gate_callee (f := 11) rfl ?_); refine goesL_ (some 66) rfl rfl Tryd.func11 (by kernel_rfl) rfl #[.agg #[.int .i64 t476, .slice Ao11 t477.length co11], .slice Ao167 t498.length co167] rfl lz ?_; (with_reducible refine (impl_NormalForm.calls kj6 t476 _ _ t477 (fun k_ => some k_ = (.slice Ao167 t498.length co167 : Value).ownBlock) _ _ t498 t503 t506 _ ?side1 ?side2 ?side3 ?side4 A32.out).mono ?_); (case side1 => have q_ := Aside0.mk (Kd.R_reads' HO_484001.out).2.2; exact cQ q_); (case side2 => exact (Kd.R_reads' HO_484001.out).2.1); (case side3 => exact Kd.R_V (Kd.R_tight rfl (IsS76.apart HI497.out (Kd.R_types (HO500.out) BK483.out (by decide)) (by decide)))); (case side4 => exact TabW.below HT.out (zLFnNormalFormsx2)); rintro e w168 ⟨v504, rfl, ho0, hb⟩; refine ⟨_, rfl, ?_⟩; have HO505 := Aside0.mk (Kd.R_lower (Kd.R_new' (Kd.R_new' (Kd.R_new' (Kd.R_new' (Kd.R_mono (ok' := fun k_ => True) ho0 (fun _ hk_ => trivial)) (Kd.R_lt (kdQ HO_4))) (Kd.R_lt (kdQ HO_5))) (Kd.R_lt (kdQ HO_484001))) (Kd.R_lt (kdQ HO500))) (below_size (zLFnNormalFormsx2))); replace HO_4 := Aside0.mk (Kd.R_elder' (kdQ HO_4) (Kd.R_base ho0) hb); replace HO_5 := Aside0.mk (Kd.R_elder' (kdQ HO_5) (Kd.R_base ho0) hb); replace HO_484001 := Aside0.mk (Kd.R_elder' (kdQ HO_484001) (Kd.R_base ho0) hb); replace HO500 := Aside0.mk (Kd.R_elder' (kdQ HO500) (Kd.R_base ho0) hb); replace BK483 := bb BK483 hb; replace HB := Aside0.mk (below_step (zLFnNormalFormsx2) hb); replace HI497 := Aside0.mk (IsS76.below (zLFnNormalFormsx1) hb); (try clear hb); (try clear hb2); (try clear hk); (try clear hi); (try clear hgw_); (try clear ho0); have hcz169_0 : w168.cell? ⟨gb483, 0, none⟩ = some (.int .i64 t476) := bc BK483 0; have hcz169_1 : w168.cell? ⟨gb483, 1, none⟩ = some (.slice Ao11 t477.length co11) := bc BK483 1; have hfz169_0 := blk_frozen BK483.out 0; have hfz169_1 := blk_frozen BK483.out 1; obtain ⟨Ao170, co170, eo170⟩ := Kd.R_slice HO_5.out; subst eo170) | ((with_reducible refine gate_callee (f := 17) rfl ?_); refine goesL_ (some 73) rfl rfl Tryd.func17 (by kernel_rfl) rfl #[.agg #[.int .i64 t476, .slice Ao11 t477.length co11], .slice Ao167 t498.length co167, .slice Ao170 t484.length co170] rfl lz ?_; (with_reducible refine (impl_AreSameTrace.calls kj6 t476 _ _ t477 (fun k_ => some k_ = (.slice Ao167 t498.length co167 : Value).ownBlock) _ _ t498 (fun k_ => some k_ = (.slice Ao170 t484.length co170 : Value).ownBlock) _ _ t484 t507 t508 _ ?side1 ?side2 ?side3 ?side4 ?side5 A33.out).mono ?_); (case side1 => have q_ := Aside0.mk (Kd.R_reads' HO_484001.out).2.2; exact cQ q_); (case side2 => exact (Kd.R_reads' HO_484001.out).2.1); (case side3 => exact Kd.R_V (Kd.R_tight rfl (IsS76.apart HI497.out (Kd.R_types (HO500.out) BK483.out (by decide)) (by decide)))); (case side4 => exact Kd.R_V (Kd.R_tight rfl (IsS76.apart HI497.out (Kd.R_types (HO_5.out) BK483.out (by decide)) (by decide)))); (case side5 => exact TabW.below HT.out (zLFnNormalFormsx2)); rintro e w171 ⟨rfl, hb⟩; refine ⟨_, rfl, ?_⟩; replace HO_4 := kb HO_4 hb; replace HO_5 := kb HO_5 hb; replace HO_484001 := kb HO_484001 hb; replace HO500 := kb HO500 hb; replace HO505 := kb HO505 hb; replace BK483 := bb BK483 hb; replace HB := Aside0.mk (below_step (zLFnNormalFormsx2) hb); replace HI497 := Aside0.mk (IsS76.below (zLFnNormalFormsx1) hb); (try clear hb); (try clear hb2); (try clear hk); (try clear hi); (try clear hgw_); have hcz172_0 : w171.cell? ⟨gb483, 0, none⟩ = some (.int .i64 t476) := bc BK483 0; have hcz172_1 : w171.cell? ⟨gb483, 1, none⟩ = some (.slice Ao11 t477.length co11) := bc BK483 1; have hfz172_0 := blk_frozen BK483.out 0; have hfz172_1 := blk_frozen BK483.out 1) | ((with_reducible refine gate_callee (f := 11) rfl ?_); refine goesL_ (some 79) rfl rfl Tryd.func11 (by kernel_rfl) rfl #[.agg #[.int .i64 t476, .slice Ao11 t477.length co11], .slice Ao170 t484.length co170] rfl lz ?_; (with_reducible refine (impl_NormalForm.calls kj6 t476 _ _ t477 (fun k_ => some k_ = (.slice Ao170 t484.length co170 : Value).ownBlock) _ _ t484 t509 t512 _ ?side1 ?side2 ?side3 ?side4 A34.out).mono ?_); (case side1 => have q_ := Aside0.mk (Kd.R_reads' HO_484001.out).2.2; exact cQ q_); (case side2 => exact (Kd.R_reads' HO_484001.out).2.1); (case side3 => exact Kd.R_V (Kd.R_tight rfl (IsS76.apart HI497.out (Kd.R_types (HO_5.out) BK483.out (by decide)) (by decide)))); (case side4 => exact TabW.below HT.out (zLFnNormalFormsx2)); rintro e w173 ⟨v510, rfl, ho0, hb⟩; refine ⟨_, rfl, ?_⟩; have HO511 := Aside0.mk (Kd.R_lower (Kd.R_new' (Kd.R_new' (Kd.R_new' (Kd.R_new' (Kd.R_new' (Kd.R_mono (ok' := fun k_ => True) ho0 (fun _ hk_ => trivial)) (Kd.R_lt (kdQ HO_4))) (Kd.R_lt (kdQ HO_5))) (Kd.R_lt (kdQ HO_484001))) (Kd.R_lt (kdQ HO500))) (Kd.R_lt (kdQ HO505))) (below_size (zLFnNormalFormsx2))); replace HO_4 := Aside0.mk (Kd.R_elder' (kdQ HO_4) (Kd.R_base ho0) hb); replace HO_5 := Aside0.mk (Kd.R_elder' (kdQ HO_5) (Kd.R_base ho0) hb); replace HO_484001 := Aside0.mk (Kd.R_elder' (kdQ HO_484001) (Kd.R_base ho0) hb); replace HO500 := Aside0.mk (Kd.R_elder' (kdQ HO500) (Kd.R_base ho0) hb); replace HO505 := Aside0.mk (Kd.R_elder' (kdQ HO505) (Kd.R_base ho0) hb); replace BK483 := bb BK483 hb; replace HB := Aside0.mk (below_step (zLFnNormalFormsx2) hb); replace HI497 := Aside0.mk (IsS76.below (zLFnNormalFormsx1) hb); (try clear hb); (try clear hb2); (try clear hk); (try clear hi); (try clear hgw_); (try clear ho0); have hcz174_0 : w173.cell? ⟨gb483, 0, none⟩ = some (.int .i64 t476) := bc BK483 0; have hcz174_1 : w173.cell? ⟨gb483, 1, none⟩ = some (.slice Ao11 t477.length co11) := bc BK483 1; have hfz174_0 := blk_frozen BK483.out 0; have hfz174_1 := blk_frozen BK483.out 1) | ((with_reducible refine gate_callee (f := 18) rfl ?_); refine goesL_ (some 85) rfl rfl Tryd.func18 (by kernel_rfl) rfl #[.agg #[.int .i64 t476, .slice Ao11 t477.length co11], .slice Ao14 t480.length co14] rfl lz ?_; (with_reducible refine (impl_ContentOf.calls kj6 t476 _ _ t477 (fun k_ => some k_ = (.slice Ao14 t480.length co14 : Value).ownBlock) _ _ t480 t513 t516 _ ?side1 ?side2 ?side3 ?side4 A35.out).mono ?_); (case side1 => have q_ := Aside0.mk (Kd.R_reads' HO_484001.out).2.2; exact cQ q_); (case side2 => exact (Kd.R_reads' HO_484001.out).2.1); (case side3 => exact Kd.R_V (Kd.R_tight rfl (IsS76.apart HI497.out (Kd.R_types (HO_4.out) BK483.out (by decide)) (by decide)))); (case side4 => exact TabW.below HT.out (zLFnNormalFormsx2)); rintro e w175 ⟨v514, rfl, ho0, hb⟩; refine ⟨_, rfl, ?_⟩; have HO515 := Aside0.mk (Kd.R_lower (Kd.R_new' (Kd.R_new' (Kd.R_new' (Kd.R_new' (Kd.R_new' (Kd.R_new' (Kd.R_mono (ok' := fun k_ => True) ho0 (fun _ hk_ => trivial)) (Kd.R_lt (kdQ HO_4))) (Kd.R_lt (kdQ HO_5))) (Kd.R_lt (kdQ HO_484001))) (Kd.R_lt (kdQ HO500))) (Kd.R_lt (kdQ HO505))) (Kd.R_lt (kdQ HO511))) (below_size (zLFnNormalFormsx2))); replace HO_4 := Aside0.mk (Kd.R_elder' (kdQ HO_4) (Kd.R_base ho0) hb); replace HO_5 := Aside0.mk (Kd.R_elder' (kdQ HO_5) (Kd.R_base ho0) hb); replace HO_484001 := Aside0.mk (Kd.R_elder' (kdQ HO_484001) (Kd.R_base ho0) hb); replace HO500 := Aside0.mk (Kd.R_elder' (kdQ HO500) (Kd.R_base ho0) hb); replace HO505 := Aside0.mk (Kd.R_elder' (kdQ HO505) (Kd.R_base ho0) hb); replace HO511 := Aside0.mk (Kd.R_elder' (kdQ HO511) (Kd.R_base ho0) hb); replace BK483 := bb BK483 hb; replace HB := Aside0.mk (below_step (zLFnNormalFormsx2) hb); replace HI497 := Aside0.mk (IsS76.below (zLFnNormalFormsx1) hb); (try clear hb); (try clear hb2); (try clear hk); (try clear hi); (try clear hgw_); (try clear ho0); have hcz176_0 : w175.cell? ⟨gb483, 0, none⟩ = some (.int .i64 t476) := bc BK483 0; have hcz176_1 : w175.cell? ⟨gb483, 1, none⟩ = some (.slice Ao11 t477.length co11) := bc BK483 1; have hfz176_0 := blk_frozen BK483.out 0; have hfz176_1 := blk_frozen BK483.out 1) | ((with_reducible refine gate_callee (f := 18) rfl ?_); refine goesL_ (some 91) rfl rfl Tryd.func18 (by kernel_rfl) rfl #[.agg #[.int .i64 t476, .slice Ao11 t477.length co11], .slice Ao170 t484.length co170] rfl lz ?_; (with_reducible refine (impl_ContentOf.calls kj6 t476 _ _ t477 (fun k_ => some k_ = (.slice Ao170 t484.length co170 : Value).ownBlock) _ _ t484 t517 t520 _ ?side1 ?side2 ?side3 ?side4 A36.out).mono ?_); (case side1 => have q_ := Aside0.mk (Kd.R_reads' HO_484001.out).2.2; exact cQ q_); (case side2 => exact (Kd.R_reads' HO_484001.out).2.1); (case side3 => exact Kd.R_V (Kd.R_tight rfl (IsS76.apart HI497.out (Kd.R_types (HO_5.out) BK483.out (by decide)) (by decide)))); (case side4 => exact TabW.below HT.out (zLFnNormalFormsx2)); rintro e w177 ⟨v518, rfl, ho0, hb⟩; refine ⟨_, rfl, ?_⟩; have HO519 := Aside0.mk (Kd.R_lower (Kd.R_new' (Kd.R_new' (Kd.R_new' (Kd.R_new' (Kd.R_new' (Kd.R_new' (Kd.R_new' (Kd.R_mono (ok' := fun k_ => True) ho0 (fun _ hk_ => trivial)) (Kd.R_lt (kdQ HO_4))) (Kd.R_lt (kdQ HO_5))) (Kd.R_lt (kdQ HO_484001))) (Kd.R_lt (kdQ HO500))) (Kd.R_lt (kdQ HO505))) (Kd.R_lt (kdQ HO511))) (Kd.R_lt (kdQ HO515))) (below_size (zLFnNormalFormsx2))); replace HO_4 := Aside0.mk (Kd.R_elder' (kdQ HO_4) (Kd.R_base ho0) hb); replace HO_5 := Aside0.mk (Kd.R_elder' (kdQ HO_5) (Kd.R_base ho0) hb); replace HO_484001 := Aside0.mk (Kd.R_elder' (kdQ HO_484001) (Kd.R_base ho0) hb); replace HO500 := Aside0.mk (Kd.R_elder' (kdQ HO500) (Kd.R_base ho0) hb); replace HO505 := Aside0.mk (Kd.R_elder' (kdQ HO505) (Kd.R_base ho0) hb); replace HO511 := Aside0.mk (Kd.R_elder' (kdQ HO511) (Kd.R_base ho0) hb); replace HO515 := Aside0.mk (Kd.R_elder' (kdQ HO515) (Kd.R_base ho0) hb); replace BK483 := bb BK483 hb; replace HB := Aside0.mk (below_step (zLFnNormalFormsx2) hb); replace HI497 := Aside0.mk (IsS76.below (zLFnNormalFormsx1) hb); (try clear hb); (try clear hb2); (try clear hk); (try clear hi); (try clear hgw_); (try clear ho0)))
           go_ret
           exact ⟨rz, zLFnNormalFormsx2⟩
         ·rw [if_neg c40] at H
          have c40b0 : (t516 == 0) = false := beq_eq_false_iff_ne.mpr c40
          have c40b1 : (t516 != 0) = true := bne_iff_ne.mpr c40
          obtain rfl := Option.some.inj H
          try go_wp2
          replace HO_4 := Aside0.mk (Kd.R_drew HO_4.out); replace HO_5 := Aside0.mk (Kd.R_drew HO_5.out); replace HO_484001 := Aside0.mk (Kd.R_drew HO_484001.out); replace BK483 := Aside0.mk (blk_drew BK483.out); replace HB := Aside0.mk (below_drew1 HB.out)
          refine start_ (n := 6) (S := fun w' => w'.cell? ⟨gb483, 0, none⟩ = some (.int .i64 t476) ∧ w'.cell? ⟨gb483, 1, none⟩ = some (.slice Ao11 t477.length co11)) (ds := []) #[false, false, false, false, false, false] (by kernel_rfl) rfl rfl ⟨bc BK483 0, bc BK483 1⟩ (fun hHeld => ?_)
          generalize wc.drew = w178 at HO_4 HO_5 HO_484001 BK483 HB hHeld ⊢
          refine pure_ (i := 0) (N := some 58) (v := ?_) (a' := ?_) #[true, false, false, false, false, false] rfl rfl (by kernel_rfl) (fun _ _ _ h => h) (Or.inl ⟨by rfl, ?_⟩) ?_ ?_
          rotate_left
          ·intro w'
           go_simp
           with_reducible rfl
          rotate_left
          ·simp only [Act.put, s1, s2, s3, i64_w, i32_w]
           rfl
          refine pure_ (i := 3) (N := some 61) (v := ?_) (a' := ?_) #[true, false, false, true, false, false] rfl rfl (by kernel_rfl) (fun _ _ _ h => h) (Or.inl ⟨by rfl, ?_⟩) ?_ ?_
          rotate_left
          ·intro w'
           go_simp
           with_reducible rfl
          rotate_left
          ·simp only [Act.put, s1, s2, s3, i64_w, i32_w]
           rfl
          refine take_ (i := 2) (N := some 60) (v := ?_) (a' := ?_) #[true, false, true, true, false, false] rfl rfl (by kernel_rfl) (fun _ _ _ h => h) (Or.inl ⟨by rfl, ?_⟩) hHeld ?_ ?_
          rotate_left
          ·rintro w' ⟨s0, s1⟩
           go_simp
           with_reducible rfl
          rotate_left
          ·simp only [Act.put, s1, s2, s3, i64_w, i32_w]
           rfl
          refine one_ (i := 1) (N := some 59) #[true, true, true, true, false, false] rfl rfl (by kernel_rfl) (by decide) (fun K hK => ?_)
          refine goes_ Tryd.func16 (by kernel_rfl) rfl #[.slice A0 l0.length c0, .int .u64 504] (by rfl) rfl rfl lz ?_
          with_reducible refine (laws_roll.calls kj6 _ _ l0 504 t494 t495 t496 w _ ?side1 ?side2 ?side3 A30.out).mono ?_
          (case side1 => exact zLFnNormalFormsx0)
          (case side2 => exact HR0.out)
          (case side3 => exact HC0.out)
          rintro e w179 ⟨g497, rfl, hi, hb, hb2, hgw_⟩
          refine ⟨_, rfl, ?_⟩
          replace HO_4 := Aside0.mk (Kd.R_below (kdQ HO_4) hb2); replace HO_5 := Aside0.mk (Kd.R_below (kdQ HO_5) hb2); replace HO_484001 := Aside0.mk (Kd.R_below (kdQ HO_484001) hb2); replace HB := Aside0.mk (hb); have HI497 := Aside0.mk (hi)
          have NB497_483 := Aside0.mk (IsS76.ne_blk hi (blk_below (blkQ BK483) hb2) (by decide))
          have NB483_497 := Aside0.mk (Ne.symm (IsS76.ne_blk hi (blk_below (blkQ BK483) hb2) (by decide)))
          replace BK483 := Aside0.mk (blk_below (blkQ BK483) hb2)
          (try clear hb)
          (try clear hb2)
          (try clear hk)
          (try clear hi)
          (try clear hgw_)
          refine hK.out _ _ ⟨bc BK483 0, bc BK483 1⟩ (fun hHeld => ?_)
          clear hK K
          refine norm_ (a' := ?_) ?_ ?_
          rotate_left
          ·show Act.put _ (some 59) _ = _
           simp only [Act.put, s1, s2, s3, i64_w, i32_w]
           rfl
          refine one_ (i := 4) (N := some 62) #[true, true, true, true, true, false] rfl rfl (by kernel_rfl) (by decide) (fun K hK => ?_)
          refine goes_ Tryd.func15 (by kernel_rfl) rfl #[.pointer (some ⟨g497, 0, none⟩), .agg #[.int .i64 t476, .slice Ao11 t477.length co11], .slice Ao14 t480.length co14] (by rfl) rfl rfl lz ?_
          with_reducible refine (laws_shuffle5.calls kj6 g497 t494 t495 t496 t476 _ _ t477 _ _ t480 t498 t501 t502 w _ ?side1 ?side2 ?side3 ?side4 ?side5 ?side6 ?side7 ?side8 A31.out).mono ?_
          (case side1 => exact zLFnNormalFormsx1)
          (case side2 => exact zLFnNormalFormsx2)
          (case side3 => have q_ := Aside0.mk (Kd.R_reads' HO_484001.out).2.2; exact cQ q_)
          (case side4 => exact (Kd.R_reads' HO_484001.out).2.1)
          (case side5 => exact far_slice (IsS76.own_ne HI497.out HO_484001.out (by decide)))
          (case side6 => have q_ := Aside0.mk (Kd.R_reads' HO_4.out).2.2; exact cQ q_)
          (case side7 => exact (Kd.R_reads' HO_4.out).2.1)
          (case side8 => exact far_slice (IsS76.own_ne HI497.out HO_4.out (by decide)))
          rintro e w180 ⟨v499, rfl, ho0, hi, hb, hk⟩
          refine ⟨_, rfl, ?_⟩
          replace BK483 := Aside0.mk (KeepBut.blk hk (g' := gb483) (o := .cells #[.int .i64 t476, .slice Ao11 t477.length co11] 26 (0, 0)) (blkQ BK483) NB483_497.out (by simp))
          have HO500 := Aside0.mk (Kd.R_lower (Kd.R_new' (Kd.R_new' (Kd.R_new' ho0 (Kd.R_lt (kdQ HO_4))) (Kd.R_lt (kdQ HO_5))) (Kd.R_lt (kdQ HO_484001))) (below_size (zLFnNormalFormsx2)))
          replace HO_4 := Aside0.mk (Kd.R_mono (Kd.R_told (Kd.R_oldK (IsS76.apart (show IsS76 w _ g497 t494 t495 t496 from zLFnNormalFormsx1) (kdQ HO_4) (by decide)) hk) (Kd.R_base ho0)) (fun _ h_ => h_.1))
          replace HO_5 := Aside0.mk (Kd.R_mono (Kd.R_told (Kd.R_oldK (IsS76.apart (show IsS76 w _ g497 t494 t495 t496 from zLFnNormalFormsx1) (kdQ HO_5) (by decide)) hk) (Kd.R_base ho0)) (fun _ h_ => h_.1))
          replace HO_484001 := Aside0.mk (Kd.R_mono (Kd.R_told (Kd.R_oldK (IsS76.apart (show IsS76 w _ g497 t494 t495 t496 from zLFnNormalFormsx1) (kdQ HO_484001) (by decide)) hk) (Kd.R_base ho0)) (fun _ h_ => h_.1))
          replace HB := Aside0.mk (hb); replace HI497 := Aside0.mk (hi)
          (try clear hb)
          (try clear hb2)
          (try clear hk)
          (try clear hi)
          (try clear hgw_)
          (try clear ho0)
          refine hK.out _ _ ⟨bc BK483 0, bc BK483 1⟩ (fun hHeld => ?_)
          clear hK K
          refine norm_ (a' := ?_) ?_ ?_
          rotate_left
          ·show Act.put _ (some 62) _ = _
           simp only [Act.put, s1, s2, s3, i64_w, i32_w]
           rfl
          refine pure_ (i := 5) (N := some 9) (v := ?_) (a' := ?_) #[true, true, true, true, true, true] rfl rfl (by kernel_rfl) (fun _ _ _ h => h) (Or.inl ⟨by rfl, ?_⟩) ?_ ?_
          rotate_left
          ·intro w'
           go_simp
           with_reducible rfl
          rotate_left
          ·simp only [Act.put, s1, s2, s3, i64_w, i32_w]
           rfl
          refine done_ (by kernel_rfl) ?_
          have hnb181 := NB483_497.out; have hnc181 := NB497_483.out
          have hcz182_0 : w180.cell? ⟨gb483, 0, none⟩ = some (.int .i64 t476) := bc BK483 0
          have hcz182_1 : w180.cell? ⟨gb483, 1, none⟩ = some (.slice Ao11 t477.length co11) := bc BK483 1
          have hfz182_0 := blk_frozen BK483.out 0; have hfz182_1 := blk_frozen BK483.out 1; obtain ⟨Ao183, co183, eo183⟩ := Kd.R_slice HO500.out; subst eo183
          try go_wp2_with (first | ((with_reducible refine gate_callee (f := 11) rfl ?_); refine goesL_ (some 66) rfl rfl Tryd.func11 (by kernel_rfl) rfl #[.agg #[.int .i64 t476, .slice Ao11 t477.length co11], .slice Ao183 t498.length co183] rfl lz ?_; (with_reducible refine (impl_NormalForm.calls kj6 t476 _ _ t477 (fun k_ => some k_ = (.slice Ao183 t498.length co183 : Value).ownBlock) _ _ t498 t503 t506 _ ?side1 ?side2 ?side3 ?side4 A32.out).mono ?_); (case side1 => have q_ := Aside0.mk (Kd.R_reads' HO_484001.out).2.2; exact cQ q_); (case side2 => exact (Kd.R_reads' HO_484001.out).2.1); (case side3 => exact Kd.R_V (Kd.R_tight rfl (IsS76.apart HI497.out (Kd.R_types (HO500.out) BK483.out (by decide)) (by decide)))); (case side4 => exact TabW.below HT.out (zLFnNormalFormsx2)); rintro e w184 ⟨v504, rfl, ho0, hb⟩; refine ⟨_, rfl, ?_⟩; have HO505 := Aside0.mk (Kd.R_lower (Kd.R_new' (Kd.R_new' (Kd.R_new' (Kd.R_new' (Kd.R_mono (ok' := fun k_ => True) ho0 (fun _ hk_ => trivial)) (Kd.R_lt (kdQ HO_4))) (Kd.R_lt (kdQ HO_5))) (Kd.R_lt (kdQ HO_484001))) (Kd.R_lt (kdQ HO500))) (below_size (zLFnNormalFormsx2))); replace HO_4 := Aside0.mk (Kd.R_elder' (kdQ HO_4) (Kd.R_base ho0) hb); replace HO_5 := Aside0.mk (Kd.R_elder' (kdQ HO_5) (Kd.R_base ho0) hb); replace HO_484001 := Aside0.mk (Kd.R_elder' (kdQ HO_484001) (Kd.R_base ho0) hb); replace HO500 := Aside0.mk (Kd.R_elder' (kdQ HO500) (Kd.R_base ho0) hb); replace BK483 := bb BK483 hb; replace HB := Aside0.mk (below_step (zLFnNormalFormsx2) hb); replace HI497 := Aside0.mk (IsS76.below (zLFnNormalFormsx1) hb); (try clear hb); (try clear hb2); (try clear hk); (try clear hi); (try clear hgw_); (try clear ho0); have hcz185_0 : w184.cell? ⟨gb483, 0, none⟩ = some (.int .i64 t476) := bc BK483 0; have hcz185_1 : w184.cell? ⟨gb483, 1, none⟩ = some (.slice Ao11 t477.length co11) := bc BK483 1; have hfz185_0 := blk_frozen BK483.out 0; have hfz185_1 := blk_frozen BK483.out 1; obtain ⟨Ao186, co186, eo186⟩ := Kd.R_slice HO_5.out; subst eo186) | ((with_reducible refine gate_callee (f := 17) rfl ?_); refine goesL_ (some 73) rfl rfl Tryd.func17 (by kernel_rfl) rfl #[.agg #[.int .i64 t476, .slice Ao11 t477.length co11], .slice Ao183 t498.length co183, .slice Ao186 t484.length co186] rfl lz ?_; (with_reducible refine (impl_AreSameTrace.calls kj6 t476 _ _ t477 (fun k_ => some k_ = (.slice Ao183 t498.length co183 : Value).ownBlock) _ _ t498 (fun k_ => some k_ = (.slice Ao186 t484.length co186 : Value).ownBlock) _ _ t484 t507 t508 _ ?side1 ?side2 ?side3 ?side4 ?side5 A33.out).mono ?_); (case side1 => have q_ := Aside0.mk (Kd.R_reads' HO_484001.out).2.2; exact cQ q_); (case side2 => exact (Kd.R_reads' HO_484001.out).2.1); (case side3 => exact Kd.R_V (Kd.R_tight rfl (IsS76.apart HI497.out (Kd.R_types (HO500.out) BK483.out (by decide)) (by decide)))); (case side4 => exact Kd.R_V (Kd.R_tight rfl (IsS76.apart HI497.out (Kd.R_types (HO_5.out) BK483.out (by decide)) (by decide)))); (case side5 => exact TabW.below HT.out (zLFnNormalFormsx2)); rintro e w187 ⟨rfl, hb⟩; refine ⟨_, rfl, ?_⟩; replace HO_4 := kb HO_4 hb; replace HO_5 := kb HO_5 hb; replace HO_484001 := kb HO_484001 hb; replace HO500 := kb HO500 hb; replace HO505 := kb HO505 hb; replace BK483 := bb BK483 hb; replace HB := Aside0.mk (below_step (zLFnNormalFormsx2) hb); replace HI497 := Aside0.mk (IsS76.below (zLFnNormalFormsx1) hb); (try clear hb); (try clear hb2); (try clear hk); (try clear hi); (try clear hgw_); have hcz188_0 : w187.cell? ⟨gb483, 0, none⟩ = some (.int .i64 t476) := bc BK483 0; have hcz188_1 : w187.cell? ⟨gb483, 1, none⟩ = some (.slice Ao11 t477.length co11) := bc BK483 1; have hfz188_0 := blk_frozen BK483.out 0; have hfz188_1 := blk_frozen BK483.out 1) | ((with_reducible refine gate_callee (f := 11) rfl ?_); refine goesL_ (some 79) rfl rfl Tryd.func11 (by kernel_rfl) rfl #[.agg #[.int .i64 t476, .slice Ao11 t477.length co11], .slice Ao186 t484.length co186] rfl lz ?_; (with_reducible refine (impl_NormalForm.calls kj6 t476 _ _ t477 (fun k_ => some k_ = (.slice Ao186 t484.length co186 : Value).ownBlock) _ _ t484 t509 t512 _ ?side1 ?side2 ?side3 ?side4 A34.out).mono ?_); (case side1 => have q_ := Aside0.mk (Kd.R_reads' HO_484001.out).2.2; exact cQ q_); (case side2 => exact (Kd.R_reads' HO_484001.out).2.1); (case side3 => exact Kd.R_V (Kd.R_tight rfl (IsS76.apart HI497.out (Kd.R_types (HO_5.out) BK483.out (by decide)) (by decide)))); (case side4 => exact TabW.below HT.out (zLFnNormalFormsx2)); rintro e w189 ⟨v510, rfl, ho0, hb⟩; refine ⟨_, rfl, ?_⟩; have HO511 := Aside0.mk (Kd.R_lower (Kd.R_new' (Kd.R_new' (Kd.R_new' (Kd.R_new' (Kd.R_new' (Kd.R_mono (ok' := fun k_ => True) ho0 (fun _ hk_ => trivial)) (Kd.R_lt (kdQ HO_4))) (Kd.R_lt (kdQ HO_5))) (Kd.R_lt (kdQ HO_484001))) (Kd.R_lt (kdQ HO500))) (Kd.R_lt (kdQ HO505))) (below_size (zLFnNormalFormsx2))); replace HO_4 := Aside0.mk (Kd.R_elder' (kdQ HO_4) (Kd.R_base ho0) hb); replace HO_5 := Aside0.mk (Kd.R_elder' (kdQ HO_5) (Kd.R_base ho0) hb); replace HO_484001 := Aside0.mk (Kd.R_elder' (kdQ HO_484001) (Kd.R_base ho0) hb); replace HO500 := Aside0.mk (Kd.R_elder' (kdQ HO500) (Kd.R_base ho0) hb); replace HO505 := Aside0.mk (Kd.R_elder' (kdQ HO505) (Kd.R_base ho0) hb); replace BK483 := bb BK483 hb; replace HB := Aside0.mk (below_step (zLFnNormalFormsx2) hb); replace HI497 := Aside0.mk (IsS76.below (zLFnNormalFormsx1) hb); (try clear hb); (try clear hb2); (try clear hk); (try clear hi); (try clear hgw_); (try clear ho0); have hcz190_0 : w189.cell? ⟨gb483, 0, none⟩ = some (.int .i64 t476) := bc BK483 0; have hcz190_1 : w189.cell? ⟨gb483, 1, none⟩ = some (.slice Ao11 t477.length co11) := bc BK483 1; have hfz190_0 := blk_frozen BK483.out 0; have hfz190_1 := blk_frozen BK483.out 1) | ((with_reducible refine gate_callee (f := 18) rfl ?_); refine goesL_ (some 85) rfl rfl Tryd.func18 (by kernel_rfl) rfl #[.agg #[.int .i64 t476, .slice Ao11 t477.length co11], .slice Ao14 t480.length co14] rfl lz ?_; (with_reducible refine (impl_ContentOf.calls kj6 t476 _ _ t477 (fun k_ => some k_ = (.slice Ao14 t480.length co14 : Value).ownBlock) _ _ t480 t513 t516 _ ?side1 ?side2 ?side3 ?side4 A35.out).mono ?_); (case side1 => have q_ := Aside0.mk (Kd.R_reads' HO_484001.out).2.2; exact cQ q_); (case side2 => exact (Kd.R_reads' HO_484001.out).2.1); (case side3 => exact Kd.R_V (Kd.R_tight rfl (IsS76.apart HI497.out (Kd.R_types (HO_4.out) BK483.out (by decide)) (by decide)))); (case side4 => exact TabW.below HT.out (zLFnNormalFormsx2)); rintro e w191 ⟨v514, rfl, ho0, hb⟩; refine ⟨_, rfl, ?_⟩; have HO515 := Aside0.mk (Kd.R_lower (Kd.R_new' (Kd.R_new' (Kd.R_new' (Kd.R_new' (Kd.R_new' (Kd.R_new' (Kd.R_mono (ok' := fun k_ => True) ho0 (fun _ hk_ => trivial)) (Kd.R_lt (kdQ HO_4))) (Kd.R_lt (kdQ HO_5))) (Kd.R_lt (kdQ HO_484001))) (Kd.R_lt (kdQ HO500))) (Kd.R_lt (kdQ HO505))) (Kd.R_lt (kdQ HO511))) (below_size (zLFnNormalFormsx2))); replace HO_4 := Aside0.mk (Kd.R_elder' (kdQ HO_4) (Kd.R_base ho0) hb); replace HO_5 := Aside0.mk (Kd.R_elder' (kdQ HO_5) (Kd.R_base ho0) hb); replace HO_484001 := Aside0.mk (Kd.R_elder' (kdQ HO_484001) (Kd.R_base ho0) hb); replace HO500 := Aside0.mk (Kd.R_elder' (kdQ HO500) (Kd.R_base ho0) hb); replace HO505 := Aside0.mk (Kd.R_elder' (kdQ HO505) (Kd.R_base ho0) hb); replace HO511 := Aside0.mk (Kd.R_elder' (kdQ HO511) (Kd.R_base ho0) hb); replace BK483 := bb BK483 hb; replace HB := Aside0.mk (below_step (zLFnNormalFormsx2) hb); replace HI497 := Aside0.mk (IsS76.below (zLFnNormalFormsx1) hb); (try clear hb); (try clear hb2); (try clear hk); (try clear hi); (try clear hgw_); (try clear ho0); have hcz192_0 : w191.cell? ⟨gb483, 0, none⟩ = some (.int .i64 t476) := bc BK483 0; have hcz192_1 : w191.cell? ⟨gb483, 1, none⟩ = some (.slice Ao11 t477.length co11) := bc BK483 1; have hfz192_0 := blk_frozen BK483.out 0; have hfz192_1 := blk_frozen BK483.out 1) | ((with_reducible refine gate_callee (f := 18) rfl ?_); refine goesL_ (some 91) rfl rfl Tryd.func18 (by kernel_rfl) rfl #[.agg #[.int .i64 t476, .slice Ao11 t477.length co11], .slice Ao186 t484.length co186] rfl lz ?_; (with_reducible refine (impl_ContentOf.calls kj6 t476 _ _ t477 (fun k_ => some k_ = (.slice Ao186 t484.length co186 : Value).ownBlock) _ _ t484 t517 t520 _ ?side1 ?side2 ?side3 ?side4 A36.out).mono ?_); (case side1 => have q_ := Aside0.mk (Kd.R_reads' HO_484001.out).2.2; exact cQ q_); (case side2 => exact (Kd.R_reads' HO_484001.out).2.1); (case side3 => exact Kd.R_V (Kd.R_tight rfl (IsS76.apart HI497.out (Kd.R_types (HO_5.out) BK483.out (by decide)) (by decide)))); (case side4 => exact TabW.below HT.out (zLFnNormalFormsx2)); rintro e w193 ⟨v518, rfl, ho0, hb⟩; refine ⟨_, rfl, ?_⟩; have HO519 := Aside0.mk (Kd.R_lower (Kd.R_new' (Kd.R_new' (Kd.R_new' (Kd.R_new' (Kd.R_new' (Kd.R_new' (Kd.R_new' (Kd.R_mono (ok' := fun k_ => True) ho0 (fun _ hk_ => trivial)) (Kd.R_lt (kdQ HO_4))) (Kd.R_lt (kdQ HO_5))) (Kd.R_lt (kdQ HO_484001))) (Kd.R_lt (kdQ HO500))) (Kd.R_lt (kdQ HO505))) (Kd.R_lt (kdQ HO511))) (Kd.R_lt (kdQ HO515))) (below_size (zLFnNormalFormsx2))); replace HO_4 := Aside0.mk (Kd.R_elder' (kdQ HO_4) (Kd.R_base ho0) hb); replace HO_5 := Aside0.mk (Kd.R_elder' (kdQ HO_5) (Kd.R_base ho0) hb); replace HO_484001 := Aside0.mk (Kd.R_elder' (kdQ HO_484001) (Kd.R_base ho0) hb); replace HO500 := Aside0.mk (Kd.R_elder' (kdQ HO500) (Kd.R_base ho0) hb); replace HO505 := Aside0.mk (Kd.R_elder' (kdQ HO505) (Kd.R_base ho0) hb); replace HO511 := Aside0.mk (Kd.R_elder' (kdQ HO511) (Kd.R_base ho0) hb); replace HO515 := Aside0.mk (Kd.R_elder' (kdQ HO515) (Kd.R_base ho0) hb); replace BK483 := bb BK483 hb; replace HB := Aside0.mk (below_step (zLFnNormalFormsx2) hb); replace HI497 := Aside0.mk (IsS76.below (zLFnNormalFormsx1) hb); (try clear hb); (try clear hb2); (try clear hk); (try clear hi); (try clear hgw_); (try clear ho0)))
          go_ret
          exact ⟨rz, zLFnNormalFormsx2⟩
        ·rw [if_neg c39] at H
         have c39b0 : (t512 == 0) = false := beq_eq_false_iff_ne.mpr c39
         have c39b1 : (t512 != 0) = true := bne_iff_ne.mpr c39
         obtain rfl := Option.some.inj H
         try go_wp2
         replace HO_4 := Aside0.mk (Kd.R_drew HO_4.out); replace HO_5 := Aside0.mk (Kd.R_drew HO_5.out); replace HO_484001 := Aside0.mk (Kd.R_drew HO_484001.out); replace BK483 := Aside0.mk (blk_drew BK483.out); replace HB := Aside0.mk (below_drew1 HB.out)
         refine start_ (n := 6) (S := fun w' => w'.cell? ⟨gb483, 0, none⟩ = some (.int .i64 t476) ∧ w'.cell? ⟨gb483, 1, none⟩ = some (.slice Ao11 t477.length co11)) (ds := []) #[false, false, false, false, false, false] (by kernel_rfl) rfl rfl ⟨bc BK483 0, bc BK483 1⟩ (fun hHeld => ?_)
         generalize wc.drew = w194 at HO_4 HO_5 HO_484001 BK483 HB hHeld ⊢
         refine pure_ (i := 0) (N := some 58) (v := ?_) (a' := ?_) #[true, false, false, false, false, false] rfl rfl (by kernel_rfl) (fun _ _ _ h => h) (Or.inl ⟨by rfl, ?_⟩) ?_ ?_
         rotate_left
         ·intro w'
          go_simp
          with_reducible rfl
         rotate_left
         ·simp only [Act.put, s1, s2, s3, i64_w, i32_w]
          rfl
         refine pure_ (i := 3) (N := some 61) (v := ?_) (a' := ?_) #[true, false, false, true, false, false] rfl rfl (by kernel_rfl) (fun _ _ _ h => h) (Or.inl ⟨by rfl, ?_⟩) ?_ ?_
         rotate_left
         ·intro w'
          go_simp
          with_reducible rfl
         rotate_left
         ·simp only [Act.put, s1, s2, s3, i64_w, i32_w]
          rfl
         refine take_ (i := 2) (N := some 60) (v := ?_) (a' := ?_) #[true, false, true, true, false, false] rfl rfl (by kernel_rfl) (fun _ _ _ h => h) (Or.inl ⟨by rfl, ?_⟩) hHeld ?_ ?_
         rotate_left
         ·rintro w' ⟨s0, s1⟩
          go_simp
          with_reducible rfl
         rotate_left
         ·simp only [Act.put, s1, s2, s3, i64_w, i32_w]
          rfl
         refine one_ (i := 1) (N := some 59) #[true, true, true, true, false, false] rfl rfl (by kernel_rfl) (by decide) (fun K hK => ?_)
         refine goes_ Tryd.func16 (by kernel_rfl) rfl #[.slice A0 l0.length c0, .int .u64 504] (by rfl) rfl rfl lz ?_
         with_reducible refine (laws_roll.calls kj6 _ _ l0 504 t494 t495 t496 w _ ?side1 ?side2 ?side3 A30.out).mono ?_
         (case side1 => exact zLFnNormalFormsx0)
         (case side2 => exact HR0.out)
         (case side3 => exact HC0.out)
         rintro e w195 ⟨g497, rfl, hi, hb, hb2, hgw_⟩
         refine ⟨_, rfl, ?_⟩
         replace HO_4 := Aside0.mk (Kd.R_below (kdQ HO_4) hb2); replace HO_5 := Aside0.mk (Kd.R_below (kdQ HO_5) hb2); replace HO_484001 := Aside0.mk (Kd.R_below (kdQ HO_484001) hb2); replace HB := Aside0.mk (hb); have HI497 := Aside0.mk (hi)
         have NB497_483 := Aside0.mk (IsS76.ne_blk hi (blk_below (blkQ BK483) hb2) (by decide))
         have NB483_497 := Aside0.mk (Ne.symm (IsS76.ne_blk hi (blk_below (blkQ BK483) hb2) (by decide)))
         replace BK483 := Aside0.mk (blk_below (blkQ BK483) hb2)
         (try clear hb)
         (try clear hb2)
         (try clear hk)
         (try clear hi)
         (try clear hgw_)
         refine hK.out _ _ ⟨bc BK483 0, bc BK483 1⟩ (fun hHeld => ?_)
         clear hK K
         refine norm_ (a' := ?_) ?_ ?_
         rotate_left
         ·show Act.put _ (some 59) _ = _
          simp only [Act.put, s1, s2, s3, i64_w, i32_w]
          rfl
         refine one_ (i := 4) (N := some 62) #[true, true, true, true, true, false] rfl rfl (by kernel_rfl) (by decide) (fun K hK => ?_)
         refine goes_ Tryd.func15 (by kernel_rfl) rfl #[.pointer (some ⟨g497, 0, none⟩), .agg #[.int .i64 t476, .slice Ao11 t477.length co11], .slice Ao14 t480.length co14] (by rfl) rfl rfl lz ?_
         with_reducible refine (laws_shuffle5.calls kj6 g497 t494 t495 t496 t476 _ _ t477 _ _ t480 t498 t501 t502 w _ ?side1 ?side2 ?side3 ?side4 ?side5 ?side6 ?side7 ?side8 A31.out).mono ?_
         (case side1 => exact zLFnNormalFormsx1)
         (case side2 => exact zLFnNormalFormsx2)
         (case side3 => have q_ := Aside0.mk (Kd.R_reads' HO_484001.out).2.2; exact cQ q_)
         (case side4 => exact (Kd.R_reads' HO_484001.out).2.1)
         (case side5 => exact far_slice (IsS76.own_ne HI497.out HO_484001.out (by decide)))
         (case side6 => have q_ := Aside0.mk (Kd.R_reads' HO_4.out).2.2; exact cQ q_)
         (case side7 => exact (Kd.R_reads' HO_4.out).2.1)
         (case side8 => exact far_slice (IsS76.own_ne HI497.out HO_4.out (by decide)))
         rintro e w196 ⟨v499, rfl, ho0, hi, hb, hk⟩
         refine ⟨_, rfl, ?_⟩
         replace BK483 := Aside0.mk (KeepBut.blk hk (g' := gb483) (o := .cells #[.int .i64 t476, .slice Ao11 t477.length co11] 26 (0, 0)) (blkQ BK483) NB483_497.out (by simp))
         have HO500 := Aside0.mk (Kd.R_lower (Kd.R_new' (Kd.R_new' (Kd.R_new' ho0 (Kd.R_lt (kdQ HO_4))) (Kd.R_lt (kdQ HO_5))) (Kd.R_lt (kdQ HO_484001))) (below_size (zLFnNormalFormsx2)))
         replace HO_4 := Aside0.mk (Kd.R_mono (Kd.R_told (Kd.R_oldK (IsS76.apart (show IsS76 w _ g497 t494 t495 t496 from zLFnNormalFormsx1) (kdQ HO_4) (by decide)) hk) (Kd.R_base ho0)) (fun _ h_ => h_.1))
         replace HO_5 := Aside0.mk (Kd.R_mono (Kd.R_told (Kd.R_oldK (IsS76.apart (show IsS76 w _ g497 t494 t495 t496 from zLFnNormalFormsx1) (kdQ HO_5) (by decide)) hk) (Kd.R_base ho0)) (fun _ h_ => h_.1))
         replace HO_484001 := Aside0.mk (Kd.R_mono (Kd.R_told (Kd.R_oldK (IsS76.apart (show IsS76 w _ g497 t494 t495 t496 from zLFnNormalFormsx1) (kdQ HO_484001) (by decide)) hk) (Kd.R_base ho0)) (fun _ h_ => h_.1))
         replace HB := Aside0.mk (hb); replace HI497 := Aside0.mk (hi)
         (try clear hb)
         (try clear hb2)
         (try clear hk)
         (try clear hi)
         (try clear hgw_)
         (try clear ho0)
         refine hK.out _ _ ⟨bc BK483 0, bc BK483 1⟩ (fun hHeld => ?_)
         clear hK K
         refine norm_ (a' := ?_) ?_ ?_
         rotate_left
         ·show Act.put _ (some 62) _ = _
          simp only [Act.put, s1, s2, s3, i64_w, i32_w]
          rfl
         refine pure_ (i := 5) (N := some 9) (v := ?_) (a' := ?_) #[true, true, true, true, true, true] rfl rfl (by kernel_rfl) (fun _ _ _ h => h) (Or.inl ⟨by rfl, ?_⟩) ?_ ?_
         rotate_left
         ·intro w'
          go_simp
          with_reducible rfl
         rotate_left
         ·simp only [Act.put, s1, s2, s3, i64_w, i32_w]
          rfl
         refine done_ (by kernel_rfl) ?_
         have hnb197 := NB483_497.out; have hnc197 := NB497_483.out
         have hcz198_0 : w196.cell? ⟨gb483, 0, none⟩ = some (.int .i64 t476) := bc BK483 0
         have hcz198_1 : w196.cell? ⟨gb483, 1, none⟩ = some (.slice Ao11 t477.length co11) := bc BK483 1
         have hfz198_0 := blk_frozen BK483.out 0; have hfz198_1 := blk_frozen BK483.out 1; obtain ⟨Ao199, co199, eo199⟩ := Kd.R_slice HO500.out; subst eo199
         try go_wp2_with (first | ((with_reducible refine gate_callee (f := 11) rfl ?_); refine goesL_ (some 66) rfl rfl Tryd.func11 (by kernel_rfl) rfl #[.agg #[.int .i64 t476, .slice Ao11 t477.length co11], .slice Ao199 t498.length co199] rfl lz ?_; (with_reducible refine (impl_NormalForm.calls kj6 t476 _ _ t477 (fun k_ => some k_ = (.slice Ao199 t498.length co199 : Value).ownBlock) _ _ t498 t503 t506 _ ?side1 ?side2 ?side3 ?side4 A32.out).mono ?_); (case side1 => have q_ := Aside0.mk (Kd.R_reads' HO_484001.out).2.2; exact cQ q_); (case side2 => exact (Kd.R_reads' HO_484001.out).2.1); (case side3 => exact Kd.R_V (Kd.R_tight rfl (IsS76.apart HI497.out (Kd.R_types (HO500.out) BK483.out (by decide)) (by decide)))); (case side4 => exact TabW.below HT.out (zLFnNormalFormsx2)); rintro e w200 ⟨v504, rfl, ho0, hb⟩; refine ⟨_, rfl, ?_⟩; have HO505 := Aside0.mk (Kd.R_lower (Kd.R_new' (Kd.R_new' (Kd.R_new' (Kd.R_new' (Kd.R_mono (ok' := fun k_ => True) ho0 (fun _ hk_ => trivial)) (Kd.R_lt (kdQ HO_4))) (Kd.R_lt (kdQ HO_5))) (Kd.R_lt (kdQ HO_484001))) (Kd.R_lt (kdQ HO500))) (below_size (zLFnNormalFormsx2))); replace HO_4 := Aside0.mk (Kd.R_elder' (kdQ HO_4) (Kd.R_base ho0) hb); replace HO_5 := Aside0.mk (Kd.R_elder' (kdQ HO_5) (Kd.R_base ho0) hb); replace HO_484001 := Aside0.mk (Kd.R_elder' (kdQ HO_484001) (Kd.R_base ho0) hb); replace HO500 := Aside0.mk (Kd.R_elder' (kdQ HO500) (Kd.R_base ho0) hb); replace BK483 := bb BK483 hb; replace HB := Aside0.mk (below_step (zLFnNormalFormsx2) hb); replace HI497 := Aside0.mk (IsS76.below (zLFnNormalFormsx1) hb); (try clear hb); (try clear hb2); (try clear hk); (try clear hi); (try clear hgw_); (try clear ho0); have hcz201_0 : w200.cell? ⟨gb483, 0, none⟩ = some (.int .i64 t476) := bc BK483 0; have hcz201_1 : w200.cell? ⟨gb483, 1, none⟩ = some (.slice Ao11 t477.length co11) := bc BK483 1; have hfz201_0 := blk_frozen BK483.out 0; have hfz201_1 := blk_frozen BK483.out 1; obtain ⟨Ao202, co202, eo202⟩ := Kd.R_slice HO_5.out; subst eo202) | ((with_reducible refine gate_callee (f := 17) rfl ?_); refine goesL_ (some 73) rfl rfl Tryd.func17 (by kernel_rfl) rfl #[.agg #[.int .i64 t476, .slice Ao11 t477.length co11], .slice Ao199 t498.length co199, .slice Ao202 t484.length co202] rfl lz ?_; (with_reducible refine (impl_AreSameTrace.calls kj6 t476 _ _ t477 (fun k_ => some k_ = (.slice Ao199 t498.length co199 : Value).ownBlock) _ _ t498 (fun k_ => some k_ = (.slice Ao202 t484.length co202 : Value).ownBlock) _ _ t484 t507 t508 _ ?side1 ?side2 ?side3 ?side4 ?side5 A33.out).mono ?_); (case side1 => have q_ := Aside0.mk (Kd.R_reads' HO_484001.out).2.2; exact cQ q_); (case side2 => exact (Kd.R_reads' HO_484001.out).2.1); (case side3 => exact Kd.R_V (Kd.R_tight rfl (IsS76.apart HI497.out (Kd.R_types (HO500.out) BK483.out (by decide)) (by decide)))); (case side4 => exact Kd.R_V (Kd.R_tight rfl (IsS76.apart HI497.out (Kd.R_types (HO_5.out) BK483.out (by decide)) (by decide)))); (case side5 => exact TabW.below HT.out (zLFnNormalFormsx2)); rintro e w203 ⟨rfl, hb⟩; refine ⟨_, rfl, ?_⟩; replace HO_4 := kb HO_4 hb; replace HO_5 := kb HO_5 hb; replace HO_484001 := kb HO_484001 hb; replace HO500 := kb HO500 hb; replace HO505 := kb HO505 hb; replace BK483 := bb BK483 hb; replace HB := Aside0.mk (below_step (zLFnNormalFormsx2) hb); replace HI497 := Aside0.mk (IsS76.below (zLFnNormalFormsx1) hb); (try clear hb); (try clear hb2); (try clear hk); (try clear hi); (try clear hgw_); have hcz204_0 : w203.cell? ⟨gb483, 0, none⟩ = some (.int .i64 t476) := bc BK483 0; have hcz204_1 : w203.cell? ⟨gb483, 1, none⟩ = some (.slice Ao11 t477.length co11) := bc BK483 1; have hfz204_0 := blk_frozen BK483.out 0; have hfz204_1 := blk_frozen BK483.out 1) | ((with_reducible refine gate_callee (f := 11) rfl ?_); refine goesL_ (some 79) rfl rfl Tryd.func11 (by kernel_rfl) rfl #[.agg #[.int .i64 t476, .slice Ao11 t477.length co11], .slice Ao202 t484.length co202] rfl lz ?_; (with_reducible refine (impl_NormalForm.calls kj6 t476 _ _ t477 (fun k_ => some k_ = (.slice Ao202 t484.length co202 : Value).ownBlock) _ _ t484 t509 t512 _ ?side1 ?side2 ?side3 ?side4 A34.out).mono ?_); (case side1 => have q_ := Aside0.mk (Kd.R_reads' HO_484001.out).2.2; exact cQ q_); (case side2 => exact (Kd.R_reads' HO_484001.out).2.1); (case side3 => exact Kd.R_V (Kd.R_tight rfl (IsS76.apart HI497.out (Kd.R_types (HO_5.out) BK483.out (by decide)) (by decide)))); (case side4 => exact TabW.below HT.out (zLFnNormalFormsx2)); rintro e w205 ⟨v510, rfl, ho0, hb⟩; refine ⟨_, rfl, ?_⟩; have HO511 := Aside0.mk (Kd.R_lower (Kd.R_new' (Kd.R_new' (Kd.R_new' (Kd.R_new' (Kd.R_new' (Kd.R_mono (ok' := fun k_ => True) ho0 (fun _ hk_ => trivial)) (Kd.R_lt (kdQ HO_4))) (Kd.R_lt (kdQ HO_5))) (Kd.R_lt (kdQ HO_484001))) (Kd.R_lt (kdQ HO500))) (Kd.R_lt (kdQ HO505))) (below_size (zLFnNormalFormsx2))); replace HO_4 := Aside0.mk (Kd.R_elder' (kdQ HO_4) (Kd.R_base ho0) hb); replace HO_5 := Aside0.mk (Kd.R_elder' (kdQ HO_5) (Kd.R_base ho0) hb); replace HO_484001 := Aside0.mk (Kd.R_elder' (kdQ HO_484001) (Kd.R_base ho0) hb); replace HO500 := Aside0.mk (Kd.R_elder' (kdQ HO500) (Kd.R_base ho0) hb); replace HO505 := Aside0.mk (Kd.R_elder' (kdQ HO505) (Kd.R_base ho0) hb); replace BK483 := bb BK483 hb; replace HB := Aside0.mk (below_step (zLFnNormalFormsx2) hb); replace HI497 := Aside0.mk (IsS76.below (zLFnNormalFormsx1) hb); (try clear hb); (try clear hb2); (try clear hk); (try clear hi); (try clear hgw_); (try clear ho0); have hcz206_0 : w205.cell? ⟨gb483, 0, none⟩ = some (.int .i64 t476) := bc BK483 0; have hcz206_1 : w205.cell? ⟨gb483, 1, none⟩ = some (.slice Ao11 t477.length co11) := bc BK483 1; have hfz206_0 := blk_frozen BK483.out 0; have hfz206_1 := blk_frozen BK483.out 1) | ((with_reducible refine gate_callee (f := 18) rfl ?_); refine goesL_ (some 85) rfl rfl Tryd.func18 (by kernel_rfl) rfl #[.agg #[.int .i64 t476, .slice Ao11 t477.length co11], .slice Ao14 t480.length co14] rfl lz ?_; (with_reducible refine (impl_ContentOf.calls kj6 t476 _ _ t477 (fun k_ => some k_ = (.slice Ao14 t480.length co14 : Value).ownBlock) _ _ t480 t513 t516 _ ?side1 ?side2 ?side3 ?side4 A35.out).mono ?_); (case side1 => have q_ := Aside0.mk (Kd.R_reads' HO_484001.out).2.2; exact cQ q_); (case side2 => exact (Kd.R_reads' HO_484001.out).2.1); (case side3 => exact Kd.R_V (Kd.R_tight rfl (IsS76.apart HI497.out (Kd.R_types (HO_4.out) BK483.out (by decide)) (by decide)))); (case side4 => exact TabW.below HT.out (zLFnNormalFormsx2)); rintro e w207 ⟨v514, rfl, ho0, hb⟩; refine ⟨_, rfl, ?_⟩; have HO515 := Aside0.mk (Kd.R_lower (Kd.R_new' (Kd.R_new' (Kd.R_new' (Kd.R_new' (Kd.R_new' (Kd.R_new' (Kd.R_mono (ok' := fun k_ => True) ho0 (fun _ hk_ => trivial)) (Kd.R_lt (kdQ HO_4))) (Kd.R_lt (kdQ HO_5))) (Kd.R_lt (kdQ HO_484001))) (Kd.R_lt (kdQ HO500))) (Kd.R_lt (kdQ HO505))) (Kd.R_lt (kdQ HO511))) (below_size (zLFnNormalFormsx2))); replace HO_4 := Aside0.mk (Kd.R_elder' (kdQ HO_4) (Kd.R_base ho0) hb); replace HO_5 := Aside0.mk (Kd.R_elder' (kdQ HO_5) (Kd.R_base ho0) hb); replace HO_484001 := Aside0.mk (Kd.R_elder' (kdQ HO_484001) (Kd.R_base ho0) hb); replace HO500 := Aside0.mk (Kd.R_elder' (kdQ HO500) (Kd.R_base ho0) hb); replace HO505 := Aside0.mk (Kd.R_elder' (kdQ HO505) (Kd.R_base ho0) hb); replace HO511 := Aside0.mk (Kd.R_elder' (kdQ HO511) (Kd.R_base ho0) hb); replace BK483 := bb BK483 hb; replace HB := Aside0.mk (below_step (zLFnNormalFormsx2) hb); replace HI497 := Aside0.mk (IsS76.below (zLFnNormalFormsx1) hb); (try clear hb); (try clear hb2); (try clear hk); (try clear hi); (try clear hgw_); (try clear ho0); have hcz208_0 : w207.cell? ⟨gb483, 0, none⟩ = some (.int .i64 t476) := bc BK483 0; have hcz208_1 : w207.cell? ⟨gb483, 1, none⟩ = some (.slice Ao11 t477.length co11) := bc BK483 1; have hfz208_0 := blk_frozen BK483.out 0; have hfz208_1 := blk_frozen BK483.out 1) | ((with_reducible refine gate_callee (f := 18) rfl ?_); refine goesL_ (some 91) rfl rfl Tryd.func18 (by kernel_rfl) rfl #[.agg #[.int .i64 t476, .slice Ao11 t477.length co11], .slice Ao202 t484.length co202] rfl lz ?_; (with_reducible refine (impl_ContentOf.calls kj6 t476 _ _ t477 (fun k_ => some k_ = (.slice Ao202 t484.length co202 : Value).ownBlock) _ _ t484 t517 t520 _ ?side1 ?side2 ?side3 ?side4 A36.out).mono ?_); (case side1 => have q_ := Aside0.mk (Kd.R_reads' HO_484001.out).2.2; exact cQ q_); (case side2 => exact (Kd.R_reads' HO_484001.out).2.1); (case side3 => exact Kd.R_V (Kd.R_tight rfl (IsS76.apart HI497.out (Kd.R_types (HO_5.out) BK483.out (by decide)) (by decide)))); (case side4 => exact TabW.below HT.out (zLFnNormalFormsx2)); rintro e w209 ⟨v518, rfl, ho0, hb⟩; refine ⟨_, rfl, ?_⟩; have HO519 := Aside0.mk (Kd.R_lower (Kd.R_new' (Kd.R_new' (Kd.R_new' (Kd.R_new' (Kd.R_new' (Kd.R_new' (Kd.R_new' (Kd.R_mono (ok' := fun k_ => True) ho0 (fun _ hk_ => trivial)) (Kd.R_lt (kdQ HO_4))) (Kd.R_lt (kdQ HO_5))) (Kd.R_lt (kdQ HO_484001))) (Kd.R_lt (kdQ HO500))) (Kd.R_lt (kdQ HO505))) (Kd.R_lt (kdQ HO511))) (Kd.R_lt (kdQ HO515))) (below_size (zLFnNormalFormsx2))); replace HO_4 := Aside0.mk (Kd.R_elder' (kdQ HO_4) (Kd.R_base ho0) hb); replace HO_5 := Aside0.mk (Kd.R_elder' (kdQ HO_5) (Kd.R_base ho0) hb); replace HO_484001 := Aside0.mk (Kd.R_elder' (kdQ HO_484001) (Kd.R_base ho0) hb); replace HO500 := Aside0.mk (Kd.R_elder' (kdQ HO500) (Kd.R_base ho0) hb); replace HO505 := Aside0.mk (Kd.R_elder' (kdQ HO505) (Kd.R_base ho0) hb); replace HO511 := Aside0.mk (Kd.R_elder' (kdQ HO511) (Kd.R_base ho0) hb); replace HO515 := Aside0.mk (Kd.R_elder' (kdQ HO515) (Kd.R_base ho0) hb); replace BK483 := bb BK483 hb; replace HB := Aside0.mk (below_step (zLFnNormalFormsx2) hb); replace HI497 := Aside0.mk (IsS76.below (zLFnNormalFormsx1) hb); (try clear hb); (try clear hb2); (try clear hk); (try clear hi); (try clear hgw_); (try clear ho0)))
         go_ret
         exact ⟨rz, zLFnNormalFormsx2⟩
       ·rw [if_neg c38] at H
        have c38b0 : (t508 == 0) = false := beq_eq_false_iff_ne.mpr c38
        have c38b1 : (t508 != 0) = true := bne_iff_ne.mpr c38
        obtain rfl := Option.some.inj H
        try go_wp2
        replace HO_4 := Aside0.mk (Kd.R_drew HO_4.out); replace HO_5 := Aside0.mk (Kd.R_drew HO_5.out); replace HO_484001 := Aside0.mk (Kd.R_drew HO_484001.out); replace BK483 := Aside0.mk (blk_drew BK483.out); replace HB := Aside0.mk (below_drew1 HB.out)
        refine start_ (n := 6) (S := fun w' => w'.cell? ⟨gb483, 0, none⟩ = some (.int .i64 t476) ∧ w'.cell? ⟨gb483, 1, none⟩ = some (.slice Ao11 t477.length co11)) (ds := []) #[false, false, false, false, false, false] (by kernel_rfl) rfl rfl ⟨bc BK483 0, bc BK483 1⟩ (fun hHeld => ?_)
        generalize wc.drew = w210 at HO_4 HO_5 HO_484001 BK483 HB hHeld ⊢
        refine pure_ (i := 0) (N := some 58) (v := ?_) (a' := ?_) #[true, false, false, false, false, false] rfl rfl (by kernel_rfl) (fun _ _ _ h => h) (Or.inl ⟨by rfl, ?_⟩) ?_ ?_
        rotate_left
        ·intro w'
         go_simp
         with_reducible rfl
        rotate_left
        ·simp only [Act.put, s1, s2, s3, i64_w, i32_w]
         rfl
        refine pure_ (i := 3) (N := some 61) (v := ?_) (a' := ?_) #[true, false, false, true, false, false] rfl rfl (by kernel_rfl) (fun _ _ _ h => h) (Or.inl ⟨by rfl, ?_⟩) ?_ ?_
        rotate_left
        ·intro w'
         go_simp
         with_reducible rfl
        rotate_left
        ·simp only [Act.put, s1, s2, s3, i64_w, i32_w]
         rfl
        refine take_ (i := 2) (N := some 60) (v := ?_) (a' := ?_) #[true, false, true, true, false, false] rfl rfl (by kernel_rfl) (fun _ _ _ h => h) (Or.inl ⟨by rfl, ?_⟩) hHeld ?_ ?_
        rotate_left
        ·rintro w' ⟨s0, s1⟩
         go_simp
         with_reducible rfl
        rotate_left
        ·simp only [Act.put, s1, s2, s3, i64_w, i32_w]
         rfl
        refine one_ (i := 1) (N := some 59) #[true, true, true, true, false, false] rfl rfl (by kernel_rfl) (by decide) (fun K hK => ?_)
        refine goes_ Tryd.func16 (by kernel_rfl) rfl #[.slice A0 l0.length c0, .int .u64 504] (by rfl) rfl rfl lz ?_
        with_reducible refine (laws_roll.calls kj6 _ _ l0 504 t494 t495 t496 w _ ?side1 ?side2 ?side3 A30.out).mono ?_
        (case side1 => exact zLFnNormalFormsx0)
        (case side2 => exact HR0.out)
        (case side3 => exact HC0.out)
        rintro e w211 ⟨g497, rfl, hi, hb, hb2, hgw_⟩
        refine ⟨_, rfl, ?_⟩
        replace HO_4 := Aside0.mk (Kd.R_below (kdQ HO_4) hb2); replace HO_5 := Aside0.mk (Kd.R_below (kdQ HO_5) hb2); replace HO_484001 := Aside0.mk (Kd.R_below (kdQ HO_484001) hb2); replace HB := Aside0.mk (hb); have HI497 := Aside0.mk (hi)
        have NB497_483 := Aside0.mk (IsS76.ne_blk hi (blk_below (blkQ BK483) hb2) (by decide))
        have NB483_497 := Aside0.mk (Ne.symm (IsS76.ne_blk hi (blk_below (blkQ BK483) hb2) (by decide)))
        replace BK483 := Aside0.mk (blk_below (blkQ BK483) hb2)
        (try clear hb)
        (try clear hb2)
        (try clear hk)
        (try clear hi)
        (try clear hgw_)
        refine hK.out _ _ ⟨bc BK483 0, bc BK483 1⟩ (fun hHeld => ?_)
        clear hK K
        refine norm_ (a' := ?_) ?_ ?_
        rotate_left
        ·show Act.put _ (some 59) _ = _
         simp only [Act.put, s1, s2, s3, i64_w, i32_w]
         rfl
        refine one_ (i := 4) (N := some 62) #[true, true, true, true, true, false] rfl rfl (by kernel_rfl) (by decide) (fun K hK => ?_)
        refine goes_ Tryd.func15 (by kernel_rfl) rfl #[.pointer (some ⟨g497, 0, none⟩), .agg #[.int .i64 t476, .slice Ao11 t477.length co11], .slice Ao14 t480.length co14] (by rfl) rfl rfl lz ?_
        with_reducible refine (laws_shuffle5.calls kj6 g497 t494 t495 t496 t476 _ _ t477 _ _ t480 t498 t501 t502 w _ ?side1 ?side2 ?side3 ?side4 ?side5 ?side6 ?side7 ?side8 A31.out).mono ?_
        (case side1 => exact zLFnNormalFormsx1)
        (case side2 => exact zLFnNormalFormsx2)
        (case side3 => have q_ := Aside0.mk (Kd.R_reads' HO_484001.out).2.2; exact cQ q_)
        (case side4 => exact (Kd.R_reads' HO_484001.out).2.1)
        (case side5 => exact far_slice (IsS76.own_ne HI497.out HO_484001.out (by decide)))
        (case side6 => have q_ := Aside0.mk (Kd.R_reads' HO_4.out).2.2; exact cQ q_)
        (case side7 => exact (Kd.R_reads' HO_4.out).2.1)
        (case side8 => exact far_slice (IsS76.own_ne HI497.out HO_4.out (by decide)))
        rintro e w212 ⟨v499, rfl, ho0, hi, hb, hk⟩
        refine ⟨_, rfl, ?_⟩
        replace BK483 := Aside0.mk (KeepBut.blk hk (g' := gb483) (o := .cells #[.int .i64 t476, .slice Ao11 t477.length co11] 26 (0, 0)) (blkQ BK483) NB483_497.out (by simp))
        have HO500 := Aside0.mk (Kd.R_lower (Kd.R_new' (Kd.R_new' (Kd.R_new' ho0 (Kd.R_lt (kdQ HO_4))) (Kd.R_lt (kdQ HO_5))) (Kd.R_lt (kdQ HO_484001))) (below_size (zLFnNormalFormsx2)))
        replace HO_4 := Aside0.mk (Kd.R_mono (Kd.R_told (Kd.R_oldK (IsS76.apart (show IsS76 w _ g497 t494 t495 t496 from zLFnNormalFormsx1) (kdQ HO_4) (by decide)) hk) (Kd.R_base ho0)) (fun _ h_ => h_.1))
        replace HO_5 := Aside0.mk (Kd.R_mono (Kd.R_told (Kd.R_oldK (IsS76.apart (show IsS76 w _ g497 t494 t495 t496 from zLFnNormalFormsx1) (kdQ HO_5) (by decide)) hk) (Kd.R_base ho0)) (fun _ h_ => h_.1))
        replace HO_484001 := Aside0.mk (Kd.R_mono (Kd.R_told (Kd.R_oldK (IsS76.apart (show IsS76 w _ g497 t494 t495 t496 from zLFnNormalFormsx1) (kdQ HO_484001) (by decide)) hk) (Kd.R_base ho0)) (fun _ h_ => h_.1))
        replace HB := Aside0.mk (hb); replace HI497 := Aside0.mk (hi)
        (try clear hb)
        (try clear hb2)
        (try clear hk)
        (try clear hi)
        (try clear hgw_)
        (try clear ho0)
        refine hK.out _ _ ⟨bc BK483 0, bc BK483 1⟩ (fun hHeld => ?_)
        clear hK K
        refine norm_ (a' := ?_) ?_ ?_
        rotate_left
        ·show Act.put _ (some 62) _ = _
         simp only [Act.put, s1, s2, s3, i64_w, i32_w]
         rfl
        refine pure_ (i := 5) (N := some 9) (v := ?_) (a' := ?_) #[true, true, true, true, true, true] rfl rfl (by kernel_rfl) (fun _ _ _ h => h) (Or.inl ⟨by rfl, ?_⟩) ?_ ?_
        rotate_left
        ·intro w'
         go_simp
         with_reducible rfl
        rotate_left
        ·simp only [Act.put, s1, s2, s3, i64_w, i32_w]
         rfl
        refine done_ (by kernel_rfl) ?_
        have hnb213 := NB483_497.out; have hnc213 := NB497_483.out
        have hcz214_0 : w212.cell? ⟨gb483, 0, none⟩ = some (.int .i64 t476) := bc BK483 0
        have hcz214_1 : w212.cell? ⟨gb483, 1, none⟩ = some (.slice Ao11 t477.length co11) := bc BK483 1
        have hfz214_0 := blk_frozen BK483.out 0; have hfz214_1 := blk_frozen BK483.out 1; obtain ⟨Ao215, co215, eo215⟩ := Kd.R_slice HO500.out; subst eo215
        try go_wp2_with (first | ((with_reducible refine gate_callee (f := 11) rfl ?_); refine goesL_ (some 66) rfl rfl Tryd.func11 (by kernel_rfl) rfl #[.agg #[.int .i64 t476, .slice Ao11 t477.length co11], .slice Ao215 t498.length co215] rfl lz ?_; (with_reducible refine (impl_NormalForm.calls kj6 t476 _ _ t477 (fun k_ => some k_ = (.slice Ao215 t498.length co215 : Value).ownBlock) _ _ t498 t503 t506 _ ?side1 ?side2 ?side3 ?side4 A32.out).mono ?_); (case side1 => have q_ := Aside0.mk (Kd.R_reads' HO_484001.out).2.2; exact cQ q_); (case side2 => exact (Kd.R_reads' HO_484001.out).2.1); (case side3 => exact Kd.R_V (Kd.R_tight rfl (IsS76.apart HI497.out (Kd.R_types (HO500.out) BK483.out (by decide)) (by decide)))); (case side4 => exact TabW.below HT.out (zLFnNormalFormsx2)); rintro e w216 ⟨v504, rfl, ho0, hb⟩; refine ⟨_, rfl, ?_⟩; have HO505 := Aside0.mk (Kd.R_lower (Kd.R_new' (Kd.R_new' (Kd.R_new' (Kd.R_new' (Kd.R_mono (ok' := fun k_ => True) ho0 (fun _ hk_ => trivial)) (Kd.R_lt (kdQ HO_4))) (Kd.R_lt (kdQ HO_5))) (Kd.R_lt (kdQ HO_484001))) (Kd.R_lt (kdQ HO500))) (below_size (zLFnNormalFormsx2))); replace HO_4 := Aside0.mk (Kd.R_elder' (kdQ HO_4) (Kd.R_base ho0) hb); replace HO_5 := Aside0.mk (Kd.R_elder' (kdQ HO_5) (Kd.R_base ho0) hb); replace HO_484001 := Aside0.mk (Kd.R_elder' (kdQ HO_484001) (Kd.R_base ho0) hb); replace HO500 := Aside0.mk (Kd.R_elder' (kdQ HO500) (Kd.R_base ho0) hb); replace BK483 := bb BK483 hb; replace HB := Aside0.mk (below_step (zLFnNormalFormsx2) hb); replace HI497 := Aside0.mk (IsS76.below (zLFnNormalFormsx1) hb); (try clear hb); (try clear hb2); (try clear hk); (try clear hi); (try clear hgw_); (try clear ho0); have hcz217_0 : w216.cell? ⟨gb483, 0, none⟩ = some (.int .i64 t476) := bc BK483 0; have hcz217_1 : w216.cell? ⟨gb483, 1, none⟩ = some (.slice Ao11 t477.length co11) := bc BK483 1; have hfz217_0 := blk_frozen BK483.out 0; have hfz217_1 := blk_frozen BK483.out 1; obtain ⟨Ao218, co218, eo218⟩ := Kd.R_slice HO_5.out; subst eo218) | ((with_reducible refine gate_callee (f := 17) rfl ?_); refine goesL_ (some 73) rfl rfl Tryd.func17 (by kernel_rfl) rfl #[.agg #[.int .i64 t476, .slice Ao11 t477.length co11], .slice Ao215 t498.length co215, .slice Ao218 t484.length co218] rfl lz ?_; (with_reducible refine (impl_AreSameTrace.calls kj6 t476 _ _ t477 (fun k_ => some k_ = (.slice Ao215 t498.length co215 : Value).ownBlock) _ _ t498 (fun k_ => some k_ = (.slice Ao218 t484.length co218 : Value).ownBlock) _ _ t484 t507 t508 _ ?side1 ?side2 ?side3 ?side4 ?side5 A33.out).mono ?_); (case side1 => have q_ := Aside0.mk (Kd.R_reads' HO_484001.out).2.2; exact cQ q_); (case side2 => exact (Kd.R_reads' HO_484001.out).2.1); (case side3 => exact Kd.R_V (Kd.R_tight rfl (IsS76.apart HI497.out (Kd.R_types (HO500.out) BK483.out (by decide)) (by decide)))); (case side4 => exact Kd.R_V (Kd.R_tight rfl (IsS76.apart HI497.out (Kd.R_types (HO_5.out) BK483.out (by decide)) (by decide)))); (case side5 => exact TabW.below HT.out (zLFnNormalFormsx2)); rintro e w219 ⟨rfl, hb⟩; refine ⟨_, rfl, ?_⟩; replace HO_4 := kb HO_4 hb; replace HO_5 := kb HO_5 hb; replace HO_484001 := kb HO_484001 hb; replace HO500 := kb HO500 hb; replace HO505 := kb HO505 hb; replace BK483 := bb BK483 hb; replace HB := Aside0.mk (below_step (zLFnNormalFormsx2) hb); replace HI497 := Aside0.mk (IsS76.below (zLFnNormalFormsx1) hb); (try clear hb); (try clear hb2); (try clear hk); (try clear hi); (try clear hgw_); have hcz220_0 : w219.cell? ⟨gb483, 0, none⟩ = some (.int .i64 t476) := bc BK483 0; have hcz220_1 : w219.cell? ⟨gb483, 1, none⟩ = some (.slice Ao11 t477.length co11) := bc BK483 1; have hfz220_0 := blk_frozen BK483.out 0; have hfz220_1 := blk_frozen BK483.out 1) | ((with_reducible refine gate_callee (f := 11) rfl ?_); refine goesL_ (some 79) rfl rfl Tryd.func11 (by kernel_rfl) rfl #[.agg #[.int .i64 t476, .slice Ao11 t477.length co11], .slice Ao218 t484.length co218] rfl lz ?_; (with_reducible refine (impl_NormalForm.calls kj6 t476 _ _ t477 (fun k_ => some k_ = (.slice Ao218 t484.length co218 : Value).ownBlock) _ _ t484 t509 t512 _ ?side1 ?side2 ?side3 ?side4 A34.out).mono ?_); (case side1 => have q_ := Aside0.mk (Kd.R_reads' HO_484001.out).2.2; exact cQ q_); (case side2 => exact (Kd.R_reads' HO_484001.out).2.1); (case side3 => exact Kd.R_V (Kd.R_tight rfl (IsS76.apart HI497.out (Kd.R_types (HO_5.out) BK483.out (by decide)) (by decide)))); (case side4 => exact TabW.below HT.out (zLFnNormalFormsx2)); rintro e w221 ⟨v510, rfl, ho0, hb⟩; refine ⟨_, rfl, ?_⟩; have HO511 := Aside0.mk (Kd.R_lower (Kd.R_new' (Kd.R_new' (Kd.R_new' (Kd.R_new' (Kd.R_new' (Kd.R_mono (ok' := fun k_ => True) ho0 (fun _ hk_ => trivial)) (Kd.R_lt (kdQ HO_4))) (Kd.R_lt (kdQ HO_5))) (Kd.R_lt (kdQ HO_484001))) (Kd.R_lt (kdQ HO500))) (Kd.R_lt (kdQ HO505))) (below_size (zLFnNormalFormsx2))); replace HO_4 := Aside0.mk (Kd.R_elder' (kdQ HO_4) (Kd.R_base ho0) hb); replace HO_5 := Aside0.mk (Kd.R_elder' (kdQ HO_5) (Kd.R_base ho0) hb); replace HO_484001 := Aside0.mk (Kd.R_elder' (kdQ HO_484001) (Kd.R_base ho0) hb); replace HO500 := Aside0.mk (Kd.R_elder' (kdQ HO500) (Kd.R_base ho0) hb); replace HO505 := Aside0.mk (Kd.R_elder' (kdQ HO505) (Kd.R_base ho0) hb); replace BK483 := bb BK483 hb; replace HB := Aside0.mk (below_step (zLFnNormalFormsx2) hb); replace HI497 := Aside0.mk (IsS76.below (zLFnNormalFormsx1) hb); (try clear hb); (try clear hb2); (try clear hk); (try clear hi); (try clear hgw_); (try clear ho0); have hcz222_0 : w221.cell? ⟨gb483, 0, none⟩ = some (.int .i64 t476) := bc BK483 0; have hcz222_1 : w221.cell? ⟨gb483, 1, none⟩ = some (.slice Ao11 t477.length co11) := bc BK483 1; have hfz222_0 := blk_frozen BK483.out 0; have hfz222_1 := blk_frozen BK483.out 1) | ((with_reducible refine gate_callee (f := 18) rfl ?_); refine goesL_ (some 85) rfl rfl Tryd.func18 (by kernel_rfl) rfl #[.agg #[.int .i64 t476, .slice Ao11 t477.length co11], .slice Ao14 t480.length co14] rfl lz ?_; (with_reducible refine (impl_ContentOf.calls kj6 t476 _ _ t477 (fun k_ => some k_ = (.slice Ao14 t480.length co14 : Value).ownBlock) _ _ t480 t513 t516 _ ?side1 ?side2 ?side3 ?side4 A35.out).mono ?_); (case side1 => have q_ := Aside0.mk (Kd.R_reads' HO_484001.out).2.2; exact cQ q_); (case side2 => exact (Kd.R_reads' HO_484001.out).2.1); (case side3 => exact Kd.R_V (Kd.R_tight rfl (IsS76.apart HI497.out (Kd.R_types (HO_4.out) BK483.out (by decide)) (by decide)))); (case side4 => exact TabW.below HT.out (zLFnNormalFormsx2)); rintro e w223 ⟨v514, rfl, ho0, hb⟩; refine ⟨_, rfl, ?_⟩; have HO515 := Aside0.mk (Kd.R_lower (Kd.R_new' (Kd.R_new' (Kd.R_new' (Kd.R_new' (Kd.R_new' (Kd.R_new' (Kd.R_mono (ok' := fun k_ => True) ho0 (fun _ hk_ => trivial)) (Kd.R_lt (kdQ HO_4))) (Kd.R_lt (kdQ HO_5))) (Kd.R_lt (kdQ HO_484001))) (Kd.R_lt (kdQ HO500))) (Kd.R_lt (kdQ HO505))) (Kd.R_lt (kdQ HO511))) (below_size (zLFnNormalFormsx2))); replace HO_4 := Aside0.mk (Kd.R_elder' (kdQ HO_4) (Kd.R_base ho0) hb); replace HO_5 := Aside0.mk (Kd.R_elder' (kdQ HO_5) (Kd.R_base ho0) hb); replace HO_484001 := Aside0.mk (Kd.R_elder' (kdQ HO_484001) (Kd.R_base ho0) hb); replace HO500 := Aside0.mk (Kd.R_elder' (kdQ HO500) (Kd.R_base ho0) hb); replace HO505 := Aside0.mk (Kd.R_elder' (kdQ HO505) (Kd.R_base ho0) hb); replace HO511 := Aside0.mk (Kd.R_elder' (kdQ HO511) (Kd.R_base ho0) hb); replace BK483 := bb BK483 hb; replace HB := Aside0.mk (below_step (zLFnNormalFormsx2) hb); replace HI497 := Aside0.mk (IsS76.below (zLFnNormalFormsx1) hb); (try clear hb); (try clear hb2); (try clear hk); (try clear hi); (try clear hgw_); (try clear ho0); have hcz224_0 : w223.cell? ⟨gb483, 0, none⟩ = some (.int .i64 t476) := bc BK483 0; have hcz224_1 : w223.cell? ⟨gb483, 1, none⟩ = some (.slice Ao11 t477.length co11) := bc BK483 1; have hfz224_0 := blk_frozen BK483.out 0; have hfz224_1 := blk_frozen BK483.out 1) | ((with_reducible refine gate_callee (f := 18) rfl ?_); refine goesL_ (some 91) rfl rfl Tryd.func18 (by kernel_rfl) rfl #[.agg #[.int .i64 t476, .slice Ao11 t477.length co11], .slice Ao218 t484.length co218] rfl lz ?_; (with_reducible refine (impl_ContentOf.calls kj6 t476 _ _ t477 (fun k_ => some k_ = (.slice Ao218 t484.length co218 : Value).ownBlock) _ _ t484 t517 t520 _ ?side1 ?side2 ?side3 ?side4 A36.out).mono ?_); (case side1 => have q_ := Aside0.mk (Kd.R_reads' HO_484001.out).2.2; exact cQ q_); (case side2 => exact (Kd.R_reads' HO_484001.out).2.1); (case side3 => exact Kd.R_V (Kd.R_tight rfl (IsS76.apart HI497.out (Kd.R_types (HO_5.out) BK483.out (by decide)) (by decide)))); (case side4 => exact TabW.below HT.out (zLFnNormalFormsx2)); rintro e w225 ⟨v518, rfl, ho0, hb⟩; refine ⟨_, rfl, ?_⟩; have HO519 := Aside0.mk (Kd.R_lower (Kd.R_new' (Kd.R_new' (Kd.R_new' (Kd.R_new' (Kd.R_new' (Kd.R_new' (Kd.R_new' (Kd.R_mono (ok' := fun k_ => True) ho0 (fun _ hk_ => trivial)) (Kd.R_lt (kdQ HO_4))) (Kd.R_lt (kdQ HO_5))) (Kd.R_lt (kdQ HO_484001))) (Kd.R_lt (kdQ HO500))) (Kd.R_lt (kdQ HO505))) (Kd.R_lt (kdQ HO511))) (Kd.R_lt (kdQ HO515))) (below_size (zLFnNormalFormsx2))); replace HO_4 := Aside0.mk (Kd.R_elder' (kdQ HO_4) (Kd.R_base ho0) hb); replace HO_5 := Aside0.mk (Kd.R_elder' (kdQ HO_5) (Kd.R_base ho0) hb); replace HO_484001 := Aside0.mk (Kd.R_elder' (kdQ HO_484001) (Kd.R_base ho0) hb); replace HO500 := Aside0.mk (Kd.R_elder' (kdQ HO500) (Kd.R_base ho0) hb); replace HO505 := Aside0.mk (Kd.R_elder' (kdQ HO505) (Kd.R_base ho0) hb); replace HO511 := Aside0.mk (Kd.R_elder' (kdQ HO511) (Kd.R_base ho0) hb); replace HO515 := Aside0.mk (Kd.R_elder' (kdQ HO515) (Kd.R_base ho0) hb); replace BK483 := bb BK483 hb; replace HB := Aside0.mk (below_step (zLFnNormalFormsx2) hb); replace HI497 := Aside0.mk (IsS76.below (zLFnNormalFormsx1) hb); (try clear hb); (try clear hb2); (try clear hk); (try clear hi); (try clear hgw_); (try clear ho0)))
        go_ret
        exact ⟨rz, zLFnNormalFormsx2⟩
      ·rw [if_neg c37] at H
       have c37b0 : (t506 == 0) = false := beq_eq_false_iff_ne.mpr c37
       have c37b1 : (t506 != 0) = true := bne_iff_ne.mpr c37
       obtain rfl := Option.some.inj H
       try go_wp2
       replace HO_4 := Aside0.mk (Kd.R_drew HO_4.out); replace HO_5 := Aside0.mk (Kd.R_drew HO_5.out); replace HO_484001 := Aside0.mk (Kd.R_drew HO_484001.out); replace BK483 := Aside0.mk (blk_drew BK483.out); replace HB := Aside0.mk (below_drew1 HB.out)
       refine start_ (n := 6) (S := fun w' => w'.cell? ⟨gb483, 0, none⟩ = some (.int .i64 t476) ∧ w'.cell? ⟨gb483, 1, none⟩ = some (.slice Ao11 t477.length co11)) (ds := []) #[false, false, false, false, false, false] (by kernel_rfl) rfl rfl ⟨bc BK483 0, bc BK483 1⟩ (fun hHeld => ?_)
       generalize wc.drew = w226 at HO_4 HO_5 HO_484001 BK483 HB hHeld ⊢
       refine pure_ (i := 0) (N := some 58) (v := ?_) (a' := ?_) #[true, false, false, false, false, false] rfl rfl (by kernel_rfl) (fun _ _ _ h => h) (Or.inl ⟨by rfl, ?_⟩) ?_ ?_
       rotate_left
       ·intro w'
        go_simp
        with_reducible rfl
       rotate_left
       ·simp only [Act.put, s1, s2, s3, i64_w, i32_w]
        rfl
       refine pure_ (i := 3) (N := some 61) (v := ?_) (a' := ?_) #[true, false, false, true, false, false] rfl rfl (by kernel_rfl) (fun _ _ _ h => h) (Or.inl ⟨by rfl, ?_⟩) ?_ ?_
       rotate_left
       ·intro w'
        go_simp
        with_reducible rfl
       rotate_left
       ·simp only [Act.put, s1, s2, s3, i64_w, i32_w]
        rfl
       refine take_ (i := 2) (N := some 60) (v := ?_) (a' := ?_) #[true, false, true, true, false, false] rfl rfl (by kernel_rfl) (fun _ _ _ h => h) (Or.inl ⟨by rfl, ?_⟩) hHeld ?_ ?_
       rotate_left
       ·rintro w' ⟨s0, s1⟩
        go_simp
        with_reducible rfl
       rotate_left
       ·simp only [Act.put, s1, s2, s3, i64_w, i32_w]
        rfl
       refine one_ (i := 1) (N := some 59) #[true, true, true, true, false, false] rfl rfl (by kernel_rfl) (by decide) (fun K hK => ?_)
       refine goes_ Tryd.func16 (by kernel_rfl) rfl #[.slice A0 l0.length c0, .int .u64 504] (by rfl) rfl rfl lz ?_
       with_reducible refine (laws_roll.calls kj6 _ _ l0 504 t494 t495 t496 w _ ?side1 ?side2 ?side3 A30.out).mono ?_
       (case side1 => exact zLFnNormalFormsx0)
       (case side2 => exact HR0.out)
       (case side3 => exact HC0.out)
       rintro e w227 ⟨g497, rfl, hi, hb, hb2, hgw_⟩
       refine ⟨_, rfl, ?_⟩
       replace HO_4 := Aside0.mk (Kd.R_below (kdQ HO_4) hb2); replace HO_5 := Aside0.mk (Kd.R_below (kdQ HO_5) hb2); replace HO_484001 := Aside0.mk (Kd.R_below (kdQ HO_484001) hb2); replace HB := Aside0.mk (hb); have HI497 := Aside0.mk (hi)
       have NB497_483 := Aside0.mk (IsS76.ne_blk hi (blk_below (blkQ BK483) hb2) (by decide))
       have NB483_497 := Aside0.mk (Ne.symm (IsS76.ne_blk hi (blk_below (blkQ BK483) hb2) (by decide)))
       replace BK483 := Aside0.mk (blk_below (blkQ BK483) hb2)
       (try clear hb)
       (try clear hb2)
       (try clear hk)
       (try clear hi)
       (try clear hgw_)
       refine hK.out _ _ ⟨bc BK483 0, bc BK483 1⟩ (fun hHeld => ?_)
       clear hK K
       refine norm_ (a' := ?_) ?_ ?_
       rotate_left
       ·show Act.put _ (some 59) _ = _
        simp only [Act.put, s1, s2, s3, i64_w, i32_w]
        rfl
       refine one_ (i := 4) (N := some 62) #[true, true, true, true, true, false] rfl rfl (by kernel_rfl) (by decide) (fun K hK => ?_)
       refine goes_ Tryd.func15 (by kernel_rfl) rfl #[.pointer (some ⟨g497, 0, none⟩), .agg #[.int .i64 t476, .slice Ao11 t477.length co11], .slice Ao14 t480.length co14] (by rfl) rfl rfl lz ?_
       with_reducible refine (laws_shuffle5.calls kj6 g497 t494 t495 t496 t476 _ _ t477 _ _ t480 t498 t501 t502 w _ ?side1 ?side2 ?side3 ?side4 ?side5 ?side6 ?side7 ?side8 A31.out).mono ?_
       (case side1 => exact zLFnNormalFormsx1)
       (case side2 => exact zLFnNormalFormsx2)
       (case side3 => have q_ := Aside0.mk (Kd.R_reads' HO_484001.out).2.2; exact cQ q_)
       (case side4 => exact (Kd.R_reads' HO_484001.out).2.1)
       (case side5 => exact far_slice (IsS76.own_ne HI497.out HO_484001.out (by decide)))
       (case side6 => have q_ := Aside0.mk (Kd.R_reads' HO_4.out).2.2; exact cQ q_)
       (case side7 => exact (Kd.R_reads' HO_4.out).2.1)
       (case side8 => exact far_slice (IsS76.own_ne HI497.out HO_4.out (by decide)))
       rintro e w228 ⟨v499, rfl, ho0, hi, hb, hk⟩
       refine ⟨_, rfl, ?_⟩
       replace BK483 := Aside0.mk (KeepBut.blk hk (g' := gb483) (o := .cells #[.int .i64 t476, .slice Ao11 t477.length co11] 26 (0, 0)) (blkQ BK483) NB483_497.out (by simp))
       have HO500 := Aside0.mk (Kd.R_lower (Kd.R_new' (Kd.R_new' (Kd.R_new' ho0 (Kd.R_lt (kdQ HO_4))) (Kd.R_lt (kdQ HO_5))) (Kd.R_lt (kdQ HO_484001))) (below_size (zLFnNormalFormsx2)))
       replace HO_4 := Aside0.mk (Kd.R_mono (Kd.R_told (Kd.R_oldK (IsS76.apart (show IsS76 w _ g497 t494 t495 t496 from zLFnNormalFormsx1) (kdQ HO_4) (by decide)) hk) (Kd.R_base ho0)) (fun _ h_ => h_.1))
       replace HO_5 := Aside0.mk (Kd.R_mono (Kd.R_told (Kd.R_oldK (IsS76.apart (show IsS76 w _ g497 t494 t495 t496 from zLFnNormalFormsx1) (kdQ HO_5) (by decide)) hk) (Kd.R_base ho0)) (fun _ h_ => h_.1))
       replace HO_484001 := Aside0.mk (Kd.R_mono (Kd.R_told (Kd.R_oldK (IsS76.apart (show IsS76 w _ g497 t494 t495 t496 from zLFnNormalFormsx1) (kdQ HO_484001) (by decide)) hk) (Kd.R_base ho0)) (fun _ h_ => h_.1))
       replace HB := Aside0.mk (hb); replace HI497 := Aside0.mk (hi)
       (try clear hb)
       (try clear hb2)
       (try clear hk)
       (try clear hi)
       (try clear hgw_)
       (try clear ho0)
       refine hK.out _ _ ⟨bc BK483 0, bc BK483 1⟩ (fun hHeld => ?_)
       clear hK K
       refine norm_ (a' := ?_) ?_ ?_
       rotate_left
       ·show Act.put _ (some 62) _ = _
        simp only [Act.put, s1, s2, s3, i64_w, i32_w]
        rfl
       refine pure_ (i := 5) (N := some 9) (v := ?_) (a' := ?_) #[true, true, true, true, true, true] rfl rfl (by kernel_rfl) (fun _ _ _ h => h) (Or.inl ⟨by rfl, ?_⟩) ?_ ?_
       rotate_left
       ·intro w'
        go_simp
        with_reducible rfl
       rotate_left
       ·simp only [Act.put, s1, s2, s3, i64_w, i32_w]
        rfl
       refine done_ (by kernel_rfl) ?_
       have hnb229 := NB483_497.out; have hnc229 := NB497_483.out
       have hcz230_0 : w228.cell? ⟨gb483, 0, none⟩ = some (.int .i64 t476) := bc BK483 0
       have hcz230_1 : w228.cell? ⟨gb483, 1, none⟩ = some (.slice Ao11 t477.length co11) := bc BK483 1
       have hfz230_0 := blk_frozen BK483.out 0; have hfz230_1 := blk_frozen BK483.out 1; obtain ⟨Ao231, co231, eo231⟩ := Kd.R_slice HO500.out; subst eo231
       try go_wp2_with (first | ((with_reducible refine gate_callee (f := 11) rfl ?_); refine goesL_ (some 66) rfl rfl Tryd.func11 (by kernel_rfl) rfl #[.agg #[.int .i64 t476, .slice Ao11 t477.length co11], .slice Ao231 t498.length co231] rfl lz ?_; (with_reducible refine (impl_NormalForm.calls kj6 t476 _ _ t477 (fun k_ => some k_ = (.slice Ao231 t498.length co231 : Value).ownBlock) _ _ t498 t503 t506 _ ?side1 ?side2 ?side3 ?side4 A32.out).mono ?_); (case side1 => have q_ := Aside0.mk (Kd.R_reads' HO_484001.out).2.2; exact cQ q_); (case side2 => exact (Kd.R_reads' HO_484001.out).2.1); (case side3 => exact Kd.R_V (Kd.R_tight rfl (IsS76.apart HI497.out (Kd.R_types (HO500.out) BK483.out (by decide)) (by decide)))); (case side4 => exact TabW.below HT.out (zLFnNormalFormsx2)); rintro e w232 ⟨v504, rfl, ho0, hb⟩; refine ⟨_, rfl, ?_⟩; have HO505 := Aside0.mk (Kd.R_lower (Kd.R_new' (Kd.R_new' (Kd.R_new' (Kd.R_new' (Kd.R_mono (ok' := fun k_ => True) ho0 (fun _ hk_ => trivial)) (Kd.R_lt (kdQ HO_4))) (Kd.R_lt (kdQ HO_5))) (Kd.R_lt (kdQ HO_484001))) (Kd.R_lt (kdQ HO500))) (below_size (zLFnNormalFormsx2))); replace HO_4 := Aside0.mk (Kd.R_elder' (kdQ HO_4) (Kd.R_base ho0) hb); replace HO_5 := Aside0.mk (Kd.R_elder' (kdQ HO_5) (Kd.R_base ho0) hb); replace HO_484001 := Aside0.mk (Kd.R_elder' (kdQ HO_484001) (Kd.R_base ho0) hb); replace HO500 := Aside0.mk (Kd.R_elder' (kdQ HO500) (Kd.R_base ho0) hb); replace BK483 := bb BK483 hb; replace HB := Aside0.mk (below_step (zLFnNormalFormsx2) hb); replace HI497 := Aside0.mk (IsS76.below (zLFnNormalFormsx1) hb); (try clear hb); (try clear hb2); (try clear hk); (try clear hi); (try clear hgw_); (try clear ho0); have hcz233_0 : w232.cell? ⟨gb483, 0, none⟩ = some (.int .i64 t476) := bc BK483 0; have hcz233_1 : w232.cell? ⟨gb483, 1, none⟩ = some (.slice Ao11 t477.length co11) := bc BK483 1; have hfz233_0 := blk_frozen BK483.out 0; have hfz233_1 := blk_frozen BK483.out 1; obtain ⟨Ao234, co234, eo234⟩ := Kd.R_slice HO_5.out; subst eo234) | ((with_reducible refine gate_callee (f := 17) rfl ?_); refine goesL_ (some 73) rfl rfl Tryd.func17 (by kernel_rfl) rfl #[.agg #[.int .i64 t476, .slice Ao11 t477.length co11], .slice Ao231 t498.length co231, .slice Ao234 t484.length co234] rfl lz ?_; (with_reducible refine (impl_AreSameTrace.calls kj6 t476 _ _ t477 (fun k_ => some k_ = (.slice Ao231 t498.length co231 : Value).ownBlock) _ _ t498 (fun k_ => some k_ = (.slice Ao234 t484.length co234 : Value).ownBlock) _ _ t484 t507 t508 _ ?side1 ?side2 ?side3 ?side4 ?side5 A33.out).mono ?_); (case side1 => have q_ := Aside0.mk (Kd.R_reads' HO_484001.out).2.2; exact cQ q_); (case side2 => exact (Kd.R_reads' HO_484001.out).2.1); (case side3 => exact Kd.R_V (Kd.R_tight rfl (IsS76.apart HI497.out (Kd.R_types (HO500.out) BK483.out (by decide)) (by decide)))); (case side4 => exact Kd.R_V (Kd.R_tight rfl (IsS76.apart HI497.out (Kd.R_types (HO_5.out) BK483.out (by decide)) (by decide)))); (case side5 => exact TabW.below HT.out (zLFnNormalFormsx2)); rintro e w235 ⟨rfl, hb⟩; refine ⟨_, rfl, ?_⟩; replace HO_4 := kb HO_4 hb; replace HO_5 := kb HO_5 hb; replace HO_484001 := kb HO_484001 hb; replace HO500 := kb HO500 hb; replace HO505 := kb HO505 hb; replace BK483 := bb BK483 hb; replace HB := Aside0.mk (below_step (zLFnNormalFormsx2) hb); replace HI497 := Aside0.mk (IsS76.below (zLFnNormalFormsx1) hb); (try clear hb); (try clear hb2); (try clear hk); (try clear hi); (try clear hgw_); have hcz236_0 : w235.cell? ⟨gb483, 0, none⟩ = some (.int .i64 t476) := bc BK483 0; have hcz236_1 : w235.cell? ⟨gb483, 1, none⟩ = some (.slice Ao11 t477.length co11) := bc BK483 1; have hfz236_0 := blk_frozen BK483.out 0; have hfz236_1 := blk_frozen BK483.out 1) | ((with_reducible refine gate_callee (f := 11) rfl ?_); refine goesL_ (some 79) rfl rfl Tryd.func11 (by kernel_rfl) rfl #[.agg #[.int .i64 t476, .slice Ao11 t477.length co11], .slice Ao234 t484.length co234] rfl lz ?_; (with_reducible refine (impl_NormalForm.calls kj6 t476 _ _ t477 (fun k_ => some k_ = (.slice Ao234 t484.length co234 : Value).ownBlock) _ _ t484 t509 t512 _ ?side1 ?side2 ?side3 ?side4 A34.out).mono ?_); (case side1 => have q_ := Aside0.mk (Kd.R_reads' HO_484001.out).2.2; exact cQ q_); (case side2 => exact (Kd.R_reads' HO_484001.out).2.1); (case side3 => exact Kd.R_V (Kd.R_tight rfl (IsS76.apart HI497.out (Kd.R_types (HO_5.out) BK483.out (by decide)) (by decide)))); (case side4 => exact TabW.below HT.out (zLFnNormalFormsx2)); rintro e w237 ⟨v510, rfl, ho0, hb⟩; refine ⟨_, rfl, ?_⟩; have HO511 := Aside0.mk (Kd.R_lower (Kd.R_new' (Kd.R_new' (Kd.R_new' (Kd.R_new' (Kd.R_new' (Kd.R_mono (ok' := fun k_ => True) ho0 (fun _ hk_ => trivial)) (Kd.R_lt (kdQ HO_4))) (Kd.R_lt (kdQ HO_5))) (Kd.R_lt (kdQ HO_484001))) (Kd.R_lt (kdQ HO500))) (Kd.R_lt (kdQ HO505))) (below_size (zLFnNormalFormsx2))); replace HO_4 := Aside0.mk (Kd.R_elder' (kdQ HO_4) (Kd.R_base ho0) hb); replace HO_5 := Aside0.mk (Kd.R_elder' (kdQ HO_5) (Kd.R_base ho0) hb); replace HO_484001 := Aside0.mk (Kd.R_elder' (kdQ HO_484001) (Kd.R_base ho0) hb); replace HO500 := Aside0.mk (Kd.R_elder' (kdQ HO500) (Kd.R_base ho0) hb); replace HO505 := Aside0.mk (Kd.R_elder' (kdQ HO505) (Kd.R_base ho0) hb); replace BK483 := bb BK483 hb; replace HB := Aside0.mk (below_step (zLFnNormalFormsx2) hb); replace HI497 := Aside0.mk (IsS76.below (zLFnNormalFormsx1) hb); (try clear hb); (try clear hb2); (try clear hk); (try clear hi); (try clear hgw_); (try clear ho0); have hcz238_0 : w237.cell? ⟨gb483, 0, none⟩ = some (.int .i64 t476) := bc BK483 0; have hcz238_1 : w237.cell? ⟨gb483, 1, none⟩ = some (.slice Ao11 t477.length co11) := bc BK483 1; have hfz238_0 := blk_frozen BK483.out 0; have hfz238_1 := blk_frozen BK483.out 1) | ((with_reducible refine gate_callee (f := 18) rfl ?_); refine goesL_ (some 85) rfl rfl Tryd.func18 (by kernel_rfl) rfl #[.agg #[.int .i64 t476, .slice Ao11 t477.length co11], .slice Ao14 t480.length co14] rfl lz ?_; (with_reducible refine (impl_ContentOf.calls kj6 t476 _ _ t477 (fun k_ => some k_ = (.slice Ao14 t480.length co14 : Value).ownBlock) _ _ t480 t513 t516 _ ?side1 ?side2 ?side3 ?side4 A35.out).mono ?_); (case side1 => have q_ := Aside0.mk (Kd.R_reads' HO_484001.out).2.2; exact cQ q_); (case side2 => exact (Kd.R_reads' HO_484001.out).2.1); (case side3 => exact Kd.R_V (Kd.R_tight rfl (IsS76.apart HI497.out (Kd.R_types (HO_4.out) BK483.out (by decide)) (by decide)))); (case side4 => exact TabW.below HT.out (zLFnNormalFormsx2)); rintro e w239 ⟨v514, rfl, ho0, hb⟩; refine ⟨_, rfl, ?_⟩; have HO515 := Aside0.mk (Kd.R_lower (Kd.R_new' (Kd.R_new' (Kd.R_new' (Kd.R_new' (Kd.R_new' (Kd.R_new' (Kd.R_mono (ok' := fun k_ => True) ho0 (fun _ hk_ => trivial)) (Kd.R_lt (kdQ HO_4))) (Kd.R_lt (kdQ HO_5))) (Kd.R_lt (kdQ HO_484001))) (Kd.R_lt (kdQ HO500))) (Kd.R_lt (kdQ HO505))) (Kd.R_lt (kdQ HO511))) (below_size (zLFnNormalFormsx2))); replace HO_4 := Aside0.mk (Kd.R_elder' (kdQ HO_4) (Kd.R_base ho0) hb); replace HO_5 := Aside0.mk (Kd.R_elder' (kdQ HO_5) (Kd.R_base ho0) hb); replace HO_484001 := Aside0.mk (Kd.R_elder' (kdQ HO_484001) (Kd.R_base ho0) hb); replace HO500 := Aside0.mk (Kd.R_elder' (kdQ HO500) (Kd.R_base ho0) hb); replace HO505 := Aside0.mk (Kd.R_elder' (kdQ HO505) (Kd.R_base ho0) hb); replace HO511 := Aside0.mk (Kd.R_elder' (kdQ HO511) (Kd.R_base ho0) hb); replace BK483 := bb BK483 hb; replace HB := Aside0.mk (below_step (zLFnNormalFormsx2) hb); replace HI497 := Aside0.mk (IsS76.below (zLFnNormalFormsx1) hb); (try clear hb); (try clear hb2); (try clear hk); (try clear hi); (try clear hgw_); (try clear ho0); have hcz240_0 : w239.cell? ⟨gb483, 0, none⟩ = some (.int .i64 t476) := bc BK483 0; have hcz240_1 : w239.cell? ⟨gb483, 1, none⟩ = some (.slice Ao11 t477.length co11) := bc BK483 1; have hfz240_0 := blk_frozen BK483.out 0; have hfz240_1 := blk_frozen BK483.out 1) | ((with_reducible refine gate_callee (f := 18) rfl ?_); refine goesL_ (some 91) rfl rfl Tryd.func18 (by kernel_rfl) rfl #[.agg #[.int .i64 t476, .slice Ao11 t477.length co11], .slice Ao234 t484.length co234] rfl lz ?_; (with_reducible refine (impl_ContentOf.calls kj6 t476 _ _ t477 (fun k_ => some k_ = (.slice Ao234 t484.length co234 : Value).ownBlock) _ _ t484 t517 t520 _ ?side1 ?side2 ?side3 ?side4 A36.out).mono ?_); (case side1 => have q_ := Aside0.mk (Kd.R_reads' HO_484001.out).2.2; exact cQ q_); (case side2 => exact (Kd.R_reads' HO_484001.out).2.1); (case side3 => exact Kd.R_V (Kd.R_tight rfl (IsS76.apart HI497.out (Kd.R_types (HO_5.out) BK483.out (by decide)) (by decide)))); (case side4 => exact TabW.below HT.out (zLFnNormalFormsx2)); rintro e w241 ⟨v518, rfl, ho0, hb⟩; refine ⟨_, rfl, ?_⟩; have HO519 := Aside0.mk (Kd.R_lower (Kd.R_new' (Kd.R_new' (Kd.R_new' (Kd.R_new' (Kd.R_new' (Kd.R_new' (Kd.R_new' (Kd.R_mono (ok' := fun k_ => True) ho0 (fun _ hk_ => trivial)) (Kd.R_lt (kdQ HO_4))) (Kd.R_lt (kdQ HO_5))) (Kd.R_lt (kdQ HO_484001))) (Kd.R_lt (kdQ HO500))) (Kd.R_lt (kdQ HO505))) (Kd.R_lt (kdQ HO511))) (Kd.R_lt (kdQ HO515))) (below_size (zLFnNormalFormsx2))); replace HO_4 := Aside0.mk (Kd.R_elder' (kdQ HO_4) (Kd.R_base ho0) hb); replace HO_5 := Aside0.mk (Kd.R_elder' (kdQ HO_5) (Kd.R_base ho0) hb); replace HO_484001 := Aside0.mk (Kd.R_elder' (kdQ HO_484001) (Kd.R_base ho0) hb); replace HO500 := Aside0.mk (Kd.R_elder' (kdQ HO500) (Kd.R_base ho0) hb); replace HO505 := Aside0.mk (Kd.R_elder' (kdQ HO505) (Kd.R_base ho0) hb); replace HO511 := Aside0.mk (Kd.R_elder' (kdQ HO511) (Kd.R_base ho0) hb); replace HO515 := Aside0.mk (Kd.R_elder' (kdQ HO515) (Kd.R_base ho0) hb); replace BK483 := bb BK483 hb; replace HB := Aside0.mk (below_step (zLFnNormalFormsx2) hb); replace HI497 := Aside0.mk (IsS76.below (zLFnNormalFormsx1) hb); (try clear hb); (try clear hb2); (try clear hk); (try clear hi); (try clear hgw_); (try clear ho0)))
       go_ret
       exact ⟨rz, zLFnNormalFormsx2⟩
     ·rw [if_neg c29] at H
      have c29b0 : (t487 == 0) = false := beq_eq_false_iff_ne.mpr c29
      have c29b1 : (t487 != 0) = true := bne_iff_ne.mpr c29
      obtain rfl := Option.some.inj H
      go_wp2
      go_ret
      exact ⟨rz, beQ HB⟩
end Go.Proofs.YtleeihpmniabhaaDoor.G
