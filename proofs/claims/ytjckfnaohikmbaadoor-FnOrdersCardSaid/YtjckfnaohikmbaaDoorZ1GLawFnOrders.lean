-- A copy, with what one law needs, of a text that print.sh or a program of ours wrote
import Derived.Test.YtjckfnaohikmbaaDoorZ1G0
import Derived.Test.YtjckfnaohikmbaaDoorZ1GQ05
import Derived.Test.YtjckfnaohikmbaaDoorZ1GQ08a
import Derived.Test.YtjckfnaohikmbaaDoorZ1GQ08b
import Derived.Test.YtjckfnaohikmbaaDoorZ1GQ08c
import Derived.Test.YtjckfnaohikmbaaDoorZ1GQ09c
import Derived.Test.YtjckfnaohikmbaaDoorZ1GQ09d
import Derived.Test.YtjckfnaohikmbaaDoorZ1GQ09e
namespace Go.Proofs.YtjckfnaohikmbaaDoor.G
open Go.RowKit Go.Proofs.YtjckfnaohikmbaaDoorW.PrintWords Go.Proofs.YtjckfnaohikmbaaDoorW.PrintLast Go.Proofs.YtjckfnaohikmbaaDoorW.PrintMore
theorem zLFnOrdersx0 {p : Prop} (h : p := by repeat (first | (with_reducible first | exact HI825.out | apply IsS49.alloc | apply IsS49.drewN | apply IsS49.drew | apply IsS49.set_1 | apply IsS49.set_2) | exact HI825.out)) : p := h
theorem zLFnOrdersx1 {p : Prop} (h : p := by repeat (first | (with_reducible first | exact HB.out | apply below_alloc | apply pw_below_drewN | apply below_drew1 | refine below_set ?_ (IsS49.ge HI825.out)) | exact HB.out)) : p := h
attribute [local go_sem] max2_int min2_int max_two min_two max_three min_three max_four min_four   -- for this text's walks alone
set_option linter.unusedVariables false
set_option linter.unusedSimpArgs false
mutual
def laws_FnOrders.j0 : Nat → List Int → List Int → List Int → Int → Bool → Option (Bool)
 | 0, _, _, _, _, _ => none
 | k + 1, x0, x3, x4, x5, x51 => if x51 = true then (some false) else (if x5 = 0 then ((impl_ClosureOfRelation.f k x4).bind fun bt799 => ((impl_ConverseOf.f k x3).bind fun bt803 => ((impl_ConverseOf.f k bt803.1).bind fun bt807 => (if bt799.2 = 0 then (if bt803.2 = 0 then (if bt807.2 = 0 then ((laws_likeInts.f k bt799.1 x3).bind fun t811 => (if t811 = true then ((laws_likeInts.f k bt807.1 x3).bind fun t812 => (if t812 = true then ((impl_IsOrder.f k bt803.1).bind fun t813 => (laws_FnOrders.j1 k x0 x3 (!t813))) else (laws_FnOrders.j1 k x0 x3 true))) else (laws_FnOrders.j1 k x0 x3 true))) else (laws_FnOrders.j1 k x0 x3 true)) else (laws_FnOrders.j1 k x0 x3 true)) else (laws_FnOrders.j1 k x0 x3 true))))) else (some true))
def laws_FnOrders.j1 : Nat → List Int → List Int → Bool → Option (Bool)
 | 0, _, _, _ => none
 | k + 1, x0, x3, x95 => if x95 = true then (some false) else ((impl_DownsetsOf.f k x3).bind fun bt814 => (if bt814.2 = 0 then (if (bt814.1.length : Int) = 0 then (some false) else ((laws_roll.f k x0 501).bind fun bt822 => (laws_FnOrders.l0 k x3 bt814.1 0 bt822.1 bt822.2.1 bt822.2.2))) else ((spec_DownsetsOf.f k x3).bind fun bt818 => (if bt814.2 = 3 then (some (bt818.2 == bt814.2)) else (some false)))))
def laws_FnOrders.l0 : Nat → List Int → List Int → Int → List Int → Int → Int → Option (Bool)
 | 0, _, _, _, _, _, _ => none
 | k + 1, x3, x14, x19, x826000, x826001, x826002 => if x19 < 8 then ((laws_dice_below.f x826000 x826001 x826002 (x14.length : Int)).bind fun bt828 => (if 0 ≤ bt828.1 then (if bt828.1 < (x14.length : Int) then ((laws_dice_below.f x826000 bt828.2.1 bt828.2.2 (x14.length : Int)).bind fun bt832 => (if 0 ≤ bt832.1 then (if bt832.1 < (x14.length : Int) then ((laws_hasInt.f k x14 (Go.bits .or .i64 (rd x14 bt828.1) (rd x14 bt832.1))).bind fun t836 => (if t836 = true then ((laws_hasInt.f k x14 (Go.bits .and .i64 (rd x14 bt828.1) (rd x14 bt832.1))).bind fun t837 => (if t837 = true then (laws_FnOrders.l0 k x3 x14 (wrap64 (x19 + 1)) x826000 bt832.2.1 bt832.2.2) else (some false))) else (some false))) else (none)) else (none))) else (none)) else (none))) else (if 0 < (x14.length : Int) then (if (rd x14 0) = 0 then (if 0 ≤ (wrap64 ((x14.length : Int) - 1)) then (if (wrap64 ((x14.length : Int) - 1)) < (x14.length : Int) then (if 0 ≤ (IntKind.u64.wrap ((x3.length : Int))) then (some ((rd x14 (wrap64 ((x14.length : Int) - 1))) == (wrap64 ((shl .i64 1 (IntKind.u64.wrap ((x3.length : Int)))) - 1)))) else (none)) else (none)) else (none)) else (some false)) else (none))
end
def laws_FnOrders.f (k : Nat) (l0 : List Int) : Option (Bool) := (laws_big.f l0).bind fun t784 => (if t784 = true then (some true) else ((spec_DrawDownsetsOf.f k l0).bind fun t785 => ((impl_CoversOf.f k t785).bind fun bt788 => ((spec_CoversOf.f k t785).bind fun bt792 => (if bt788.2 = bt792.2 then ((laws_likeInts.f k bt788.1 bt792.1).bind fun t796 => (if t796 = true then ((impl_IsOrder.f k t785).bind fun t797 => ((spec_IsOrder.f k t785).bind fun t798 => (laws_FnOrders.j0 k l0 t785 bt788.1 bt788.2 (t797 != t798)))) else (laws_FnOrders.j0 k l0 t785 bt788.1 bt788.2 true))) else (laws_FnOrders.j0 k l0 t785 bt788.1 bt788.2 true))))))
def laws_FnOrders.T25 : Bool × List (List Nat × List Nat) := (true, [([], []), ([], []), ([], []), ([2], [2]), ([1, 3], [1, 3]), ([0, 4], [0, 4]), ([5], [5]), ([], []), ([], []), ([], []), ([9], [9]), ([8, 10, 4], [8, 10]), ([7, 11], [7, 11]), ([12], [12]), ([6, 11, 0, 1, 2, 3, 4, 5, 6], [6]), ([13, 14, 0, 1, 2, 3, 4, 5, 6, 7, 8, 9, 10, 11, 12, 13, 14], [13])])
def laws_FnOrders.B25 : List Nat := [0, 0, 0, 4, 14, 31, 63, 0, 0, 0, 512, 1822, 3998, 8094, 3967, 32767]
theorem laws_FnOrders.tab25 : rtab .any (opsOf Tryd.f7 25) = laws_FnOrders.T25 := by kernel_rfl
theorem laws_FnOrders.bits25 : waitsOk laws_FnOrders.T25.2 laws_FnOrders.B25 = true := by kernel_rfl
set_option maxHeartbeats 8000000 in
set_option maxRecDepth 100000 in
theorem laws_FnOrders.calls (k : Nat) (A0 : Option Addr) (c0 : Nat) (l0 : List Int) (r : Bool) (w : World) (hr0 : Kd.C (Kd.int .u8) w A0 l0.length l0) (hc0 : l0.length ≤ c0) (hT : TabW w) (h : laws_FnOrders.f k l0 = some r) :
  Calls Tryd.prog 7 #[.slice A0 l0.length c0] w fun e w' => e = .returned (.bool r) ∧ Below w.heap.size w w' := by
 have HT := Aside0.mk hT; clear hT; have HR0 := Aside0.mk hr0; have HC0 := Aside0.mk hc0; clear hr0 hc0; have HB := Aside0.mk (Below.refl w.heap.size w)
 have H : ((laws_big.f l0).bind fun t784 => (if t784 = true then (some true) else ((spec_DrawDownsetsOf.f k l0).bind fun t785 => ((impl_CoversOf.f k t785).bind fun bt788 => ((spec_CoversOf.f k t785).bind fun bt792 => (if bt788.2 = bt792.2 then ((laws_likeInts.f k bt788.1 bt792.1).bind fun t796 => (if t796 = true then ((impl_IsOrder.f k t785).bind fun t797 => ((spec_IsOrder.f k t785).bind fun t798 => (laws_FnOrders.j0 k l0 t785 bt788.1 bt788.2 (t797 != t798)))) else (laws_FnOrders.j0 k l0 t785 bt788.1 bt788.2 true))) else (laws_FnOrders.j0 k l0 t785 bt788.1 bt788.2 true))))))) = some r := h
 clear h; replace H := Option.bind_eq_some_iff.mp H; obtain ⟨t784, A20, H⟩ := H
 replace H : (if t784 = true then (some true) else ((spec_DrawDownsetsOf.f k l0).bind fun t785 => ((impl_CoversOf.f k t785).bind fun bt788 => ((spec_CoversOf.f k t785).bind fun bt792 => (if bt788.2 = bt792.2 then ((laws_likeInts.f k bt788.1 bt792.1).bind fun t796 => (if t796 = true then ((impl_IsOrder.f k t785).bind fun t797 => ((spec_IsOrder.f k t785).bind fun t798 => (laws_FnOrders.j0 k l0 t785 bt788.1 bt788.2 (t797 != t798)))) else (laws_FnOrders.j0 k l0 t785 bt788.1 bt788.2 true))) else (laws_FnOrders.j0 k l0 t785 bt788.1 bt788.2 true)))))) = some r := H
 have A2 := Aside0.mk A20; clear A20
 by_cases c3 : t784 = true
 ·subst c3
  have H1 : (some true) = some r := by rw [if_pos rfl] at H; exact H
  clear H; have H := H1; clear H1
  obtain rfl := Option.some.inj H
  go_enter Tryd.func7, Tryd.ntmps7
  go_wp2_with (first | ((with_reducible refine gate_callee (f := 16) rfl ?_); refine goesL_ (some 23) rfl rfl Tryd.func16 (by kernel_rfl) rfl #[.slice A0 l0.length c0] rfl lz ?_; (with_reducible refine (laws_big.calls _ _ l0 true _ ?side1 ?side2 A2.out).mono ?_); (case side1 => have q_ := Aside0.mk HR0.out; exact cQ q_); (case side2 => exact HC0.out); rintro e w' ⟨rfl, ⟨nd, rfl⟩⟩; refine ⟨_, rfl, ?_⟩))
  go_ret
  exact ⟨rz, beQ HB⟩
 ·replace c3 := Bool.eq_false_iff.mpr c3
  subst c3
  have H1 : ((spec_DrawDownsetsOf.f k l0).bind fun t785 => ((impl_CoversOf.f k t785).bind fun bt788 => ((spec_CoversOf.f k t785).bind fun bt792 => (if bt788.2 = bt792.2 then ((laws_likeInts.f k bt788.1 bt792.1).bind fun t796 => (if t796 = true then ((impl_IsOrder.f k t785).bind fun t797 => ((spec_IsOrder.f k t785).bind fun t798 => (laws_FnOrders.j0 k l0 t785 bt788.1 bt788.2 (t797 != t798)))) else (laws_FnOrders.j0 k l0 t785 bt788.1 bt788.2 true))) else (laws_FnOrders.j0 k l0 t785 bt788.1 bt788.2 true))))) = some r := by rw [if_neg (show ¬ (false = true) by decide)] at H; exact H
  clear H; have H := H1; clear H1; replace H := Option.bind_eq_some_iff.mp H; obtain ⟨t785, A40, H⟩ := H
  replace H : ((impl_CoversOf.f k t785).bind fun bt788 => ((spec_CoversOf.f k t785).bind fun bt792 => (if bt788.2 = bt792.2 then ((laws_likeInts.f k bt788.1 bt792.1).bind fun t796 => (if t796 = true then ((impl_IsOrder.f k t785).bind fun t797 => ((spec_IsOrder.f k t785).bind fun t798 => (laws_FnOrders.j0 k l0 t785 bt788.1 bt788.2 (t797 != t798)))) else (laws_FnOrders.j0 k l0 t785 bt788.1 bt788.2 true))) else (laws_FnOrders.j0 k l0 t785 bt788.1 bt788.2 true)))) = some r := H
  have A4 := Aside0.mk A40; clear A40; replace H := Option.bind_eq_some_iff.mp H
  obtain ⟨⟨t788, t789⟩, A50, H⟩ := H
  replace H : ((spec_CoversOf.f k t785).bind fun bt792 => (if t789 = bt792.2 then ((laws_likeInts.f k t788 bt792.1).bind fun t796 => (if t796 = true then ((impl_IsOrder.f k t785).bind fun t797 => ((spec_IsOrder.f k t785).bind fun t798 => (laws_FnOrders.j0 k l0 t785 t788 t789 (t797 != t798)))) else (laws_FnOrders.j0 k l0 t785 t788 t789 true))) else (laws_FnOrders.j0 k l0 t785 t788 t789 true))) = some r := H
  have A5 := Aside0.mk A50; clear A50; replace H := Option.bind_eq_some_iff.mp H
  obtain ⟨⟨t792, t793⟩, A60, H⟩ := H
  replace H : (if t789 = t793 then ((laws_likeInts.f k t788 t792).bind fun t796 => (if t796 = true then ((impl_IsOrder.f k t785).bind fun t797 => ((spec_IsOrder.f k t785).bind fun t798 => (laws_FnOrders.j0 k l0 t785 t788 t789 (t797 != t798)))) else (laws_FnOrders.j0 k l0 t785 t788 t789 true))) else (laws_FnOrders.j0 k l0 t785 t788 t789 true)) = some r := H
  have A6 := Aside0.mk A60; clear A60; have HC7 := Aside0.mk H; clear H
  go_enter Tryd.func7, Tryd.ntmps7
  go_upto_region 6 with (first | ((with_reducible refine gate_callee (f := 16) rfl ?_); refine goesL_ (some 23) rfl rfl Tryd.func16 (by kernel_rfl) rfl #[.slice A0 l0.length c0] rfl lz ?_; (with_reducible refine (laws_big.calls _ _ l0 false _ ?side1 ?side2 A2.out).mono ?_); (case side1 => have q_ := Aside0.mk HR0.out; exact cQ q_); (case side2 => exact HC0.out); rintro e w' ⟨rfl, ⟨nd, rfl⟩⟩; refine ⟨_, rfl, ?_⟩) | ((with_reducible refine gate_callee (f := 23) rfl ?_); refine goesL_ (some 25) rfl rfl Tryd.func23 (by kernel_rfl) rfl #[.slice A0 l0.length c0] rfl lz ?_; (with_reducible refine (spec_DrawDownsetsOf.calls k _ _ l0 t785 _ ?side1 ?side2 A4.out).mono ?_); (case side1 => have q_ := Aside0.mk HR0.out; exact cQ q_); (case side2 => exact HC0.out); rintro e w8 ⟨v786, rfl, ho0, hb⟩; refine ⟨_, rfl, ?_⟩; have HO787 := Aside0.mk (Kd.R_lower ho0 (below_size (beQ HB))); replace HB := Aside0.mk (below_step (beQ HB) hb); (try clear hb); (try clear hb2); (try clear hk); (try clear hi); (try clear hgw_); (try clear ho0); obtain ⟨Ao9, co9, eo9⟩ := Kd.R_slice HO787.out; subst eo9) | ((with_reducible refine gate_callee (f := 24) rfl ?_); refine goesL_ (some 28) rfl rfl Tryd.func24 (by kernel_rfl) rfl #[.slice Ao9 t785.length co9] rfl lz ?_; (with_reducible refine (impl_CoversOf.calls k _ _ t785 t788 t789 _ ?side1 ?side2 ?side3 A5.out).mono ?_); (case side1 => have q_ := Aside0.mk (Kd.R_reads' HO787.out).2.2; exact cQ q_); (case side2 => exact (Kd.R_reads' HO787.out).2.1); (case side3 => exact TabW.below HT.out (beQ HB)); rintro e w10 ⟨v790, rfl, ho0, hb⟩; refine ⟨_, rfl, ?_⟩; have HO791 := Aside0.mk (Kd.R_lower (Kd.R_new' ho0 (Kd.R_lt (kdQ HO787))) (below_size (beQ HB))); replace HO787 := Aside0.mk (Kd.R_elder' (kdQ HO787) (Kd.R_base ho0) hb); replace HB := Aside0.mk (below_step (beQ HB) hb); (try clear hb); (try clear hb2); (try clear hk); (try clear hi); (try clear hgw_); (try clear ho0)) | ((with_reducible refine gate_callee (f := 25) rfl ?_); refine goesL_ (some 33) rfl rfl Tryd.func25 (by kernel_rfl) rfl #[.slice Ao9 t785.length co9] rfl lz ?_; (with_reducible refine (spec_CoversOf.calls k _ _ t785 t792 t793 _ ?side1 ?side2 A6.out).mono ?_); (case side1 => have q_ := Aside0.mk (Kd.R_reads' HO787.out).2.2; exact cQ q_); (case side2 => exact (Kd.R_reads' HO787.out).2.1); rintro e w11 ⟨v794, rfl, ho0, hb⟩; refine ⟨_, rfl, ?_⟩; have HO795 := Aside0.mk (Kd.R_lower (Kd.R_new' (Kd.R_new' ho0 (Kd.R_lt (kdQ HO787))) (Kd.R_lt (kdQ HO791))) (below_size (beQ HB))); replace HO787 := Aside0.mk (Kd.R_elder' (kdQ HO787) (Kd.R_base ho0) hb); replace HO791 := Aside0.mk (Kd.R_elder' (kdQ HO791) (Kd.R_base ho0) hb); replace HB := Aside0.mk (below_step (beQ HB) hb); (try clear hb); (try clear hb2); (try clear hk); (try clear hi); (try clear hgw_); (try clear ho0)))
  (try simp only [Act.put, List.setIfInBounds_toArray, List.set_cons_zero, List.set_cons_succ])
  go_cut [51] (fun v51 wc => ∃ (kq : Nat) (x51_6 : Bool), v51 = .bool x51_6 ∧ Aside0 (laws_FnOrders.j0 kq l0 t785 t788 t789 x51_6 = some r) ∧ Aside0 (kq ≤ k) ∧ Aside0 (Kd.R (Kd.int .i64) 2 wc w.heap.size (fun k_ => some k_ ≠ (v790 : Value).ownBlock) (.slice Ao9 t785.length co9) t785) ∧ Aside0 (Kd.R (Kd.int .i64) 2 wc w.heap.size (fun k_ => some k_ ≠ ((.slice Ao9 t785.length co9) : Value).ownBlock) v790 t788) ∧ Aside0 (Below w.heap.size w wc))
  case first =>
   have H := HC7.out; clear HC7
   by_cases c12 : t789 = t793
   ·rw [if_pos c12] at H
    have c12b0 : (t789 == t793) = true := beq_iff_eq.mpr c12
    have c12b1 : (t789 != t793) = false := bne_eq_false_iff_eq.mpr c12
    clear c12
    (first | rw [c12b0] | (simp only [i64_w, i32_w]; rw [c12b0]) | skip)
    replace H := Option.bind_eq_some_iff.mp H; obtain ⟨t796, A130, H⟩ := H
    replace H : (if t796 = true then ((impl_IsOrder.f k t785).bind fun t797 => ((spec_IsOrder.f k t785).bind fun t798 => (laws_FnOrders.j0 k l0 t785 t788 t789 (t797 != t798)))) else (laws_FnOrders.j0 k l0 t785 t788 t789 true)) = some r := H
    have A13 := Aside0.mk A130; clear A130
    by_cases c14 : t796 = true
    ·subst c14
     have H1 : ((impl_IsOrder.f k t785).bind fun t797 => ((spec_IsOrder.f k t785).bind fun t798 => (laws_FnOrders.j0 k l0 t785 t788 t789 (t797 != t798)))) = some r := by rw [if_pos rfl] at H; exact H
     clear H; have H := H1; clear H1; replace H := Option.bind_eq_some_iff.mp H; obtain ⟨t797, A150, H⟩ := H
     replace H : ((spec_IsOrder.f k t785).bind fun t798 => (laws_FnOrders.j0 k l0 t785 t788 t789 (t797 != t798))) = some r := H
     have A15 := Aside0.mk A150; clear A150; replace H := Option.bind_eq_some_iff.mp H; obtain ⟨t798, A160, H⟩ := H
     replace H : (laws_FnOrders.j0 k l0 t785 t788 t789 (t797 != t798)) = some r := H
     have A16 := Aside0.mk A160; clear A160
     have H' := Aside0.mk H
     clear H; obtain ⟨Ao17, co17, eo17⟩ := Kd.R_slice HO791.out; subst eo17; obtain ⟨Ao18, co18, eo18⟩ := Kd.R_slice HO795.out; subst eo18
     go_wp2_with (first | (go_at_call 18; (with_reducible refine (laws_likeInts.calls k _ _ t788 _ _ t792 true _ ?side1 ?side2 ?side3 ?side4 A13.out).mono ?_); (case side1 => have q_ := Aside0.mk (Kd.R_reads' HO791.out).2.2; exact cQ q_); (case side2 => exact (Kd.R_reads' HO791.out).2.1); (case side3 => have q_ := Aside0.mk (Kd.R_reads' HO795.out).2.2; exact cQ q_); (case side4 => exact (Kd.R_reads' HO795.out).2.1); rintro e w' ⟨rfl, ⟨nd, rfl⟩⟩) | (go_at_call 26; (with_reducible refine (impl_IsOrder.calls k _ _ t785 t797 _ ?side1 ?side2 ?side3 A15.out).mono ?_); (case side1 => have q_ := Aside0.mk (Kd.R_reads' HO787.out).2.2; exact cQ q_); (case side2 => exact (Kd.R_reads' HO787.out).2.1); (case side3 => exact TabW.below HT.out (beQ HB)); rintro e w19 ⟨rfl, hb⟩; replace HO787 := kb HO787 hb; replace HO791 := kb HO791 hb; replace HO795 := kb HO795 hb; replace HB := Aside0.mk (below_step (beQ HB) hb); (try clear hb); (try clear hb2); (try clear hk); (try clear hi); (try clear hgw_)) | (go_at_call 27; (with_reducible refine (spec_IsOrder.calls k _ _ t785 t798 _ ?side1 ?side2 A16.out).mono ?_); (case side1 => have q_ := Aside0.mk (Kd.R_reads' HO787.out).2.2; exact cQ q_); (case side2 => exact (Kd.R_reads' HO787.out).2.1); rintro e w' ⟨rfl, ⟨nd, rfl⟩⟩))
     go_meet
     case rel => exact ⟨_, ((t797 != t798)), sz, H', ⟨by first | omega | exact Nat.le_refl _⟩, ⟨by (with_reducible repeat (first | apply Kd.R_alloc | apply Kd.R_drewN | apply Kd.R_drew)); exact Kd.R_mono HO787.out (fun _ hk => hk.1.2)⟩, ⟨by (with_reducible repeat (first | apply Kd.R_alloc | apply Kd.R_drewN | apply Kd.R_drew)); exact Kd.R_mono HO791.out (fun _ hk => hk.1.2)⟩, ⟨beQ HB⟩⟩
    ·replace c14 := Bool.eq_false_iff.mpr c14
     subst c14
     have H1 : (laws_FnOrders.j0 k l0 t785 t788 t789 true) = some r := by rw [if_neg (show ¬ (false = true) by decide)] at H; exact H
     clear H; have H := H1; clear H1
     have H' := Aside0.mk H
     clear H; obtain ⟨Ao20, co20, eo20⟩ := Kd.R_slice HO791.out; subst eo20; obtain ⟨Ao21, co21, eo21⟩ := Kd.R_slice HO795.out; subst eo21
     go_wp2_with (first | (go_at_call 18; (with_reducible refine (laws_likeInts.calls k _ _ t788 _ _ t792 false _ ?side1 ?side2 ?side3 ?side4 A13.out).mono ?_); (case side1 => have q_ := Aside0.mk (Kd.R_reads' HO791.out).2.2; exact cQ q_); (case side2 => exact (Kd.R_reads' HO791.out).2.1); (case side3 => have q_ := Aside0.mk (Kd.R_reads' HO795.out).2.2; exact cQ q_); (case side4 => exact (Kd.R_reads' HO795.out).2.1); rintro e w' ⟨rfl, ⟨nd, rfl⟩⟩))
     go_meet
     case rel => exact ⟨_, (true), sz, H', ⟨by first | omega | exact Nat.le_refl _⟩, ⟨by (with_reducible repeat (first | apply Kd.R_alloc | apply Kd.R_drewN | apply Kd.R_drew)); exact Kd.R_mono HO787.out (fun _ hk => hk.1.2)⟩, ⟨by (with_reducible repeat (first | apply Kd.R_alloc | apply Kd.R_drewN | apply Kd.R_drew)); exact Kd.R_mono HO791.out (fun _ hk => hk.1.2)⟩, ⟨beQ HB⟩⟩
   ·rw [if_neg c12] at H
    have c12b0 : (t789 == t793) = false := beq_eq_false_iff_ne.mpr c12
    have c12b1 : (t789 != t793) = true := bne_iff_ne.mpr c12
    (first | rw [c12b0] | (simp only [i64_w, i32_w]; rw [c12b0]) | skip)
    have H' := Aside0.mk H
    clear H
    go_wp2
    go_meet
    case rel => exact ⟨_, (true), sz, H', ⟨by first | omega | exact Nat.le_refl _⟩, ⟨by (with_reducible repeat (first | apply Kd.R_alloc | apply Kd.R_drewN | apply Kd.R_drew)); exact Kd.R_mono HO787.out (fun _ hk => hk.1.2)⟩, ⟨by (with_reducible repeat (first | apply Kd.R_alloc | apply Kd.R_drewN | apply Kd.R_drew)); exact Kd.R_mono HO791.out (fun _ hk => hk.1.2)⟩, ⟨beQ HB⟩⟩
  case rest =>
   clear HC7
   try clear c1
   try clear c2
   try clear p2
   try clear c3
   try clear c7
   try clear c12
   try clear c12b0
   try clear c12b1
   try clear c14
   try clear c16
   obtain ⟨kq, x51_6, rfl, HA, HJ6, HO_3, HO_4, HB⟩ := hcut
   cases kq with
   | zero => exact absurd HA.out (by simp [laws_FnOrders.j0])
   | succ kj6 =>
    have H := HA.out; clear HA
    simp only [laws_FnOrders.j0] at H
    by_cases c22 : x51_6 = true
    ·subst c22
     have H1 : (some false) = some r := by rw [if_pos rfl] at H; exact H
     clear H; have H := H1; clear H1
     obtain rfl := Option.some.inj H
     go_wp2
     go_ret
     exact ⟨rz, beQ HB⟩
    ·replace c22 := Bool.eq_false_iff.mpr c22
     subst c22
     have H1 : (if t789 = 0 then ((impl_ClosureOfRelation.f kj6 t788).bind fun bt799 => ((impl_ConverseOf.f kj6 t785).bind fun bt803 => ((impl_ConverseOf.f kj6 bt803.1).bind fun bt807 => (if bt799.2 = 0 then (if bt803.2 = 0 then (if bt807.2 = 0 then ((laws_likeInts.f kj6 bt799.1 t785).bind fun t811 => (if t811 = true then ((laws_likeInts.f kj6 bt807.1 t785).bind fun t812 => (if t812 = true then ((impl_IsOrder.f kj6 bt803.1).bind fun t813 => (laws_FnOrders.j1 kj6 l0 t785 (!t813))) else (laws_FnOrders.j1 kj6 l0 t785 true))) else (laws_FnOrders.j1 kj6 l0 t785 true))) else (laws_FnOrders.j1 kj6 l0 t785 true)) else (laws_FnOrders.j1 kj6 l0 t785 true)) else (laws_FnOrders.j1 kj6 l0 t785 true))))) else (some true)) = some r := by rw [if_neg (show ¬ (false = true) by decide)] at H; exact H
     clear H; have H := H1; clear H1
     by_cases c23 : t789 = 0
     ·rw [if_pos c23] at H
      have c23b0 : (t789 == 0) = true := beq_iff_eq.mpr c23
      have c23b1 : (t789 != 0) = false := bne_eq_false_iff_eq.mpr c23
      clear c23; replace H := Option.bind_eq_some_iff.mp H
      obtain ⟨⟨t799, t800⟩, A240, H⟩ := H
      replace H : ((impl_ConverseOf.f kj6 t785).bind fun bt803 => ((impl_ConverseOf.f kj6 bt803.1).bind fun bt807 => (if t800 = 0 then (if bt803.2 = 0 then (if bt807.2 = 0 then ((laws_likeInts.f kj6 t799 t785).bind fun t811 => (if t811 = true then ((laws_likeInts.f kj6 bt807.1 t785).bind fun t812 => (if t812 = true then ((impl_IsOrder.f kj6 bt803.1).bind fun t813 => (laws_FnOrders.j1 kj6 l0 t785 (!t813))) else (laws_FnOrders.j1 kj6 l0 t785 true))) else (laws_FnOrders.j1 kj6 l0 t785 true))) else (laws_FnOrders.j1 kj6 l0 t785 true)) else (laws_FnOrders.j1 kj6 l0 t785 true)) else (laws_FnOrders.j1 kj6 l0 t785 true)))) = some r := H
      have A24 := Aside0.mk A240; clear A240; replace H := Option.bind_eq_some_iff.mp H
      obtain ⟨⟨t803, t804⟩, A250, H⟩ := H
      replace H : ((impl_ConverseOf.f kj6 t803).bind fun bt807 => (if t800 = 0 then (if t804 = 0 then (if bt807.2 = 0 then ((laws_likeInts.f kj6 t799 t785).bind fun t811 => (if t811 = true then ((laws_likeInts.f kj6 bt807.1 t785).bind fun t812 => (if t812 = true then ((impl_IsOrder.f kj6 t803).bind fun t813 => (laws_FnOrders.j1 kj6 l0 t785 (!t813))) else (laws_FnOrders.j1 kj6 l0 t785 true))) else (laws_FnOrders.j1 kj6 l0 t785 true))) else (laws_FnOrders.j1 kj6 l0 t785 true)) else (laws_FnOrders.j1 kj6 l0 t785 true)) else (laws_FnOrders.j1 kj6 l0 t785 true))) = some r := H
      have A25 := Aside0.mk A250; clear A250; replace H := Option.bind_eq_some_iff.mp H
      obtain ⟨⟨t807, t808⟩, A260, H⟩ := H
      replace H : (if t800 = 0 then (if t804 = 0 then (if t808 = 0 then ((laws_likeInts.f kj6 t799 t785).bind fun t811 => (if t811 = true then ((laws_likeInts.f kj6 t807 t785).bind fun t812 => (if t812 = true then ((impl_IsOrder.f kj6 t803).bind fun t813 => (laws_FnOrders.j1 kj6 l0 t785 (!t813))) else (laws_FnOrders.j1 kj6 l0 t785 true))) else (laws_FnOrders.j1 kj6 l0 t785 true))) else (laws_FnOrders.j1 kj6 l0 t785 true)) else (laws_FnOrders.j1 kj6 l0 t785 true)) else (laws_FnOrders.j1 kj6 l0 t785 true)) = some r := H
      have A26 := Aside0.mk A260; clear A260; have HC27 := Aside0.mk H; clear H; obtain ⟨Ao28, co28, eo28⟩ := Kd.R_slice HO_4.out; subst eo28
      go_upto_region 13 with (first | ((with_reducible refine gate_callee (f := 28) rfl ?_); refine goesL_ (some 56) rfl rfl Tryd.func28 (by kernel_rfl) rfl #[.slice Ao28 t788.length co28] rfl lz ?_; (with_reducible refine (impl_ClosureOfRelation.calls kj6 _ _ t788 t799 t800 _ ?side1 ?side2 A24.out).mono ?_); (case side1 => have q_ := Aside0.mk (Kd.R_reads' HO_4.out).2.2; exact cQ q_); (case side2 => exact (Kd.R_reads' HO_4.out).2.1); rintro e w29 ⟨v801, rfl, ho0, hb⟩; refine ⟨_, rfl, ?_⟩; have HO802 := Aside0.mk (Kd.R_lower (Kd.R_new' (Kd.R_new' ho0 (Kd.R_lt (kdQ HO_3))) (Kd.R_lt (kdQ HO_4))) (below_size (beQ HB))); replace HO_3 := Aside0.mk (Kd.R_elder' (kdQ HO_3) (Kd.R_base ho0) hb); replace HO_4 := Aside0.mk (Kd.R_elder' (kdQ HO_4) (Kd.R_base ho0) hb); replace HB := Aside0.mk (below_step (beQ HB) hb); (try clear hb); (try clear hb2); (try clear hk); (try clear hi); (try clear hgw_); (try clear ho0)) | ((with_reducible refine gate_callee (f := 29) rfl ?_); refine goesL_ (some 61) rfl rfl Tryd.func29 (by kernel_rfl) rfl #[.slice Ao9 t785.length co9] rfl lz ?_; (with_reducible refine (impl_ConverseOf.calls kj6 _ _ t785 t803 t804 _ ?side1 ?side2 ?side3 A25.out).mono ?_); (case side1 => have q_ := Aside0.mk (Kd.R_reads' HO_3.out).2.2; exact cQ q_); (case side2 => exact (Kd.R_reads' HO_3.out).2.1); (case side3 => exact TabW.below HT.out (beQ HB)); rintro e w30 ⟨v805, rfl, ho0, hb⟩; refine ⟨_, rfl, ?_⟩; have HO806 := Aside0.mk (Kd.R_lower (Kd.R_new' (Kd.R_new' (Kd.R_new' ho0 (Kd.R_lt (kdQ HO_3))) (Kd.R_lt (kdQ HO_4))) (Kd.R_lt (kdQ HO802))) (below_size (beQ HB))); replace HO_3 := Aside0.mk (Kd.R_elder' (kdQ HO_3) (Kd.R_base ho0) hb); replace HO_4 := Aside0.mk (Kd.R_elder' (kdQ HO_4) (Kd.R_base ho0) hb); replace HO802 := Aside0.mk (Kd.R_elder' (kdQ HO802) (Kd.R_base ho0) hb); replace HB := Aside0.mk (below_step (beQ HB) hb); (try clear hb); (try clear hb2); (try clear hk); (try clear hi); (try clear hgw_); (try clear ho0); obtain ⟨Ao31, co31, eo31⟩ := Kd.R_slice HO806.out; subst eo31) | ((with_reducible refine gate_callee (f := 29) rfl ?_); refine goesL_ (some 66) rfl rfl Tryd.func29 (by kernel_rfl) rfl #[.slice Ao31 t803.length co31] rfl lz ?_; (with_reducible refine (impl_ConverseOf.calls kj6 _ _ t803 t807 t808 _ ?side1 ?side2 ?side3 A26.out).mono ?_); (case side1 => have q_ := Aside0.mk (Kd.R_reads' HO806.out).2.2; exact cQ q_); (case side2 => exact (Kd.R_reads' HO806.out).2.1); (case side3 => exact TabW.below HT.out (beQ HB)); rintro e w32 ⟨v809, rfl, ho0, hb⟩; refine ⟨_, rfl, ?_⟩; have HO810 := Aside0.mk (Kd.R_lower (Kd.R_new' (Kd.R_new' (Kd.R_new' (Kd.R_new' ho0 (Kd.R_lt (kdQ HO_3))) (Kd.R_lt (kdQ HO_4))) (Kd.R_lt (kdQ HO802))) (Kd.R_lt (kdQ HO806))) (below_size (beQ HB))); replace HO_3 := Aside0.mk (Kd.R_elder' (kdQ HO_3) (Kd.R_base ho0) hb); replace HO_4 := Aside0.mk (Kd.R_elder' (kdQ HO_4) (Kd.R_base ho0) hb); replace HO802 := Aside0.mk (Kd.R_elder' (kdQ HO802) (Kd.R_base ho0) hb); replace HO806 := Aside0.mk (Kd.R_elder' (kdQ HO806) (Kd.R_base ho0) hb); replace HB := Aside0.mk (below_step (beQ HB) hb); (try clear hb); (try clear hb2); (try clear hk); (try clear hi); (try clear hgw_); (try clear ho0)))
      (try simp only [Act.put, List.setIfInBounds_toArray, List.set_cons_zero, List.set_cons_succ])
      go_cut [95] (fun v95 wc => ∃ (kq : Nat) (x95_26 : Bool), v95 = .bool x95_26 ∧ Aside0 (laws_FnOrders.j1 kq l0 t785 x95_26 = some r) ∧ Aside0 (kq ≤ kj6) ∧ Aside0 (Kd.R (Kd.int .i64) 2 wc w.heap.size (fun _ => True) (.slice Ao9 t785.length co9) t785) ∧ Aside0 (Below w.heap.size w wc))
      case first =>
       have H := HC27.out; clear HC27
       by_cases c33 : t800 = 0
       ·rw [if_pos c33] at H
        have c33b0 : (t800 == 0) = true := beq_iff_eq.mpr c33
        have c33b1 : (t800 != 0) = false := bne_eq_false_iff_eq.mpr c33
        clear c33
        (first | rw [c33b0] | (simp only [i64_w, i32_w]; rw [c33b0]) | skip)
        by_cases c34 : t804 = 0
        ·rw [if_pos c34] at H
         have c34b0 : (t804 == 0) = true := beq_iff_eq.mpr c34
         have c34b1 : (t804 != 0) = false := bne_eq_false_iff_eq.mpr c34
         clear c34
         by_cases c35 : t808 = 0
         ·rw [if_pos c35] at H
          have c35b0 : (t808 == 0) = true := beq_iff_eq.mpr c35
          have c35b1 : (t808 != 0) = false := bne_eq_false_iff_eq.mpr c35
          clear c35; replace H := Option.bind_eq_some_iff.mp H; obtain ⟨t811, A360, H⟩ := H
          replace H : (if t811 = true then ((laws_likeInts.f kj6 t807 t785).bind fun t812 => (if t812 = true then ((impl_IsOrder.f kj6 t803).bind fun t813 => (laws_FnOrders.j1 kj6 l0 t785 (!t813))) else (laws_FnOrders.j1 kj6 l0 t785 true))) else (laws_FnOrders.j1 kj6 l0 t785 true)) = some r := H
          have A36 := Aside0.mk A360; clear A360
          by_cases c37 : t811 = true
          ·subst c37
           have H1 : ((laws_likeInts.f kj6 t807 t785).bind fun t812 => (if t812 = true then ((impl_IsOrder.f kj6 t803).bind fun t813 => (laws_FnOrders.j1 kj6 l0 t785 (!t813))) else (laws_FnOrders.j1 kj6 l0 t785 true))) = some r := by rw [if_pos rfl] at H; exact H
           clear H; have H := H1; clear H1; replace H := Option.bind_eq_some_iff.mp H; obtain ⟨t812, A380, H⟩ := H
           replace H : (if t812 = true then ((impl_IsOrder.f kj6 t803).bind fun t813 => (laws_FnOrders.j1 kj6 l0 t785 (!t813))) else (laws_FnOrders.j1 kj6 l0 t785 true)) = some r := H
           have A38 := Aside0.mk A380; clear A380
           by_cases c39 : t812 = true
           ·subst c39
            have H1 : ((impl_IsOrder.f kj6 t803).bind fun t813 => (laws_FnOrders.j1 kj6 l0 t785 (!t813))) = some r := by rw [if_pos rfl] at H; exact H
            clear H; have H := H1; clear H1; replace H := Option.bind_eq_some_iff.mp H; obtain ⟨t813, A400, H⟩ := H
            replace H : (laws_FnOrders.j1 kj6 l0 t785 (!t813)) = some r := H
            have A40 := Aside0.mk A400; clear A400
            have H' := Aside0.mk H
            clear H; obtain ⟨Ao41, co41, eo41⟩ := Kd.R_slice HO802.out; subst eo41
            go_wp2_with (first | (go_at_call 18; (with_reducible refine (laws_likeInts.calls kj6 _ _ t799 _ _ t785 true _ ?side1 ?side2 ?side3 ?side4 A36.out).mono ?_); (case side1 => have q_ := Aside0.mk (Kd.R_reads' HO802.out).2.2; exact cQ q_); (case side2 => exact (Kd.R_reads' HO802.out).2.1); (case side3 => have q_ := Aside0.mk (Kd.R_reads' HO_3.out).2.2; exact cQ q_); (case side4 => exact (Kd.R_reads' HO_3.out).2.1); rintro e w' ⟨rfl, ⟨nd, rfl⟩⟩; obtain ⟨Ao42, co42, eo42⟩ := Kd.R_slice HO810.out; subst eo42) | (go_at_call 18; (with_reducible refine (laws_likeInts.calls kj6 _ _ t807 _ _ t785 true _ ?side1 ?side2 ?side3 ?side4 A38.out).mono ?_); (case side1 => have q_ := Aside0.mk (Kd.R_reads' HO810.out).2.2; exact cQ q_); (case side2 => exact (Kd.R_reads' HO810.out).2.1); (case side3 => have q_ := Aside0.mk (Kd.R_reads' HO_3.out).2.2; exact cQ q_); (case side4 => exact (Kd.R_reads' HO_3.out).2.1); rintro e w' ⟨rfl, ⟨nd, rfl⟩⟩) | (go_at_call 26; (with_reducible refine (impl_IsOrder.calls kj6 _ _ t803 t813 _ ?side1 ?side2 ?side3 A40.out).mono ?_); (case side1 => have q_ := Aside0.mk (Kd.R_reads' HO806.out).2.2; exact cQ q_); (case side2 => exact (Kd.R_reads' HO806.out).2.1); (case side3 => exact TabW.below HT.out (beQ HB)); rintro e w43 ⟨rfl, hb⟩; replace HO_3 := kb HO_3 hb; replace HO_4 := kb HO_4 hb; replace HO802 := kb HO802 hb; replace HO806 := kb HO806 hb; replace HO810 := kb HO810 hb; replace HB := Aside0.mk (below_step (beQ HB) hb); (try clear hb); (try clear hb2); (try clear hk); (try clear hi); (try clear hgw_)))
            go_meet
            case rel => exact ⟨_, (!t813), sz, H', ⟨by have := HJ6.out; first | omega | exact Nat.le_refl _⟩, ⟨by (with_reducible repeat (first | apply Kd.R_alloc | apply Kd.R_drewN | apply Kd.R_drew)); exact Kd.R_mono HO_3.out (fun _ hk => trivial)⟩, ⟨beQ HB⟩⟩
           ·replace c39 := Bool.eq_false_iff.mpr c39
            subst c39
            have H1 : (laws_FnOrders.j1 kj6 l0 t785 true) = some r := by rw [if_neg (show ¬ (false = true) by decide)] at H; exact H
            clear H; have H := H1; clear H1
            have H' := Aside0.mk H
            clear H; obtain ⟨Ao44, co44, eo44⟩ := Kd.R_slice HO802.out; subst eo44
            go_wp2_with (first | (go_at_call 18; (with_reducible refine (laws_likeInts.calls kj6 _ _ t799 _ _ t785 true _ ?side1 ?side2 ?side3 ?side4 A36.out).mono ?_); (case side1 => have q_ := Aside0.mk (Kd.R_reads' HO802.out).2.2; exact cQ q_); (case side2 => exact (Kd.R_reads' HO802.out).2.1); (case side3 => have q_ := Aside0.mk (Kd.R_reads' HO_3.out).2.2; exact cQ q_); (case side4 => exact (Kd.R_reads' HO_3.out).2.1); rintro e w' ⟨rfl, ⟨nd, rfl⟩⟩; obtain ⟨Ao45, co45, eo45⟩ := Kd.R_slice HO810.out; subst eo45) | (go_at_call 18; (with_reducible refine (laws_likeInts.calls kj6 _ _ t807 _ _ t785 false _ ?side1 ?side2 ?side3 ?side4 A38.out).mono ?_); (case side1 => have q_ := Aside0.mk (Kd.R_reads' HO810.out).2.2; exact cQ q_); (case side2 => exact (Kd.R_reads' HO810.out).2.1); (case side3 => have q_ := Aside0.mk (Kd.R_reads' HO_3.out).2.2; exact cQ q_); (case side4 => exact (Kd.R_reads' HO_3.out).2.1); rintro e w' ⟨rfl, ⟨nd, rfl⟩⟩))
            go_meet
            case rel => exact ⟨_, (true), sz, H', ⟨by have := HJ6.out; first | omega | exact Nat.le_refl _⟩, ⟨by (with_reducible repeat (first | apply Kd.R_alloc | apply Kd.R_drewN | apply Kd.R_drew)); exact Kd.R_mono HO_3.out (fun _ hk => trivial)⟩, ⟨beQ HB⟩⟩
          ·replace c37 := Bool.eq_false_iff.mpr c37
           subst c37
           have H1 : (laws_FnOrders.j1 kj6 l0 t785 true) = some r := by rw [if_neg (show ¬ (false = true) by decide)] at H; exact H
           clear H; have H := H1; clear H1
           have H' := Aside0.mk H
           clear H; obtain ⟨Ao46, co46, eo46⟩ := Kd.R_slice HO802.out; subst eo46
           go_wp2_with (first | (go_at_call 18; (with_reducible refine (laws_likeInts.calls kj6 _ _ t799 _ _ t785 false _ ?side1 ?side2 ?side3 ?side4 A36.out).mono ?_); (case side1 => have q_ := Aside0.mk (Kd.R_reads' HO802.out).2.2; exact cQ q_); (case side2 => exact (Kd.R_reads' HO802.out).2.1); (case side3 => have q_ := Aside0.mk (Kd.R_reads' HO_3.out).2.2; exact cQ q_); (case side4 => exact (Kd.R_reads' HO_3.out).2.1); rintro e w' ⟨rfl, ⟨nd, rfl⟩⟩))
           go_meet
           case rel => exact ⟨_, (true), sz, H', ⟨by have := HJ6.out; first | omega | exact Nat.le_refl _⟩, ⟨by (with_reducible repeat (first | apply Kd.R_alloc | apply Kd.R_drewN | apply Kd.R_drew)); exact Kd.R_mono HO_3.out (fun _ hk => trivial)⟩, ⟨beQ HB⟩⟩
         ·rw [if_neg c35] at H
          have c35b0 : (t808 == 0) = false := beq_eq_false_iff_ne.mpr c35
          have c35b1 : (t808 != 0) = true := bne_iff_ne.mpr c35
          have H' := Aside0.mk H
          clear H
          go_wp2
          go_meet
          case rel => exact ⟨_, (true), sz, H', ⟨by have := HJ6.out; first | omega | exact Nat.le_refl _⟩, ⟨by (with_reducible repeat (first | apply Kd.R_alloc | apply Kd.R_drewN | apply Kd.R_drew)); exact Kd.R_mono HO_3.out (fun _ hk => trivial)⟩, ⟨beQ HB⟩⟩
        ·rw [if_neg c34] at H
         have c34b0 : (t804 == 0) = false := beq_eq_false_iff_ne.mpr c34
         have c34b1 : (t804 != 0) = true := bne_iff_ne.mpr c34
         have H' := Aside0.mk H
         clear H
         go_wp2
         go_meet
         case rel => exact ⟨_, (true), sz, H', ⟨by have := HJ6.out; first | omega | exact Nat.le_refl _⟩, ⟨by (with_reducible repeat (first | apply Kd.R_alloc | apply Kd.R_drewN | apply Kd.R_drew)); exact Kd.R_mono HO_3.out (fun _ hk => trivial)⟩, ⟨beQ HB⟩⟩
       ·rw [if_neg c33] at H
        have c33b0 : (t800 == 0) = false := beq_eq_false_iff_ne.mpr c33
        have c33b1 : (t800 != 0) = true := bne_iff_ne.mpr c33
        (first | rw [c33b0] | (simp only [i64_w, i32_w]; rw [c33b0]) | skip)
        have H' := Aside0.mk H
        clear H
        go_wp2
        go_meet
        case rel => exact ⟨_, (true), sz, H', ⟨by have := HJ6.out; first | omega | exact Nat.le_refl _⟩, ⟨by (with_reducible repeat (first | apply Kd.R_alloc | apply Kd.R_drewN | apply Kd.R_drew)); exact Kd.R_mono HO_3.out (fun _ hk => trivial)⟩, ⟨beQ HB⟩⟩
      case rest =>
       clear HC27
       try clear c1
       try clear c2
       try clear p2
       try clear c3
       try clear c7
       try clear c12
       try clear c12b0
       try clear c12b1
       try clear c14
       try clear c16
       try clear c22
       try clear c23
       try clear c23b0
       try clear c23b1
       try clear c24
       try clear c25
       try clear c28
       try clear c29
       try clear c33
       try clear c33b0
       try clear c33b1
       try clear c34
       try clear c34b0
       try clear c34b1
       try clear c35
       try clear c35b0
       try clear c35b1
       try clear c37
       try clear c39
       try clear p2
       obtain ⟨kq, x95_26, rfl, HA, HJ26, HO_3, HB⟩ := hcut
       cases kq with
       | zero => exact absurd HA.out (by simp [laws_FnOrders.j1])
       | succ kj26 =>
        have H := HA.out; clear HA
        simp only [laws_FnOrders.j1] at H
        by_cases c47 : x95_26 = true
        ·subst c47
         have H1 : (some false) = some r := by rw [if_pos rfl] at H; exact H
         clear H; have H := H1; clear H1
         obtain rfl := Option.some.inj H
         go_wp2
         go_ret
         exact ⟨rz, beQ HB⟩
        ·replace c47 := Bool.eq_false_iff.mpr c47
         subst c47
         have H1 : ((impl_DownsetsOf.f kj26 t785).bind fun bt814 => (if bt814.2 = 0 then (if (bt814.1.length : Int) = 0 then (some false) else ((laws_roll.f kj26 l0 501).bind fun bt822 => (laws_FnOrders.l0 kj26 t785 bt814.1 0 bt822.1 bt822.2.1 bt822.2.2))) else ((spec_DownsetsOf.f kj26 t785).bind fun bt818 => (if bt814.2 = 3 then (some (bt818.2 == bt814.2)) else (some false))))) = some r := by rw [if_neg (show ¬ (false = true) by decide)] at H; exact H
         clear H; have H := H1; clear H1; replace H := Option.bind_eq_some_iff.mp H
         obtain ⟨⟨t814, t815⟩, A480, H⟩ := H
         replace H : (if t815 = 0 then (if (t814.length : Int) = 0 then (some false) else ((laws_roll.f kj26 l0 501).bind fun bt822 => (laws_FnOrders.l0 kj26 t785 t814 0 bt822.1 bt822.2.1 bt822.2.2))) else ((spec_DownsetsOf.f kj26 t785).bind fun bt818 => (if t815 = 3 then (some (bt818.2 == t815)) else (some false)))) = some r := H
         have A48 := Aside0.mk A480; clear A480
         by_cases c49 : t815 = 0
         ·rw [if_pos c49] at H
          have c49b0 : (t815 == 0) = true := beq_iff_eq.mpr c49
          have c49b1 : (t815 != 0) = false := bne_eq_false_iff_eq.mpr c49
          clear c49
          by_cases c50 : (t814.length : Int) = 0
          ·rw [if_pos c50] at H
           have c50b0 : ((t814.length : Int) == 0) = true := beq_iff_eq.mpr c50
           have c50b1 : ((t814.length : Int) != 0) = false := bne_eq_false_iff_eq.mpr c50
           clear c50
           obtain rfl := Option.some.inj H
           go_wp2_with (first | ((with_reducible refine gate_callee (f := 22) rfl ?_); refine goesL_ (some 98) rfl rfl Tryd.func22 (by kernel_rfl) rfl #[.slice Ao9 t785.length co9] rfl lz ?_; (with_reducible refine (impl_DownsetsOf.calls kj26 _ _ t785 t814 t815 _ ?side1 ?side2 ?side3 A48.out).mono ?_); (case side1 => have q_ := Aside0.mk (Kd.R_reads' HO_3.out).2.2; exact cQ q_); (case side2 => exact (Kd.R_reads' HO_3.out).2.1); (case side3 => exact TabW.below HT.out (beQ HB)); rintro e w51 ⟨v816, rfl, ho0, hb⟩; refine ⟨_, rfl, ?_⟩; have HO817 := Aside0.mk (Kd.R_lower (Kd.R_new' ho0 (Kd.R_lt (kdQ HO_3))) (below_size (beQ HB))); replace HO_3 := Aside0.mk (Kd.R_elder' (kdQ HO_3) (Kd.R_base ho0) hb); replace HB := Aside0.mk (below_step (beQ HB) hb); (try clear hb); (try clear hb2); (try clear hk); (try clear hi); (try clear hgw_); (try clear ho0); obtain ⟨Ao52, co52, eo52⟩ := Kd.R_slice HO817.out; subst eo52))
           go_ret
           exact ⟨rz, beQ HB⟩
          ·rw [if_neg c50] at H
           have c50b0 : ((t814.length : Int) == 0) = false := beq_eq_false_iff_ne.mpr c50
           have c50b1 : ((t814.length : Int) != 0) = true := bne_iff_ne.mpr c50
           have c50b2 : ¬ (t814 = []) := fun h_ => c50 (by rw [h_]; rfl)
           replace H := Option.bind_eq_some_iff.mp H
           obtain ⟨⟨t822, t823, t824⟩, A530, H⟩ := H
           replace H : (laws_FnOrders.l0 kj26 t785 t814 0 t822 t823 t824) = some r := H
           have A53 := Aside0.mk A530; clear A530
           have H' := Aside0.mk H
           clear H
           go_wp2_with (first | ((with_reducible refine gate_callee (f := 22) rfl ?_); refine goesL_ (some 98) rfl rfl Tryd.func22 (by kernel_rfl) rfl #[.slice Ao9 t785.length co9] rfl lz ?_; (with_reducible refine (impl_DownsetsOf.calls kj26 _ _ t785 t814 t815 _ ?side1 ?side2 ?side3 A48.out).mono ?_); (case side1 => have q_ := Aside0.mk (Kd.R_reads' HO_3.out).2.2; exact cQ q_); (case side2 => exact (Kd.R_reads' HO_3.out).2.1); (case side3 => exact TabW.below HT.out (beQ HB)); rintro e w54 ⟨v816, rfl, ho0, hb⟩; refine ⟨_, rfl, ?_⟩; have HO817 := Aside0.mk (Kd.R_lower (Kd.R_new' ho0 (Kd.R_lt (kdQ HO_3))) (below_size (beQ HB))); replace HO_3 := Aside0.mk (Kd.R_elder' (kdQ HO_3) (Kd.R_base ho0) hb); replace HB := Aside0.mk (below_step (beQ HB) hb); (try clear hb); (try clear hb2); (try clear hk); (try clear hi); (try clear hgw_); (try clear ho0); obtain ⟨Ao55, co55, eo55⟩ := Kd.R_slice HO817.out; subst eo55) | ((with_reducible refine gate_callee (f := 30) rfl ?_); refine goesL_ (some 119) rfl rfl Tryd.func30 (by kernel_rfl) rfl #[.slice A0 l0.length c0, .int .u64 501] rfl lz ?_; (with_reducible refine (laws_roll.calls kj26 _ _ l0 501 t822 t823 t824 w _ ?side1 ?side2 ?side3 A53.out).mono ?_); (case side1 => repeat (first | (with_reducible first | exact HB.out | apply below_alloc | apply pw_below_drewN | apply below_drew1) | exact HB.out)); (case side2 => exact HR0.out); (case side3 => exact HC0.out); rintro e w56 ⟨g825, rfl, hi, hb, hb2, hgw_⟩; refine ⟨_, rfl, ?_⟩; replace HO_3 := Aside0.mk (Kd.R_below (kdQ HO_3) hb2); replace HO817 := Aside0.mk (Kd.R_below (kdQ HO817) hb2); replace HB := Aside0.mk (hb); have HI825 := Aside0.mk (hi); (try clear hb); (try clear hb2); (try clear hk); (try clear hi); (try clear hgw_)))
           go_loopg [19] kj26 (fun kq v19 w' => ∃ (x19_3 : Int) (x826001_3 : Int) (x826002_3 : Int), v19 = .int .i64 x19_3 ∧ Aside0 (laws_FnOrders.l0 kq t785 t814 x19_3 t822 x826001_3 x826002_3 = some r) ∧ Aside0 (kq ≤ kj26) ∧ Aside0 (Kd.R (Kd.int .i64) 2 w' w.heap.size (fun k_ => some k_ ≠ ((.slice Ao55 t814.length co55) : Value).ownBlock) (.slice Ao9 t785.length co9) t785) ∧ Aside0 (Kd.R (Kd.int .i64) 2 w' w.heap.size (fun k_ => some k_ ≠ ((.slice Ao9 t785.length co9) : Value).ownBlock) (.slice Ao55 t814.length co55) t814) ∧ Aside0 (IsS49 w w' g825 t822 x826001_3 x826002_3) ∧ Aside0 (Below w.heap.size w w'))
           case atStart => exact ⟨(0), (t823), (t824), sz, H', ⟨Nat.le_refl _⟩, ⟨by (with_reducible repeat (first | apply Kd.R_alloc | apply Kd.R_drewN | apply Kd.R_drew)); exact Kd.R_mono HO_3.out (fun _ hk => hk.2)⟩, ⟨by (with_reducible repeat (first | apply Kd.R_alloc | apply Kd.R_drewN | apply Kd.R_drew)); exact Kd.R_mono HO817.out (fun _ hk => hk.2)⟩, ⟨zLFnOrdersx0⟩, ⟨zLFnOrdersx1⟩⟩
           case round =>
            clear H'
            try clear c1
            try clear c2
            try clear p2
            try clear c3
            try clear c4
            try clear c5
            try clear c7
            try clear c12
            try clear c12b0
            try clear c12b1
            try clear c14
            try clear c16
            try clear c22
            try clear c23
            try clear c23b0
            try clear c23b1
            try clear c24
            try clear c25
            try clear c28
            try clear c29
            try clear c30
            try clear c33
            try clear c33b0
            try clear c33b1
            try clear c34
            try clear c34b0
            try clear c34b1
            try clear c35
            try clear c35b0
            try clear c35b1
            try clear c37
            try clear c39
            try clear c47
            try clear c49
            try clear c49b0
            try clear c49b1
            try clear c50
            try clear c50b0
            try clear c50b1
            try clear c50b2
            try clear p2
            obtain ⟨x19_3, x826001_3, x826002_3, rfl, HA, HK3, HO_3, HO_14, HI825, HB⟩ := hrel
            cases gk with
            | zero => exact absurd HA.out (by simp [laws_FnOrders.l0])
            | succ k3 =>
             have H := HA.out; clear HA
             simp only [laws_FnOrders.l0] at H
             by_cases c57 : x19_3 < 8
             ·rw [if_pos c57] at H
              have c57b0 : decide (x19_3 < 8) = true := decide_eq_true c57
              clear c57; replace H := Option.bind_eq_some_iff.mp H
              obtain ⟨⟨t828, t829, t830⟩, A580, H⟩ := H
              replace H : (if 0 ≤ t828 then (if t828 < (t814.length : Int) then ((laws_dice_below.f t822 t829 t830 (t814.length : Int)).bind fun bt832 => (if 0 ≤ bt832.1 then (if bt832.1 < (t814.length : Int) then ((laws_hasInt.f k3 t814 (Go.bits .or .i64 (rd t814 t828) (rd t814 bt832.1))).bind fun t836 => (if t836 = true then ((laws_hasInt.f k3 t814 (Go.bits .and .i64 (rd t814 t828) (rd t814 bt832.1))).bind fun t837 => (if t837 = true then (laws_FnOrders.l0 k3 t785 t814 (wrap64 (x19_3 + 1)) t822 bt832.2.1 bt832.2.2) else (some false))) else (some false))) else (none)) else (none))) else (none)) else (none)) = some r := H
              have A58 := Aside0.mk A580; clear A580
              by_cases c59 : 0 ≤ t828
              ·rw [if_pos c59] at H
               have c59b0 : decide (0 ≤ t828) = true := decide_eq_true c59
               clear c59
               by_cases c60 : t828 < (t814.length : Int)
               ·rw [if_pos c60] at H
                have c60b0 : decide (t828 < (t814.length : Int)) = true := decide_eq_true c60
                clear c60; replace H := Option.bind_eq_some_iff.mp H
                obtain ⟨⟨t832, t833, t834⟩, A610, H⟩ := H
                replace H : (if 0 ≤ t832 then (if t832 < (t814.length : Int) then ((laws_hasInt.f k3 t814 (Go.bits .or .i64 (rd t814 t828) (rd t814 t832))).bind fun t836 => (if t836 = true then ((laws_hasInt.f k3 t814 (Go.bits .and .i64 (rd t814 t828) (rd t814 t832))).bind fun t837 => (if t837 = true then (laws_FnOrders.l0 k3 t785 t814 (wrap64 (x19_3 + 1)) t822 t833 t834) else (some false))) else (some false))) else (none)) else (none)) = some r := H
                have A61 := Aside0.mk A610; clear A610
                by_cases c62 : 0 ≤ t832
                ·rw [if_pos c62] at H
                 have c62b0 : decide (0 ≤ t832) = true := decide_eq_true c62
                 clear c62
                 by_cases c63 : t832 < (t814.length : Int)
                 ·rw [if_pos c63] at H
                  have c63b0 : decide (t832 < (t814.length : Int)) = true := decide_eq_true c63
                  clear c63; replace H := Option.bind_eq_some_iff.mp H; obtain ⟨t836, A640, H⟩ := H
                  replace H : (if t836 = true then ((laws_hasInt.f k3 t814 (Go.bits .and .i64 (rd t814 t828) (rd t814 t832))).bind fun t837 => (if t837 = true then (laws_FnOrders.l0 k3 t785 t814 (wrap64 (x19_3 + 1)) t822 t833 t834) else (some false))) else (some false)) = some r := H
                  have A64 := Aside0.mk A640; clear A640
                  by_cases c65 : t836 = true
                  ·subst c65
                   have H1 : ((laws_hasInt.f k3 t814 (Go.bits .and .i64 (rd t814 t828) (rd t814 t832))).bind fun t837 => (if t837 = true then (laws_FnOrders.l0 k3 t785 t814 (wrap64 (x19_3 + 1)) t822 t833 t834) else (some false))) = some r := by rw [if_pos rfl] at H; exact H
                   clear H; have H := H1; clear H1; replace H := Option.bind_eq_some_iff.mp H; obtain ⟨t837, A660, H⟩ := H
                   replace H : (if t837 = true then (laws_FnOrders.l0 k3 t785 t814 (wrap64 (x19_3 + 1)) t822 t833 t834) else (some false)) = some r := H
                   have A66 := Aside0.mk A660; clear A660
                   by_cases c67 : t837 = true
                   ·subst c67
                    have H1 : (laws_FnOrders.l0 k3 t785 t814 (wrap64 (x19_3 + 1)) t822 t833 t834) = some r := by rw [if_pos rfl] at H; exact H
                    clear H; have H := H1; clear H1
                    have H' := Aside0.mk H
                    clear H
                    try go_wp2
                    replace HO_3 := Aside0.mk (Kd.R_drew HO_3.out); replace HO_14 := Aside0.mk (Kd.R_drew HO_14.out); replace HI825 := Aside0.mk (IsS49.drew HI825.out); replace HB := Aside0.mk (below_drew1 HB.out)
                    have p831 : 0 ≤ (t828 : Int) := of_decide_eq_true (by first | (with_reducible assumption) | assumption)
                    have q831 : t828 < (t814.length : Int) := of_decide_eq_true (by first | (with_reducible assumption) | assumption)
                    obtain ⟨ad831, e831, hx831_0⟩ := Kd.at_int (Kd.R_reads' HO_14.out).2.2 t828 p831 q831; cases e831; replace p831 := eq_true p831; replace q831 := eq_true q831
                    have p835 : 0 ≤ (t832 : Int) := of_decide_eq_true (by first | (with_reducible assumption) | assumption)
                    have q835 : t832 < (t814.length : Int) := of_decide_eq_true (by first | (with_reducible assumption) | assumption)
                    obtain ⟨ad835, e835, hx835_0⟩ := Kd.at_int (Kd.R_reads' HO_14.out).2.2 t832 p835 q835
                    obtain rfl : ad831 = ad835 := (by injection e835)
                    replace p835 := eq_true p835; replace q835 := eq_true q835
                    refine start_ (n := 16) (S := fun w' => w'.cell? (ad831.add (t828).toNat) = some (.int .i64 (rd t814 t828)) ∧ w'.cell? (ad831.add (t832).toNat) = some (.int .i64 (rd t814 t832))) (ds := []) #[false, false, false, false, false, false, false, false, false, false, false, false, false, false, false, false] (by kernel_rfl) rfl rfl ⟨hx831_0, hx835_0⟩ (fun hHeld => ?_); refine with_tabW laws_FnOrders.tab25 laws_FnOrders.bits25 (fun HT_ HW_ => ?_)
                    generalize wr.drew = w68 at HO_3 HO_14 HI825 HB hx831_0 hx835_0 hHeld ⊢
                    refine pure_ (i := 0) (N := some 124) (v := ?_) (a' := ?_) #[true, false, false, false, false, false, false, false, false, false, false, false, false, false, false, false] rfl rfl (any_of HT_.out (by kernel_rfl)) (fun _ _ _ h => h) (Or.inl ⟨by rfl, ?_⟩) ?_ ?_
                    rotate_left
                    ·intro w'
                     go_simp
                     with_reducible rfl
                    rotate_left
                    ·simp only [Act.put, s1, s2, s3, i64_w, i32_w]
                     rfl
                    refine pure_ (i := 1) (N := some 125) (v := ?_) (a' := ?_) #[true, true, false, false, false, false, false, false, false, false, false, false, false, false, false, false] rfl rfl (any_of HT_.out (by kernel_rfl)) (fun _ _ _ h => h) (Or.inl ⟨by rfl, ?_⟩) ?_ ?_
                    rotate_left
                    ·intro w'
                     go_simp
                     with_reducible rfl
                    rotate_left
                    ·simp only [Act.put, s1, s2, s3, i64_w, i32_w]
                     rfl
                    refine pure_ (i := 2) (N := some 126) (v := ?_) (a' := ?_) #[true, true, true, false, false, false, false, false, false, false, false, false, false, false, false, false] rfl rfl (any_of HT_.out (by kernel_rfl)) (fun _ _ _ h => h) (Or.inl ⟨by rfl, ?_⟩) ?_ ?_
                    rotate_left
                    ·intro w'
                     go_simp
                     with_reducible rfl
                    rotate_left
                    ·simp only [Act.put, s1, s2, s3, i64_w, i32_w]
                     rfl
                    refine pure_ (i := 3) (N := some 127) (v := ?_) (a' := ?_) #[true, true, true, true, false, false, false, false, false, false, false, false, false, false, false, false] rfl rfl (any_of HT_.out (by kernel_rfl)) (fun _ _ _ h => h) (Or.inl ⟨by rfl, ?_⟩) ?_ ?_
                    rotate_left
                    ·intro w'
                     go_simp
                     with_reducible rfl
                    rotate_left
                    ·simp only [Act.put, s1, s2, s3, i64_w, i32_w]
                     rfl
                    refine pure_ (i := 7) (N := some 131) (v := ?_) (a' := ?_) #[true, true, true, true, false, false, false, true, false, false, false, false, false, false, false, false] rfl rfl (any_of HT_.out (by kernel_rfl)) (fun _ _ _ h => h) (Or.inl ⟨by rfl, ?_⟩) ?_ ?_
                    rotate_left
                    ·intro w'
                     go_simp
                     with_reducible rfl
                    rotate_left
                    ·simp only [Act.put, s1, s2, s3, i64_w, i32_w]
                     rfl
                    refine pure_ (i := 8) (N := some 132) (v := ?_) (a' := ?_) #[true, true, true, true, false, false, false, true, true, false, false, false, false, false, false, false] rfl rfl (any_of HT_.out (by kernel_rfl)) (fun _ _ _ h => h) (Or.inl ⟨by rfl, ?_⟩) ?_ ?_
                    rotate_left
                    ·intro w'
                     go_simp
                     with_reducible rfl
                    rotate_left
                    ·simp only [Act.put, s1, s2, s3, i64_w, i32_w]
                     rfl
                    refine pure_ (i := 9) (N := some 133) (v := ?_) (a' := ?_) #[true, true, true, true, false, false, false, true, true, true, false, false, false, false, false, false] rfl rfl (any_of HT_.out (by kernel_rfl)) (fun _ _ _ h => h) (Or.inl ⟨by rfl, ?_⟩) ?_ ?_
                    rotate_left
                    ·intro w'
                     go_simp
                     with_reducible rfl
                    rotate_left
                    ·simp only [Act.put, s1, s2, s3, i64_w, i32_w]
                     rfl
                    refine pure_ (i := 10) (N := some 134) (v := ?_) (a' := ?_) #[true, true, true, true, false, false, false, true, true, true, true, false, false, false, false, false] rfl rfl (any_of HT_.out (by kernel_rfl)) (fun _ _ _ h => h) (Or.inl ⟨by rfl, ?_⟩) ?_ ?_
                    rotate_left
                    ·intro w'
                     go_simp
                     with_reducible rfl
                    rotate_left
                    ·simp only [Act.put, s1, s2, s3, i64_w, i32_w]
                     rfl
                    refine one_ (i := 4) (N := some 128) #[true, true, true, true, true, false, false, true, true, true, true, false, false, false, false, false] rfl rfl (one_of HT_.out (by kernel_rfl)) (by decide) (fun K hK => ?_)
                    refine goes_ Tryd.func31 (by kernel_rfl) rfl #[.pointer (some ⟨g825, 0, none⟩), .int .i64 (t814.length : Int)] (by rfl) rfl rfl lz ?_
                    with_reducible refine (laws_dice_below.calls g825 t822 x826001_3 x826002_3 (t814.length : Int) t828 t829 t830 w _ ?side1 ?side2 A58.out).mono ?_
                    (case side1 => exact zLFnOrdersx0)
                    (case side2 => exact zLFnOrdersx1)
                    rintro e w69 ⟨rfl, hi, hb, hk⟩
                    have HS0_ := keep_cell hk (hHeld.1) (by first | (rw [add_block]; exact Kd.own_blk (IsS49.own_ne HI825.out HO_14.out (by decide))) | (show (Addr.add _ _).block ≠ _; rw [add_block]; exact Kd.own_blk (IsS49.own_ne HI825.out HO_14.out (by decide))) | exact Kd.own_blk (IsS49.own_ne HI825.out HO_14.out (by decide)))
                    have HS1_ := keep_cell hk (hHeld.2) (by first | (rw [add_block]; exact Kd.own_blk (IsS49.own_ne HI825.out HO_14.out (by decide))) | (show (Addr.add _ _).block ≠ _; rw [add_block]; exact Kd.own_blk (IsS49.own_ne HI825.out HO_14.out (by decide))) | exact Kd.own_blk (IsS49.own_ne HI825.out HO_14.out (by decide)))
                    refine ⟨_, rfl, ?_⟩
                    replace HO_3 := Aside0.mk (Kd.R_mono (Kd.R_keep (IsS49.apart (show IsS49 w _ g825 t822 x826001_3 x826002_3 from zLFnOrdersx0) (kdQ HO_3) (by decide)) hk (fun _ h => h.2)) (fun _ h => h.1))
                    replace HO_14 := Aside0.mk (Kd.R_mono (Kd.R_keep (IsS49.apart (show IsS49 w _ g825 t822 x826001_3 x826002_3 from zLFnOrdersx0) (kdQ HO_14) (by decide)) hk (fun _ h => h.2)) (fun _ h => h.1))
                    replace HB := Aside0.mk (hb); replace HI825 := Aside0.mk (hi)
                    (try clear hb)
                    (try clear hb2)
                    (try clear hk)
                    (try clear hi)
                    (try clear hgw_)
                    refine hK.out _ _ ⟨HS0_, HS1_⟩ (fun hHeld => ?_)
                    clear hK K
                    refine norm_ (a' := ?_) ?_ ?_
                    rotate_left
                    ·show Act.put _ (some 128) _ = _
                     simp only [Act.put, s1, s2, s3, i64_w, i32_w]
                     rfl
                    refine pure_ (i := 5) (N := some 129) (v := ?_) (a' := ?_) #[true, true, true, true, true, true, false, true, true, true, true, false, false, false, false, false] rfl rfl (any_of HT_.out (by kernel_rfl)) (fun _ _ _ h => h) (Or.inl ⟨by rfl, ?_⟩) ?_ ?_
                    rotate_left
                    ·intro w'
                     go_simp
                     with_reducible rfl
                    rotate_left
                    ·simp only [Act.put, s1, s2, s3, i64_w, i32_w]
                     rfl
                    refine take_ (i := 6) (N := some 130) (v := ?_) (a' := ?_) #[true, true, true, true, true, true, true, true, true, true, true, false, false, false, false, false] rfl rfl (take_ofW HT_.out HW_.out (by kernel_rfl)) (fun _ _ _ h => h) (Or.inl ⟨by rfl, ?_⟩) hHeld ?_ ?_
                    rotate_left
                    ·rintro w' ⟨s0, s1⟩
                     go_simp
                     with_reducible rfl
                    rotate_left
                    ·simp only [Act.put, s1, s2, s3, i64_w, i32_w]
                     rfl
                    refine one_ (i := 11) (N := some 135) #[true, true, true, true, true, true, true, true, true, true, true, true, false, false, false, false] rfl rfl (one_of HT_.out (by kernel_rfl)) (by decide) (fun K hK => ?_)
                    refine goes_ Tryd.func31 (by kernel_rfl) rfl #[.pointer (some ⟨g825, 0, none⟩), .int .i64 (t814.length : Int)] (by rfl) rfl rfl lz ?_
                    with_reducible refine (laws_dice_below.calls g825 t822 t829 t830 (t814.length : Int) t832 t833 t834 w _ ?side1 ?side2 A61.out).mono ?_
                    (case side1 => exact zLFnOrdersx0)
                    (case side2 => exact zLFnOrdersx1)
                    rintro e w70 ⟨rfl, hi, hb, hk⟩
                    have HS0_ := keep_cell hk (hHeld.1) (by first | (rw [add_block]; exact Kd.own_blk (IsS49.own_ne HI825.out HO_14.out (by decide))) | (show (Addr.add _ _).block ≠ _; rw [add_block]; exact Kd.own_blk (IsS49.own_ne HI825.out HO_14.out (by decide))) | exact Kd.own_blk (IsS49.own_ne HI825.out HO_14.out (by decide)))
                    have HS1_ := keep_cell hk (hHeld.2) (by first | (rw [add_block]; exact Kd.own_blk (IsS49.own_ne HI825.out HO_14.out (by decide))) | (show (Addr.add _ _).block ≠ _; rw [add_block]; exact Kd.own_blk (IsS49.own_ne HI825.out HO_14.out (by decide))) | exact Kd.own_blk (IsS49.own_ne HI825.out HO_14.out (by decide)))
                    refine ⟨_, rfl, ?_⟩
                    replace HO_3 := Aside0.mk (Kd.R_mono (Kd.R_keep (IsS49.apart (show IsS49 w _ g825 t822 t829 t830 from zLFnOrdersx0) (kdQ HO_3) (by decide)) hk (fun _ h => h.2)) (fun _ h => h.1))
                    replace HO_14 := Aside0.mk (Kd.R_mono (Kd.R_keep (IsS49.apart (show IsS49 w _ g825 t822 t829 t830 from zLFnOrdersx0) (kdQ HO_14) (by decide)) hk (fun _ h => h.2)) (fun _ h => h.1))
                    replace HB := Aside0.mk (hb); replace HI825 := Aside0.mk (hi)
                    (try clear hb)
                    (try clear hb2)
                    (try clear hk)
                    (try clear hi)
                    (try clear hgw_)
                    refine hK.out _ _ ⟨HS0_, HS1_⟩ (fun hHeld => ?_)
                    clear hK K
                    refine norm_ (a' := ?_) ?_ ?_
                    rotate_left
                    ·show Act.put _ (some 135) _ = _
                     simp only [Act.put, s1, s2, s3, i64_w, i32_w]
                     rfl
                    refine pure_ (i := 12) (N := some 136) (v := ?_) (a' := ?_) #[true, true, true, true, true, true, true, true, true, true, true, true, true, false, false, false] rfl rfl (any_of HT_.out (by kernel_rfl)) (fun _ _ _ h => h) (Or.inl ⟨by rfl, ?_⟩) ?_ ?_
                    rotate_left
                    ·intro w'
                     go_simp
                     with_reducible rfl
                    rotate_left
                    ·simp only [Act.put, s1, s2, s3, i64_w, i32_w]
                     rfl
                    refine pure_ (i := 14) (N := some 20) (v := ?_) (a' := ?_) #[true, true, true, true, true, true, true, true, true, true, true, true, true, false, true, false] rfl rfl (any_of HT_.out (by kernel_rfl)) (fun _ _ _ h => h) (Or.inl ⟨by rfl, ?_⟩) ?_ ?_
                    rotate_left
                    ·intro w'
                     go_simp
                     with_reducible rfl
                    rotate_left
                    ·simp only [Act.put, s1, s2, s3, i64_w, i32_w]
                     rfl
                    refine take_ (i := 13) (N := some 137) (v := ?_) (a' := ?_) #[true, true, true, true, true, true, true, true, true, true, true, true, true, true, true, false] rfl rfl (take_ofW HT_.out HW_.out (by kernel_rfl)) (fun _ _ _ h => h) (Or.inl ⟨by rfl, ?_⟩) hHeld ?_ ?_
                    rotate_left
                    ·rintro w' ⟨s0, s1⟩
                     go_simp
                     with_reducible rfl
                    rotate_left
                    ·simp only [Act.put, s1, s2, s3, i64_w, i32_w]
                     rfl
                    refine pure_ (i := 15) (N := some 21) (v := ?_) (a' := ?_) #[true, true, true, true, true, true, true, true, true, true, true, true, true, true, true, true] rfl rfl (any_of HT_.out (by kernel_rfl)) (fun _ _ _ h => h) (Or.inl ⟨by rfl, ?_⟩) ?_ ?_
                    rotate_left
                    ·intro w'
                     go_simp
                     with_reducible rfl
                    rotate_left
                    ·simp only [Act.put, s1, s2, s3, i64_w, i32_w]
                     rfl
                    refine done_ (done_of HT_.out (by kernel_rfl)) ?_
                    try go_wp2_with (first | ((with_reducible refine gate_callee (f := 20) rfl ?_); refine goesL_ (some 142) rfl rfl Tryd.func20 (by kernel_rfl) rfl #[.slice (some ad831) t814.length co55, .int .i64 (Go.bits .or .i64 (rd t814 t828) (rd t814 t832))] rfl lz ?_; (with_reducible refine (laws_hasInt.calls k3 _ _ t814 (Go.bits .or .i64 (rd t814 t828) (rd t814 t832)) true _ ?side1 ?side2 A64.out).mono ?_); (case side1 => have q_ := Aside0.mk (Kd.R_reads' HO_14.out).2.2; exact cQ q_); (case side2 => exact (Kd.R_reads' HO_14.out).2.1); rintro e w' ⟨rfl, ⟨nd, rfl⟩⟩; refine ⟨_, rfl, ?_⟩) | (go_at_call 20; (with_reducible refine (laws_hasInt.calls k3 _ _ t814 (Go.bits .and .i64 (rd t814 t828) (rd t814 t832)) true _ ?side1 ?side2 A66.out).mono ?_); (case side1 => have q_ := Aside0.mk (Kd.R_reads' HO_14.out).2.2; exact cQ q_); (case side2 => exact (Kd.R_reads' HO_14.out).2.1); rintro e w' ⟨rfl, ⟨nd, rfl⟩⟩))
                    go_roundg k3
                    case measure => have := HJ6.out; have := HJ26.out; have := HK3.out; omega
                    case rel => exact ⟨(wrap64 (x19_3 + 1)), (t833), (t834), sz, H', ⟨by have := HJ6.out; have := HJ26.out; have := HK3.out; omega⟩, ⟨kdQ HO_3⟩, ⟨kdQ HO_14⟩, ⟨zLFnOrdersx0⟩, ⟨zLFnOrdersx1⟩⟩
                   ·replace c67 := Bool.eq_false_iff.mpr c67
                    subst c67
                    have H1 : (some false) = some r := by rw [if_neg (show ¬ (false = true) by decide)] at H; exact H
                    clear H; have H := H1; clear H1
                    obtain rfl := Option.some.inj H
                    try go_wp2
                    replace HO_3 := Aside0.mk (Kd.R_drew HO_3.out); replace HO_14 := Aside0.mk (Kd.R_drew HO_14.out); replace HI825 := Aside0.mk (IsS49.drew HI825.out); replace HB := Aside0.mk (below_drew1 HB.out)
                    have p831 : 0 ≤ (t828 : Int) := of_decide_eq_true (by first | (with_reducible assumption) | assumption)
                    have q831 : t828 < (t814.length : Int) := of_decide_eq_true (by first | (with_reducible assumption) | assumption)
                    obtain ⟨ad831, e831, hx831_0⟩ := Kd.at_int (Kd.R_reads' HO_14.out).2.2 t828 p831 q831; cases e831; replace p831 := eq_true p831; replace q831 := eq_true q831
                    have p835 : 0 ≤ (t832 : Int) := of_decide_eq_true (by first | (with_reducible assumption) | assumption)
                    have q835 : t832 < (t814.length : Int) := of_decide_eq_true (by first | (with_reducible assumption) | assumption)
                    obtain ⟨ad835, e835, hx835_0⟩ := Kd.at_int (Kd.R_reads' HO_14.out).2.2 t832 p835 q835
                    obtain rfl : ad831 = ad835 := (by injection e835)
                    replace p835 := eq_true p835; replace q835 := eq_true q835
                    refine start_ (n := 16) (S := fun w' => w'.cell? (ad831.add (t828).toNat) = some (.int .i64 (rd t814 t828)) ∧ w'.cell? (ad831.add (t832).toNat) = some (.int .i64 (rd t814 t832))) (ds := []) #[false, false, false, false, false, false, false, false, false, false, false, false, false, false, false, false] (by kernel_rfl) rfl rfl ⟨hx831_0, hx835_0⟩ (fun hHeld => ?_); refine with_tabW laws_FnOrders.tab25 laws_FnOrders.bits25 (fun HT_ HW_ => ?_)
                    generalize wr.drew = w71 at HO_3 HO_14 HI825 HB hx831_0 hx835_0 hHeld ⊢
                    refine pure_ (i := 0) (N := some 124) (v := ?_) (a' := ?_) #[true, false, false, false, false, false, false, false, false, false, false, false, false, false, false, false] rfl rfl (any_of HT_.out (by kernel_rfl)) (fun _ _ _ h => h) (Or.inl ⟨by rfl, ?_⟩) ?_ ?_
                    rotate_left
                    ·intro w'
                     go_simp
                     with_reducible rfl
                    rotate_left
                    ·simp only [Act.put, s1, s2, s3, i64_w, i32_w]
                     rfl
                    refine pure_ (i := 1) (N := some 125) (v := ?_) (a' := ?_) #[true, true, false, false, false, false, false, false, false, false, false, false, false, false, false, false] rfl rfl (any_of HT_.out (by kernel_rfl)) (fun _ _ _ h => h) (Or.inl ⟨by rfl, ?_⟩) ?_ ?_
                    rotate_left
                    ·intro w'
                     go_simp
                     with_reducible rfl
                    rotate_left
                    ·simp only [Act.put, s1, s2, s3, i64_w, i32_w]
                     rfl
                    refine pure_ (i := 2) (N := some 126) (v := ?_) (a' := ?_) #[true, true, true, false, false, false, false, false, false, false, false, false, false, false, false, false] rfl rfl (any_of HT_.out (by kernel_rfl)) (fun _ _ _ h => h) (Or.inl ⟨by rfl, ?_⟩) ?_ ?_
                    rotate_left
                    ·intro w'
                     go_simp
                     with_reducible rfl
                    rotate_left
                    ·simp only [Act.put, s1, s2, s3, i64_w, i32_w]
                     rfl
                    refine pure_ (i := 3) (N := some 127) (v := ?_) (a' := ?_) #[true, true, true, true, false, false, false, false, false, false, false, false, false, false, false, false] rfl rfl (any_of HT_.out (by kernel_rfl)) (fun _ _ _ h => h) (Or.inl ⟨by rfl, ?_⟩) ?_ ?_
                    rotate_left
                    ·intro w'
                     go_simp
                     with_reducible rfl
                    rotate_left
                    ·simp only [Act.put, s1, s2, s3, i64_w, i32_w]
                     rfl
                    refine pure_ (i := 7) (N := some 131) (v := ?_) (a' := ?_) #[true, true, true, true, false, false, false, true, false, false, false, false, false, false, false, false] rfl rfl (any_of HT_.out (by kernel_rfl)) (fun _ _ _ h => h) (Or.inl ⟨by rfl, ?_⟩) ?_ ?_
                    rotate_left
                    ·intro w'
                     go_simp
                     with_reducible rfl
                    rotate_left
                    ·simp only [Act.put, s1, s2, s3, i64_w, i32_w]
                     rfl
                    refine pure_ (i := 8) (N := some 132) (v := ?_) (a' := ?_) #[true, true, true, true, false, false, false, true, true, false, false, false, false, false, false, false] rfl rfl (any_of HT_.out (by kernel_rfl)) (fun _ _ _ h => h) (Or.inl ⟨by rfl, ?_⟩) ?_ ?_
                    rotate_left
                    ·intro w'
                     go_simp
                     with_reducible rfl
                    rotate_left
                    ·simp only [Act.put, s1, s2, s3, i64_w, i32_w]
                     rfl
                    refine pure_ (i := 9) (N := some 133) (v := ?_) (a' := ?_) #[true, true, true, true, false, false, false, true, true, true, false, false, false, false, false, false] rfl rfl (any_of HT_.out (by kernel_rfl)) (fun _ _ _ h => h) (Or.inl ⟨by rfl, ?_⟩) ?_ ?_
                    rotate_left
                    ·intro w'
                     go_simp
                     with_reducible rfl
                    rotate_left
                    ·simp only [Act.put, s1, s2, s3, i64_w, i32_w]
                     rfl
                    refine pure_ (i := 10) (N := some 134) (v := ?_) (a' := ?_) #[true, true, true, true, false, false, false, true, true, true, true, false, false, false, false, false] rfl rfl (any_of HT_.out (by kernel_rfl)) (fun _ _ _ h => h) (Or.inl ⟨by rfl, ?_⟩) ?_ ?_
                    rotate_left
                    ·intro w'
                     go_simp
                     with_reducible rfl
                    rotate_left
                    ·simp only [Act.put, s1, s2, s3, i64_w, i32_w]
                     rfl
                    refine one_ (i := 4) (N := some 128) #[true, true, true, true, true, false, false, true, true, true, true, false, false, false, false, false] rfl rfl (one_of HT_.out (by kernel_rfl)) (by decide) (fun K hK => ?_)
                    refine goes_ Tryd.func31 (by kernel_rfl) rfl #[.pointer (some ⟨g825, 0, none⟩), .int .i64 (t814.length : Int)] (by rfl) rfl rfl lz ?_
                    with_reducible refine (laws_dice_below.calls g825 t822 x826001_3 x826002_3 (t814.length : Int) t828 t829 t830 w _ ?side1 ?side2 A58.out).mono ?_
                    (case side1 => exact zLFnOrdersx0)
                    (case side2 => exact zLFnOrdersx1)
                    rintro e w72 ⟨rfl, hi, hb, hk⟩
                    have HS0_ := keep_cell hk (hHeld.1) (by first | (rw [add_block]; exact Kd.own_blk (IsS49.own_ne HI825.out HO_14.out (by decide))) | (show (Addr.add _ _).block ≠ _; rw [add_block]; exact Kd.own_blk (IsS49.own_ne HI825.out HO_14.out (by decide))) | exact Kd.own_blk (IsS49.own_ne HI825.out HO_14.out (by decide)))
                    have HS1_ := keep_cell hk (hHeld.2) (by first | (rw [add_block]; exact Kd.own_blk (IsS49.own_ne HI825.out HO_14.out (by decide))) | (show (Addr.add _ _).block ≠ _; rw [add_block]; exact Kd.own_blk (IsS49.own_ne HI825.out HO_14.out (by decide))) | exact Kd.own_blk (IsS49.own_ne HI825.out HO_14.out (by decide)))
                    refine ⟨_, rfl, ?_⟩
                    replace HO_3 := Aside0.mk (Kd.R_mono (Kd.R_keep (IsS49.apart (show IsS49 w _ g825 t822 x826001_3 x826002_3 from zLFnOrdersx0) (kdQ HO_3) (by decide)) hk (fun _ h => h.2)) (fun _ h => h.1))
                    replace HO_14 := Aside0.mk (Kd.R_mono (Kd.R_keep (IsS49.apart (show IsS49 w _ g825 t822 x826001_3 x826002_3 from zLFnOrdersx0) (kdQ HO_14) (by decide)) hk (fun _ h => h.2)) (fun _ h => h.1))
                    replace HB := Aside0.mk (hb); replace HI825 := Aside0.mk (hi)
                    (try clear hb)
                    (try clear hb2)
                    (try clear hk)
                    (try clear hi)
                    (try clear hgw_)
                    refine hK.out _ _ ⟨HS0_, HS1_⟩ (fun hHeld => ?_)
                    clear hK K
                    refine norm_ (a' := ?_) ?_ ?_
                    rotate_left
                    ·show Act.put _ (some 128) _ = _
                     simp only [Act.put, s1, s2, s3, i64_w, i32_w]
                     rfl
                    refine pure_ (i := 5) (N := some 129) (v := ?_) (a' := ?_) #[true, true, true, true, true, true, false, true, true, true, true, false, false, false, false, false] rfl rfl (any_of HT_.out (by kernel_rfl)) (fun _ _ _ h => h) (Or.inl ⟨by rfl, ?_⟩) ?_ ?_
                    rotate_left
                    ·intro w'
                     go_simp
                     with_reducible rfl
                    rotate_left
                    ·simp only [Act.put, s1, s2, s3, i64_w, i32_w]
                     rfl
                    refine take_ (i := 6) (N := some 130) (v := ?_) (a' := ?_) #[true, true, true, true, true, true, true, true, true, true, true, false, false, false, false, false] rfl rfl (take_ofW HT_.out HW_.out (by kernel_rfl)) (fun _ _ _ h => h) (Or.inl ⟨by rfl, ?_⟩) hHeld ?_ ?_
                    rotate_left
                    ·rintro w' ⟨s0, s1⟩
                     go_simp
                     with_reducible rfl
                    rotate_left
                    ·simp only [Act.put, s1, s2, s3, i64_w, i32_w]
                     rfl
                    refine one_ (i := 11) (N := some 135) #[true, true, true, true, true, true, true, true, true, true, true, true, false, false, false, false] rfl rfl (one_of HT_.out (by kernel_rfl)) (by decide) (fun K hK => ?_)
                    refine goes_ Tryd.func31 (by kernel_rfl) rfl #[.pointer (some ⟨g825, 0, none⟩), .int .i64 (t814.length : Int)] (by rfl) rfl rfl lz ?_
                    with_reducible refine (laws_dice_below.calls g825 t822 t829 t830 (t814.length : Int) t832 t833 t834 w _ ?side1 ?side2 A61.out).mono ?_
                    (case side1 => exact zLFnOrdersx0)
                    (case side2 => exact zLFnOrdersx1)
                    rintro e w73 ⟨rfl, hi, hb, hk⟩
                    have HS0_ := keep_cell hk (hHeld.1) (by first | (rw [add_block]; exact Kd.own_blk (IsS49.own_ne HI825.out HO_14.out (by decide))) | (show (Addr.add _ _).block ≠ _; rw [add_block]; exact Kd.own_blk (IsS49.own_ne HI825.out HO_14.out (by decide))) | exact Kd.own_blk (IsS49.own_ne HI825.out HO_14.out (by decide)))
                    have HS1_ := keep_cell hk (hHeld.2) (by first | (rw [add_block]; exact Kd.own_blk (IsS49.own_ne HI825.out HO_14.out (by decide))) | (show (Addr.add _ _).block ≠ _; rw [add_block]; exact Kd.own_blk (IsS49.own_ne HI825.out HO_14.out (by decide))) | exact Kd.own_blk (IsS49.own_ne HI825.out HO_14.out (by decide)))
                    refine ⟨_, rfl, ?_⟩
                    replace HO_3 := Aside0.mk (Kd.R_mono (Kd.R_keep (IsS49.apart (show IsS49 w _ g825 t822 t829 t830 from zLFnOrdersx0) (kdQ HO_3) (by decide)) hk (fun _ h => h.2)) (fun _ h => h.1))
                    replace HO_14 := Aside0.mk (Kd.R_mono (Kd.R_keep (IsS49.apart (show IsS49 w _ g825 t822 t829 t830 from zLFnOrdersx0) (kdQ HO_14) (by decide)) hk (fun _ h => h.2)) (fun _ h => h.1))
                    replace HB := Aside0.mk (hb); replace HI825 := Aside0.mk (hi)
                    (try clear hb)
                    (try clear hb2)
                    (try clear hk)
                    (try clear hi)
                    (try clear hgw_)
                    refine hK.out _ _ ⟨HS0_, HS1_⟩ (fun hHeld => ?_)
                    clear hK K
                    refine norm_ (a' := ?_) ?_ ?_
                    rotate_left
                    ·show Act.put _ (some 135) _ = _
                     simp only [Act.put, s1, s2, s3, i64_w, i32_w]
                     rfl
                    refine pure_ (i := 12) (N := some 136) (v := ?_) (a' := ?_) #[true, true, true, true, true, true, true, true, true, true, true, true, true, false, false, false] rfl rfl (any_of HT_.out (by kernel_rfl)) (fun _ _ _ h => h) (Or.inl ⟨by rfl, ?_⟩) ?_ ?_
                    rotate_left
                    ·intro w'
                     go_simp
                     with_reducible rfl
                    rotate_left
                    ·simp only [Act.put, s1, s2, s3, i64_w, i32_w]
                     rfl
                    refine pure_ (i := 14) (N := some 20) (v := ?_) (a' := ?_) #[true, true, true, true, true, true, true, true, true, true, true, true, true, false, true, false] rfl rfl (any_of HT_.out (by kernel_rfl)) (fun _ _ _ h => h) (Or.inl ⟨by rfl, ?_⟩) ?_ ?_
                    rotate_left
                    ·intro w'
                     go_simp
                     with_reducible rfl
                    rotate_left
                    ·simp only [Act.put, s1, s2, s3, i64_w, i32_w]
                     rfl
                    refine take_ (i := 13) (N := some 137) (v := ?_) (a' := ?_) #[true, true, true, true, true, true, true, true, true, true, true, true, true, true, true, false] rfl rfl (take_ofW HT_.out HW_.out (by kernel_rfl)) (fun _ _ _ h => h) (Or.inl ⟨by rfl, ?_⟩) hHeld ?_ ?_
                    rotate_left
                    ·rintro w' ⟨s0, s1⟩
                     go_simp
                     with_reducible rfl
                    rotate_left
                    ·simp only [Act.put, s1, s2, s3, i64_w, i32_w]
                     rfl
                    refine pure_ (i := 15) (N := some 21) (v := ?_) (a' := ?_) #[true, true, true, true, true, true, true, true, true, true, true, true, true, true, true, true] rfl rfl (any_of HT_.out (by kernel_rfl)) (fun _ _ _ h => h) (Or.inl ⟨by rfl, ?_⟩) ?_ ?_
                    rotate_left
                    ·intro w'
                     go_simp
                     with_reducible rfl
                    rotate_left
                    ·simp only [Act.put, s1, s2, s3, i64_w, i32_w]
                     rfl
                    refine done_ (done_of HT_.out (by kernel_rfl)) ?_
                    try go_wp2_with (first | ((with_reducible refine gate_callee (f := 20) rfl ?_); refine goesL_ (some 142) rfl rfl Tryd.func20 (by kernel_rfl) rfl #[.slice (some ad831) t814.length co55, .int .i64 (Go.bits .or .i64 (rd t814 t828) (rd t814 t832))] rfl lz ?_; (with_reducible refine (laws_hasInt.calls k3 _ _ t814 (Go.bits .or .i64 (rd t814 t828) (rd t814 t832)) true _ ?side1 ?side2 A64.out).mono ?_); (case side1 => have q_ := Aside0.mk (Kd.R_reads' HO_14.out).2.2; exact cQ q_); (case side2 => exact (Kd.R_reads' HO_14.out).2.1); rintro e w' ⟨rfl, ⟨nd, rfl⟩⟩; refine ⟨_, rfl, ?_⟩) | (go_at_call 20; (with_reducible refine (laws_hasInt.calls k3 _ _ t814 (Go.bits .and .i64 (rd t814 t828) (rd t814 t832)) false _ ?side1 ?side2 A66.out).mono ?_); (case side1 => have q_ := Aside0.mk (Kd.R_reads' HO_14.out).2.2; exact cQ q_); (case side2 => exact (Kd.R_reads' HO_14.out).2.1); rintro e w' ⟨rfl, ⟨nd, rfl⟩⟩))
                    go_ret
                    exact ⟨rz, zLFnOrdersx1⟩
                  ·replace c65 := Bool.eq_false_iff.mpr c65
                   subst c65
                   have H1 : (some false) = some r := by rw [if_neg (show ¬ (false = true) by decide)] at H; exact H
                   clear H; have H := H1; clear H1
                   obtain rfl := Option.some.inj H
                   try go_wp2
                   replace HO_3 := Aside0.mk (Kd.R_drew HO_3.out); replace HO_14 := Aside0.mk (Kd.R_drew HO_14.out); replace HI825 := Aside0.mk (IsS49.drew HI825.out); replace HB := Aside0.mk (below_drew1 HB.out)
                   have p831 : 0 ≤ (t828 : Int) := of_decide_eq_true (by first | (with_reducible assumption) | assumption)
                   have q831 : t828 < (t814.length : Int) := of_decide_eq_true (by first | (with_reducible assumption) | assumption)
                   obtain ⟨ad831, e831, hx831_0⟩ := Kd.at_int (Kd.R_reads' HO_14.out).2.2 t828 p831 q831; cases e831; replace p831 := eq_true p831; replace q831 := eq_true q831
                   have p835 : 0 ≤ (t832 : Int) := of_decide_eq_true (by first | (with_reducible assumption) | assumption)
                   have q835 : t832 < (t814.length : Int) := of_decide_eq_true (by first | (with_reducible assumption) | assumption)
                   obtain ⟨ad835, e835, hx835_0⟩ := Kd.at_int (Kd.R_reads' HO_14.out).2.2 t832 p835 q835
                   obtain rfl : ad831 = ad835 := (by injection e835)
                   replace p835 := eq_true p835; replace q835 := eq_true q835
                   refine start_ (n := 16) (S := fun w' => w'.cell? (ad831.add (t828).toNat) = some (.int .i64 (rd t814 t828)) ∧ w'.cell? (ad831.add (t832).toNat) = some (.int .i64 (rd t814 t832))) (ds := []) #[false, false, false, false, false, false, false, false, false, false, false, false, false, false, false, false] (by kernel_rfl) rfl rfl ⟨hx831_0, hx835_0⟩ (fun hHeld => ?_); refine with_tabW laws_FnOrders.tab25 laws_FnOrders.bits25 (fun HT_ HW_ => ?_)
                   generalize wr.drew = w74 at HO_3 HO_14 HI825 HB hx831_0 hx835_0 hHeld ⊢
                   refine pure_ (i := 0) (N := some 124) (v := ?_) (a' := ?_) #[true, false, false, false, false, false, false, false, false, false, false, false, false, false, false, false] rfl rfl (any_of HT_.out (by kernel_rfl)) (fun _ _ _ h => h) (Or.inl ⟨by rfl, ?_⟩) ?_ ?_
                   rotate_left
                   ·intro w'
                    go_simp
                    with_reducible rfl
                   rotate_left
                   ·simp only [Act.put, s1, s2, s3, i64_w, i32_w]
                    rfl
                   refine pure_ (i := 1) (N := some 125) (v := ?_) (a' := ?_) #[true, true, false, false, false, false, false, false, false, false, false, false, false, false, false, false] rfl rfl (any_of HT_.out (by kernel_rfl)) (fun _ _ _ h => h) (Or.inl ⟨by rfl, ?_⟩) ?_ ?_
                   rotate_left
                   ·intro w'
                    go_simp
                    with_reducible rfl
                   rotate_left
                   ·simp only [Act.put, s1, s2, s3, i64_w, i32_w]
                    rfl
                   refine pure_ (i := 2) (N := some 126) (v := ?_) (a' := ?_) #[true, true, true, false, false, false, false, false, false, false, false, false, false, false, false, false] rfl rfl (any_of HT_.out (by kernel_rfl)) (fun _ _ _ h => h) (Or.inl ⟨by rfl, ?_⟩) ?_ ?_
                   rotate_left
                   ·intro w'
                    go_simp
                    with_reducible rfl
                   rotate_left
                   ·simp only [Act.put, s1, s2, s3, i64_w, i32_w]
                    rfl
                   refine pure_ (i := 3) (N := some 127) (v := ?_) (a' := ?_) #[true, true, true, true, false, false, false, false, false, false, false, false, false, false, false, false] rfl rfl (any_of HT_.out (by kernel_rfl)) (fun _ _ _ h => h) (Or.inl ⟨by rfl, ?_⟩) ?_ ?_
                   rotate_left
                   ·intro w'
                    go_simp
                    with_reducible rfl
                   rotate_left
                   ·simp only [Act.put, s1, s2, s3, i64_w, i32_w]
                    rfl
                   refine pure_ (i := 7) (N := some 131) (v := ?_) (a' := ?_) #[true, true, true, true, false, false, false, true, false, false, false, false, false, false, false, false] rfl rfl (any_of HT_.out (by kernel_rfl)) (fun _ _ _ h => h) (Or.inl ⟨by rfl, ?_⟩) ?_ ?_
                   rotate_left
                   ·intro w'
                    go_simp
                    with_reducible rfl
                   rotate_left
                   ·simp only [Act.put, s1, s2, s3, i64_w, i32_w]
                    rfl
                   refine pure_ (i := 8) (N := some 132) (v := ?_) (a' := ?_) #[true, true, true, true, false, false, false, true, true, false, false, false, false, false, false, false] rfl rfl (any_of HT_.out (by kernel_rfl)) (fun _ _ _ h => h) (Or.inl ⟨by rfl, ?_⟩) ?_ ?_
                   rotate_left
                   ·intro w'
                    go_simp
                    with_reducible rfl
                   rotate_left
                   ·simp only [Act.put, s1, s2, s3, i64_w, i32_w]
                    rfl
                   refine pure_ (i := 9) (N := some 133) (v := ?_) (a' := ?_) #[true, true, true, true, false, false, false, true, true, true, false, false, false, false, false, false] rfl rfl (any_of HT_.out (by kernel_rfl)) (fun _ _ _ h => h) (Or.inl ⟨by rfl, ?_⟩) ?_ ?_
                   rotate_left
                   ·intro w'
                    go_simp
                    with_reducible rfl
                   rotate_left
                   ·simp only [Act.put, s1, s2, s3, i64_w, i32_w]
                    rfl
                   refine pure_ (i := 10) (N := some 134) (v := ?_) (a' := ?_) #[true, true, true, true, false, false, false, true, true, true, true, false, false, false, false, false] rfl rfl (any_of HT_.out (by kernel_rfl)) (fun _ _ _ h => h) (Or.inl ⟨by rfl, ?_⟩) ?_ ?_
                   rotate_left
                   ·intro w'
                    go_simp
                    with_reducible rfl
                   rotate_left
                   ·simp only [Act.put, s1, s2, s3, i64_w, i32_w]
                    rfl
                   refine one_ (i := 4) (N := some 128) #[true, true, true, true, true, false, false, true, true, true, true, false, false, false, false, false] rfl rfl (one_of HT_.out (by kernel_rfl)) (by decide) (fun K hK => ?_)
                   refine goes_ Tryd.func31 (by kernel_rfl) rfl #[.pointer (some ⟨g825, 0, none⟩), .int .i64 (t814.length : Int)] (by rfl) rfl rfl lz ?_
                   with_reducible refine (laws_dice_below.calls g825 t822 x826001_3 x826002_3 (t814.length : Int) t828 t829 t830 w _ ?side1 ?side2 A58.out).mono ?_
                   (case side1 => exact zLFnOrdersx0)
                   (case side2 => exact zLFnOrdersx1)
                   rintro e w75 ⟨rfl, hi, hb, hk⟩
                   have HS0_ := keep_cell hk (hHeld.1) (by first | (rw [add_block]; exact Kd.own_blk (IsS49.own_ne HI825.out HO_14.out (by decide))) | (show (Addr.add _ _).block ≠ _; rw [add_block]; exact Kd.own_blk (IsS49.own_ne HI825.out HO_14.out (by decide))) | exact Kd.own_blk (IsS49.own_ne HI825.out HO_14.out (by decide)))
                   have HS1_ := keep_cell hk (hHeld.2) (by first | (rw [add_block]; exact Kd.own_blk (IsS49.own_ne HI825.out HO_14.out (by decide))) | (show (Addr.add _ _).block ≠ _; rw [add_block]; exact Kd.own_blk (IsS49.own_ne HI825.out HO_14.out (by decide))) | exact Kd.own_blk (IsS49.own_ne HI825.out HO_14.out (by decide)))
                   refine ⟨_, rfl, ?_⟩
                   replace HO_3 := Aside0.mk (Kd.R_mono (Kd.R_keep (IsS49.apart (show IsS49 w _ g825 t822 x826001_3 x826002_3 from zLFnOrdersx0) (kdQ HO_3) (by decide)) hk (fun _ h => h.2)) (fun _ h => h.1))
                   replace HO_14 := Aside0.mk (Kd.R_mono (Kd.R_keep (IsS49.apart (show IsS49 w _ g825 t822 x826001_3 x826002_3 from zLFnOrdersx0) (kdQ HO_14) (by decide)) hk (fun _ h => h.2)) (fun _ h => h.1))
                   replace HB := Aside0.mk (hb); replace HI825 := Aside0.mk (hi)
                   (try clear hb)
                   (try clear hb2)
                   (try clear hk)
                   (try clear hi)
                   (try clear hgw_)
                   refine hK.out _ _ ⟨HS0_, HS1_⟩ (fun hHeld => ?_)
                   clear hK K
                   refine norm_ (a' := ?_) ?_ ?_
                   rotate_left
                   ·show Act.put _ (some 128) _ = _
                    simp only [Act.put, s1, s2, s3, i64_w, i32_w]
                    rfl
                   refine pure_ (i := 5) (N := some 129) (v := ?_) (a' := ?_) #[true, true, true, true, true, true, false, true, true, true, true, false, false, false, false, false] rfl rfl (any_of HT_.out (by kernel_rfl)) (fun _ _ _ h => h) (Or.inl ⟨by rfl, ?_⟩) ?_ ?_
                   rotate_left
                   ·intro w'
                    go_simp
                    with_reducible rfl
                   rotate_left
                   ·simp only [Act.put, s1, s2, s3, i64_w, i32_w]
                    rfl
                   refine take_ (i := 6) (N := some 130) (v := ?_) (a' := ?_) #[true, true, true, true, true, true, true, true, true, true, true, false, false, false, false, false] rfl rfl (take_ofW HT_.out HW_.out (by kernel_rfl)) (fun _ _ _ h => h) (Or.inl ⟨by rfl, ?_⟩) hHeld ?_ ?_
                   rotate_left
                   ·rintro w' ⟨s0, s1⟩
                    go_simp
                    with_reducible rfl
                   rotate_left
                   ·simp only [Act.put, s1, s2, s3, i64_w, i32_w]
                    rfl
                   refine one_ (i := 11) (N := some 135) #[true, true, true, true, true, true, true, true, true, true, true, true, false, false, false, false] rfl rfl (one_of HT_.out (by kernel_rfl)) (by decide) (fun K hK => ?_)
                   refine goes_ Tryd.func31 (by kernel_rfl) rfl #[.pointer (some ⟨g825, 0, none⟩), .int .i64 (t814.length : Int)] (by rfl) rfl rfl lz ?_
                   with_reducible refine (laws_dice_below.calls g825 t822 t829 t830 (t814.length : Int) t832 t833 t834 w _ ?side1 ?side2 A61.out).mono ?_
                   (case side1 => exact zLFnOrdersx0)
                   (case side2 => exact zLFnOrdersx1)
                   rintro e w76 ⟨rfl, hi, hb, hk⟩
                   have HS0_ := keep_cell hk (hHeld.1) (by first | (rw [add_block]; exact Kd.own_blk (IsS49.own_ne HI825.out HO_14.out (by decide))) | (show (Addr.add _ _).block ≠ _; rw [add_block]; exact Kd.own_blk (IsS49.own_ne HI825.out HO_14.out (by decide))) | exact Kd.own_blk (IsS49.own_ne HI825.out HO_14.out (by decide)))
                   have HS1_ := keep_cell hk (hHeld.2) (by first | (rw [add_block]; exact Kd.own_blk (IsS49.own_ne HI825.out HO_14.out (by decide))) | (show (Addr.add _ _).block ≠ _; rw [add_block]; exact Kd.own_blk (IsS49.own_ne HI825.out HO_14.out (by decide))) | exact Kd.own_blk (IsS49.own_ne HI825.out HO_14.out (by decide)))
                   refine ⟨_, rfl, ?_⟩
                   replace HO_3 := Aside0.mk (Kd.R_mono (Kd.R_keep (IsS49.apart (show IsS49 w _ g825 t822 t829 t830 from zLFnOrdersx0) (kdQ HO_3) (by decide)) hk (fun _ h => h.2)) (fun _ h => h.1))
                   replace HO_14 := Aside0.mk (Kd.R_mono (Kd.R_keep (IsS49.apart (show IsS49 w _ g825 t822 t829 t830 from zLFnOrdersx0) (kdQ HO_14) (by decide)) hk (fun _ h => h.2)) (fun _ h => h.1))
                   replace HB := Aside0.mk (hb); replace HI825 := Aside0.mk (hi)
                   (try clear hb)
                   (try clear hb2)
                   (try clear hk)
                   (try clear hi)
                   (try clear hgw_)
                   refine hK.out _ _ ⟨HS0_, HS1_⟩ (fun hHeld => ?_)
                   clear hK K
                   refine norm_ (a' := ?_) ?_ ?_
                   rotate_left
                   ·show Act.put _ (some 135) _ = _
                    simp only [Act.put, s1, s2, s3, i64_w, i32_w]
                    rfl
                   refine pure_ (i := 12) (N := some 136) (v := ?_) (a' := ?_) #[true, true, true, true, true, true, true, true, true, true, true, true, true, false, false, false] rfl rfl (any_of HT_.out (by kernel_rfl)) (fun _ _ _ h => h) (Or.inl ⟨by rfl, ?_⟩) ?_ ?_
                   rotate_left
                   ·intro w'
                    go_simp
                    with_reducible rfl
                   rotate_left
                   ·simp only [Act.put, s1, s2, s3, i64_w, i32_w]
                    rfl
                   refine pure_ (i := 14) (N := some 20) (v := ?_) (a' := ?_) #[true, true, true, true, true, true, true, true, true, true, true, true, true, false, true, false] rfl rfl (any_of HT_.out (by kernel_rfl)) (fun _ _ _ h => h) (Or.inl ⟨by rfl, ?_⟩) ?_ ?_
                   rotate_left
                   ·intro w'
                    go_simp
                    with_reducible rfl
                   rotate_left
                   ·simp only [Act.put, s1, s2, s3, i64_w, i32_w]
                    rfl
                   refine take_ (i := 13) (N := some 137) (v := ?_) (a' := ?_) #[true, true, true, true, true, true, true, true, true, true, true, true, true, true, true, false] rfl rfl (take_ofW HT_.out HW_.out (by kernel_rfl)) (fun _ _ _ h => h) (Or.inl ⟨by rfl, ?_⟩) hHeld ?_ ?_
                   rotate_left
                   ·rintro w' ⟨s0, s1⟩
                    go_simp
                    with_reducible rfl
                   rotate_left
                   ·simp only [Act.put, s1, s2, s3, i64_w, i32_w]
                    rfl
                   refine pure_ (i := 15) (N := some 21) (v := ?_) (a' := ?_) #[true, true, true, true, true, true, true, true, true, true, true, true, true, true, true, true] rfl rfl (any_of HT_.out (by kernel_rfl)) (fun _ _ _ h => h) (Or.inl ⟨by rfl, ?_⟩) ?_ ?_
                   rotate_left
                   ·intro w'
                    go_simp
                    with_reducible rfl
                   rotate_left
                   ·simp only [Act.put, s1, s2, s3, i64_w, i32_w]
                    rfl
                   refine done_ (done_of HT_.out (by kernel_rfl)) ?_
                   try go_wp2_with (first | ((with_reducible refine gate_callee (f := 20) rfl ?_); refine goesL_ (some 142) rfl rfl Tryd.func20 (by kernel_rfl) rfl #[.slice (some ad831) t814.length co55, .int .i64 (Go.bits .or .i64 (rd t814 t828) (rd t814 t832))] rfl lz ?_; (with_reducible refine (laws_hasInt.calls k3 _ _ t814 (Go.bits .or .i64 (rd t814 t828) (rd t814 t832)) false _ ?side1 ?side2 A64.out).mono ?_); (case side1 => have q_ := Aside0.mk (Kd.R_reads' HO_14.out).2.2; exact cQ q_); (case side2 => exact (Kd.R_reads' HO_14.out).2.1); rintro e w' ⟨rfl, ⟨nd, rfl⟩⟩; refine ⟨_, rfl, ?_⟩))
                   go_ret
                   exact ⟨rz, zLFnOrdersx1⟩
                 ·rw [if_neg c63] at H
                  exact absurd H (by simp)
                ·rw [if_neg c62] at H
                 exact absurd H (by simp)
               ·rw [if_neg c60] at H
                exact absurd H (by simp)
              ·rw [if_neg c59] at H
               exact absurd H (by simp)
             ·rw [if_neg c57] at H
              have c57b0 : decide (x19_3 < 8) = false := decide_eq_false c57
              clear c57
              by_cases c77 : 0 < (t814.length : Int)
              ·rw [if_pos c77] at H
               have c77b0 : decide (0 < (t814.length : Int)) = true := decide_eq_true c77
               have c77b1 : decide (0 < t814.length) = true := decide_eq_true (by omega)
               clear c77
               by_cases c78 : (rd t814 0) = 0
               ·rw [if_pos c78] at H
                have c78b0 : ((rd t814 0) == 0) = true := beq_iff_eq.mpr c78
                have c78b1 : ((rd t814 0) != 0) = false := bne_eq_false_iff_eq.mpr c78
                clear c78
                obtain ⟨ji79, hji79⟩ : ∃ j_ : Int, (wrap64 ((t814.length : Int) - 1)) = j_ := ⟨_, rfl⟩
                replace H : (if 0 ≤ (ji79) then (if (ji79) < (t814.length : Int) then (if 0 ≤ (IntKind.u64.wrap ((t785.length : Int))) then (some ((rd t814 (ji79)) == (wrap64 ((shl .i64 1 (IntKind.u64.wrap ((t785.length : Int)))) - 1)))) else (none)) else (none)) else (none)) = some r := by first | (rw [hji79] at H; exact H) | (simp only [hji79] at H ⊢; exact H)
                have hji79w : (IntKind.i64.wrap ((t814.length : Int) - 1)) = ji79 := (i64_w _).trans hji79
                by_cases c80 : 0 ≤ (ji79)
                ·rw [if_pos c80] at H
                 have c80b0 : decide (0 ≤ (ji79)) = true := decide_eq_true c80
                 clear c80
                 by_cases c81 : (ji79) < (t814.length : Int)
                 ·rw [if_pos c81] at H
                  have c81b0 : decide ((ji79) < (t814.length : Int)) = true := decide_eq_true c81
                  clear c81
                  obtain ⟨ji82, hji82⟩ : ∃ j_ : Int, (IntKind.u64.wrap ((t785.length : Int))) = j_ := ⟨_, rfl⟩
                  replace H : (if 0 ≤ (ji82) then (some ((rd t814 (ji79)) == (wrap64 ((shl .i64 1 (ji82)) - 1)))) else (none)) = some r := by first | (rw [hji82] at H; exact H) | (simp only [hji82] at H ⊢; exact H)
                  by_cases c83 : 0 ≤ (ji82)
                  ·rw [if_pos c83] at H
                   have c83b0 := eq_true c83
                   have c83b1 : decide (0 ≤ (ji82)) = true := decide_eq_true c83
                   clear c83
                   obtain ⟨ji84, hji84⟩ : ∃ j_ : Int, (shl .i64 1 (ji82)) = j_ := ⟨_, rfl⟩
                   replace H : (some ((rd t814 (ji79)) == (wrap64 ((ji84) - 1)))) = some r := by first | (rw [hji84] at H; exact H) | (simp only [hji84] at H ⊢; exact H)
                   have hji84_ : (IntKind.i64.wrap (1 * 2 ^ min (ji82).toNat 64)) = ji84 := hji84
                   have hji84z : (ji82) ≤ 64 → (IntKind.i64.wrap (1 * 2 ^ (ji82).toNat)) = ji84 := shl_small hji84
                   have hji84u : (IntKind.i64.wrap (2 ^ min (ji82).toNat 64)) = ji84 := by have h_ := hji84_; rw [Int.one_mul] at h_; exact h_
                   have hji84v : (ji82) ≤ 64 → (IntKind.i64.wrap (2 ^ (ji82).toNat)) = ji84 := fun hle_ => by have h_ := hji84z hle_; rw [Int.one_mul] at h_; exact h_
                   have hji84y : (wrap64 (1 * 2 ^ min (ji82).toNat 64)) = ji84 := (i64_w _).symm.trans hji84_
                   have hji84x : (ji82) ≤ 64 → (wrap64 (1 * 2 ^ (ji82).toNat)) = ji84 := fun h_ => (i64_w _).symm.trans (hji84z h_)
                   obtain rfl := Option.some.inj H
                   have p826 : 0 ≤ (0 : Int) := (by omega)
                   have q826 : 0 < (t814.length : Int) := of_decide_eq_true (by first | (with_reducible assumption) | assumption)
                   obtain ⟨ad826, e826, hx826_0⟩ := Kd.at_int (Kd.R_reads' HO_14.out).2.2 0 p826 q826; cases e826
                   have qi826 : (0 < t814.length) = True := eq_true (by omega)
                   (try rw [show ((0 : Int)).toNat = 0 from rfl] at hx826_0)
                   (try rw [Addr.add_zero'] at hx826_0)
                   replace p826 := eq_true p826; replace q826 := eq_true q826
                   have p827 : 0 ≤ ((ji79) : Int) := of_decide_eq_true (by first | (with_reducible assumption) | assumption)
                   have q827 : (ji79) < (t814.length : Int) := of_decide_eq_true (by first | (with_reducible assumption) | assumption)
                   obtain ⟨ad827, e827, hx827_0⟩ := Kd.at_int (Kd.R_reads' HO_14.out).2.2 (ji79) p827 q827
                   obtain rfl : ad826 = ad827 := (by injection e827)
                   replace p827 := eq_true p827; replace q827 := eq_true q827
                   go_wp2
                   go_ret
                   exact ⟨by first | rfl | (simp [errW_none, errW_some] <;> rfl) | (simp only [← hji79, ← hji82, ← hji84]; first | rfl | (simp [errW_none, errW_some] <;> rfl)) | (simp [*, errW_none, errW_some] <;> rfl), zLFnOrdersx1⟩
                  ·rw [if_neg c83] at H
                   exact absurd H (by simp)
                 ·rw [if_neg c81] at H
                  exact absurd H (by simp)
                ·rw [if_neg c80] at H
                 exact absurd H (by simp)
               ·rw [if_neg c78] at H
                have c78b0 : ((rd t814 0) == 0) = false := beq_eq_false_iff_ne.mpr c78
                have c78b1 : ((rd t814 0) != 0) = true := bne_iff_ne.mpr c78
                obtain rfl := Option.some.inj H
                have p826 : 0 ≤ (0 : Int) := (by omega)
                have q826 : 0 < (t814.length : Int) := of_decide_eq_true (by first | (with_reducible assumption) | assumption)
                obtain ⟨ad826, e826, hx826_0⟩ := Kd.at_int (Kd.R_reads' HO_14.out).2.2 0 p826 q826; cases e826
                have qi826 : (0 < t814.length) = True := eq_true (by omega)
                (try rw [show ((0 : Int)).toNat = 0 from rfl] at hx826_0)
                (try rw [Addr.add_zero'] at hx826_0)
                replace p826 := eq_true p826; replace q826 := eq_true q826
                go_wp2
                go_ret
                exact ⟨rz, zLFnOrdersx1⟩
              ·rw [if_neg c77] at H
               exact absurd H (by simp)
         ·rw [if_neg c49] at H
          have c49b0 : (t815 == 0) = false := beq_eq_false_iff_ne.mpr c49
          have c49b1 : (t815 != 0) = true := bne_iff_ne.mpr c49
          replace H := Option.bind_eq_some_iff.mp H
          obtain ⟨⟨t818, t819⟩, A850, H⟩ := H
          replace H : (if t815 = 3 then (some (t819 == t815)) else (some false)) = some r := H
          have A85 := Aside0.mk A850; clear A850
          by_cases c86 : t815 = 3
          ·rw [if_pos c86] at H
           have c86b0 : (t815 == 3) = true := beq_iff_eq.mpr c86
           have c86b1 : (t815 != 3) = false := bne_eq_false_iff_eq.mpr c86
           clear c86
           obtain rfl := Option.some.inj H
           go_wp2_with (first | ((with_reducible refine gate_callee (f := 22) rfl ?_); refine goesL_ (some 98) rfl rfl Tryd.func22 (by kernel_rfl) rfl #[.slice Ao9 t785.length co9] rfl lz ?_; (with_reducible refine (impl_DownsetsOf.calls kj26 _ _ t785 t814 t815 _ ?side1 ?side2 ?side3 A48.out).mono ?_); (case side1 => have q_ := Aside0.mk (Kd.R_reads' HO_3.out).2.2; exact cQ q_); (case side2 => exact (Kd.R_reads' HO_3.out).2.1); (case side3 => exact TabW.below HT.out (beQ HB)); rintro e w87 ⟨v816, rfl, ho0, hb⟩; refine ⟨_, rfl, ?_⟩; have HO817 := Aside0.mk (Kd.R_lower (Kd.R_new' ho0 (Kd.R_lt (kdQ HO_3))) (below_size (beQ HB))); replace HO_3 := Aside0.mk (Kd.R_elder' (kdQ HO_3) (Kd.R_base ho0) hb); replace HB := Aside0.mk (below_step (beQ HB) hb); (try clear hb); (try clear hb2); (try clear hk); (try clear hi); (try clear hgw_); (try clear ho0)) | ((with_reducible refine gate_callee (f := 21) rfl ?_); refine goesL_ (some 105) rfl rfl Tryd.func21 (by kernel_rfl) rfl #[.slice Ao9 t785.length co9] rfl lz ?_; (with_reducible refine (spec_DownsetsOf.calls kj26 _ _ t785 t818 t819 _ ?side1 ?side2 A85.out).mono ?_); (case side1 => have q_ := Aside0.mk (Kd.R_reads' HO_3.out).2.2; exact cQ q_); (case side2 => exact (Kd.R_reads' HO_3.out).2.1); rintro e w88 ⟨v820, rfl, ho0, hb⟩; refine ⟨_, rfl, ?_⟩; have HO821 := Aside0.mk (Kd.R_lower (Kd.R_new' (Kd.R_new' ho0 (Kd.R_lt (kdQ HO_3))) (Kd.R_lt (kdQ HO817))) (below_size (beQ HB))); replace HO_3 := Aside0.mk (Kd.R_elder' (kdQ HO_3) (Kd.R_base ho0) hb); replace HO817 := Aside0.mk (Kd.R_elder' (kdQ HO817) (Kd.R_base ho0) hb); replace HB := Aside0.mk (below_step (beQ HB) hb); (try clear hb); (try clear hb2); (try clear hk); (try clear hi); (try clear hgw_); (try clear ho0)))
           go_ret
           exact ⟨rz, beQ HB⟩
          ·rw [if_neg c86] at H
           have c86b0 : (t815 == 3) = false := beq_eq_false_iff_ne.mpr c86
           have c86b1 : (t815 != 3) = true := bne_iff_ne.mpr c86
           obtain rfl := Option.some.inj H
           go_wp2_with (first | ((with_reducible refine gate_callee (f := 22) rfl ?_); refine goesL_ (some 98) rfl rfl Tryd.func22 (by kernel_rfl) rfl #[.slice Ao9 t785.length co9] rfl lz ?_; (with_reducible refine (impl_DownsetsOf.calls kj26 _ _ t785 t814 t815 _ ?side1 ?side2 ?side3 A48.out).mono ?_); (case side1 => have q_ := Aside0.mk (Kd.R_reads' HO_3.out).2.2; exact cQ q_); (case side2 => exact (Kd.R_reads' HO_3.out).2.1); (case side3 => exact TabW.below HT.out (beQ HB)); rintro e w89 ⟨v816, rfl, ho0, hb⟩; refine ⟨_, rfl, ?_⟩; have HO817 := Aside0.mk (Kd.R_lower (Kd.R_new' ho0 (Kd.R_lt (kdQ HO_3))) (below_size (beQ HB))); replace HO_3 := Aside0.mk (Kd.R_elder' (kdQ HO_3) (Kd.R_base ho0) hb); replace HB := Aside0.mk (below_step (beQ HB) hb); (try clear hb); (try clear hb2); (try clear hk); (try clear hi); (try clear hgw_); (try clear ho0)) | ((with_reducible refine gate_callee (f := 21) rfl ?_); refine goesL_ (some 105) rfl rfl Tryd.func21 (by kernel_rfl) rfl #[.slice Ao9 t785.length co9] rfl lz ?_; (with_reducible refine (spec_DownsetsOf.calls kj26 _ _ t785 t818 t819 _ ?side1 ?side2 A85.out).mono ?_); (case side1 => have q_ := Aside0.mk (Kd.R_reads' HO_3.out).2.2; exact cQ q_); (case side2 => exact (Kd.R_reads' HO_3.out).2.1); rintro e w90 ⟨v820, rfl, ho0, hb⟩; refine ⟨_, rfl, ?_⟩; have HO821 := Aside0.mk (Kd.R_lower (Kd.R_new' (Kd.R_new' ho0 (Kd.R_lt (kdQ HO_3))) (Kd.R_lt (kdQ HO817))) (below_size (beQ HB))); replace HO_3 := Aside0.mk (Kd.R_elder' (kdQ HO_3) (Kd.R_base ho0) hb); replace HO817 := Aside0.mk (Kd.R_elder' (kdQ HO817) (Kd.R_base ho0) hb); replace HB := Aside0.mk (below_step (beQ HB) hb); (try clear hb); (try clear hb2); (try clear hk); (try clear hi); (try clear hgw_); (try clear ho0)))
           go_ret
           exact ⟨rz, beQ HB⟩
     ·rw [if_neg c23] at H
      have c23b0 : (t789 == 0) = false := beq_eq_false_iff_ne.mpr c23
      have c23b1 : (t789 != 0) = true := bne_iff_ne.mpr c23
      obtain rfl := Option.some.inj H
      go_wp2
      go_ret
      exact ⟨rz, beQ HB⟩
end Go.Proofs.YtjckfnaohikmbaaDoor.G
