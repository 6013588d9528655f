-- A copy, with what one law needs, of a text that print.sh or a program of ours wrote
import Derived.Test.YtjckfnaohikmbaaDoorZ1G0
import Derived.Test.YtjckfnaohikmbaaDoorZ1GQ00a
import Derived.Test.YtjckfnaohikmbaaDoorZ1GQ05
import Derived.Test.YtjckfnaohikmbaaDoorZ1GQ08b
import Derived.Test.YtjckfnaohikmbaaDoorZ1GQ09b
namespace Go.Proofs.YtjckfnaohikmbaaDoor.G
open Go.RowKit Go.Proofs.YtjckfnaohikmbaaDoorW.PrintWords Go.Proofs.YtjckfnaohikmbaaDoorW.PrintLast Go.Proofs.YtjckfnaohikmbaaDoorW.PrintMore
theorem zQ09cx0 {p : Prop} (h : p := by repeat (first | (with_reducible first | exact HB.out | apply below_alloc | apply pw_below_drewN | apply below_drew1) | exact HB.out)) : p := h
theorem zQ09cx1 {p : Prop} (h : p := by repeat (first | (with_reducible first | exact HI721.out | apply IsS61.alloc | apply IsS61.drewN | apply IsS61.drew | apply IsS61.set_1 | apply IsS61.set_2) | exact HI721.out)) : p := h
theorem zQ09cx2 {p : Prop} (h : p := by repeat (first | (with_reducible first | exact HB.out | apply below_alloc | apply pw_below_drewN | apply below_drew1 | refine below_set ?_ (IsS61.ge HI721.out)) | exact HB.out)) : p := h
theorem zQ09cx3 {p : Prop} (h : p := by first | exact ⟨rfl, _, World.drewN_drewN _ _ _⟩ | exact ⟨rfl, _, Eq.trans (World.drewN_drewN _ _ _) (congrArg (World.drewN _) (Nat.add_assoc _ _ _))⟩) : p := h
attribute [local go_sem] max2_int min2_int max_two min_two max_three min_three max_four min_four   -- for this text's walks alone
set_option linter.unusedVariables false
set_option linter.unusedSimpArgs false
def spec_DrawDownsetsOf.l0 : Nat → List Int → Int → Option (List Int)
 | 0, _, _ => none
 | k + 1, x4, x5 => if x5 > 0 then ((spec_l01One.f (x4.length : Int)).bind fun t734 => (if x4.length < 17592186044416 then (spec_DrawDownsetsOf.l0 k (x4 ++ [t734]) (wrap64 (x5 - 1))) else (none))) else (some x4)
def spec_DrawDownsetsOf.f (k : Nat) (l0 : List Int) : Option (List Int) := (spec_l01From.f k l0).bind fun bt718 => ((spec_l01Next.f bt718.1 bt718.2.1 bt718.2.2 10).bind fun bt722 => (if bt722.1 = 0 then ((spec_l01Pick.f bt718.1 bt722.2.1 bt722.2.2 (([12, 13, 11] : List Int))).bind fun bt731 => (spec_DrawDownsetsOf.l0 k (([] : List Int)) bt731.1)) else ((spec_l01Order.f k bt718.1 bt722.2.1 bt722.2.2 14).bind fun bt738 => (some bt738.1))))
set_option maxHeartbeats 8000000 in
set_option maxRecDepth 100000 in
theorem spec_DrawDownsetsOf.calls (k : Nat) (A0 : Option Addr) (c0 : Nat) (l0 : List Int) (r : List Int) (w : World) (hr0 : Kd.C (Kd.int .u8) w A0 l0.length l0) (hc0 : l0.length ≤ c0) (h : spec_DrawDownsetsOf.f k l0 = some r) :
  Calls Tryd.prog 23 #[.slice A0 l0.length c0] w fun e w' => ∃ v0_ : Value, e = .returned (v0_) ∧ Kd.R (Kd.int .i64) 2 w' w.heap.size (fun _ => True) v0_ r ∧ Below w.heap.size w w' := by
 have HR0 := Aside0.mk hr0; have HC0 := Aside0.mk hc0; clear hr0 hc0; have HB := Aside0.mk (Below.refl w.heap.size w)
 have H : ((spec_l01From.f k l0).bind fun bt718 => ((spec_l01Next.f bt718.1 bt718.2.1 bt718.2.2 10).bind fun bt722 => (if bt722.1 = 0 then ((spec_l01Pick.f bt718.1 bt722.2.1 bt722.2.2 (([12, 13, 11] : List Int))).bind fun bt731 => (spec_DrawDownsetsOf.l0 k (([] : List Int)) bt731.1)) else ((spec_l01Order.f k bt718.1 bt722.2.1 bt722.2.2 14).bind fun bt738 => (some bt738.1))))) = some r := h
 clear h; replace H := Option.bind_eq_some_iff.mp H
 obtain ⟨⟨t718, t719, t720⟩, A20, H⟩ := H
 replace H : ((spec_l01Next.f t718 t719 t720 10).bind fun bt722 => (if bt722.1 = 0 then ((spec_l01Pick.f t718 bt722.2.1 bt722.2.2 (([12, 13, 11] : List Int))).bind fun bt731 => (spec_DrawDownsetsOf.l0 k (([] : List Int)) bt731.1)) else ((spec_l01Order.f k t718 bt722.2.1 bt722.2.2 14).bind fun bt738 => (some bt738.1)))) = some r := H
 have A2 := Aside0.mk A20; clear A20; replace H := Option.bind_eq_some_iff.mp H
 obtain ⟨⟨t722, t723, t724⟩, A30, H⟩ := H
 replace H : (if t722 = 0 then ((spec_l01Pick.f t718 t723 t724 (([12, 13, 11] : List Int))).bind fun bt731 => (spec_DrawDownsetsOf.l0 k (([] : List Int)) bt731.1)) else ((spec_l01Order.f k t718 t723 t724 14).bind fun bt738 => (some bt738.1))) = some r := H
 have A3 := Aside0.mk A30; clear A30
 by_cases c4 : t722 = 0
 ·rw [if_pos c4] at H
  have c4b0 : (t722 == 0) = true := beq_iff_eq.mpr c4
  have c4b1 : (t722 != 0) = false := bne_eq_false_iff_eq.mpr c4
  clear c4
  obtain ⟨y725, hy725⟩ : ∃ y_ : List Int, y_ = (([] : List Int)) := ⟨_, rfl⟩
  replace H : ((spec_l01Pick.f t718 t723 t724 (([12, 13, 11] : List Int))).bind fun bt731 => (spec_DrawDownsetsOf.l0 k y725 bt731.1)) = some r := by first | (rw [hy725]; with_reducible exact H) | (have H2_ := (Option.bind_some _ _).symm.trans H; rw [hy725]; with_reducible exact H2_) | (have H2_ := (Option.bind_some _ _).symm.trans H; with_reducible exact H2_) | with_reducible exact H | (rw [hy725]; exact H) | exact H
  have Ny725 := Aside0.mk hy725; clear hy725
  obtain ⟨y728, hy728⟩ : ∃ y_ : List Int, y_ = (([12, 13, 11] : List Int)) := ⟨_, rfl⟩
  replace H : ((spec_l01Pick.f t718 t723 t724 y728).bind fun bt731 => (spec_DrawDownsetsOf.l0 k y725 bt731.1)) = some r := by first | (rw [hy728]; with_reducible exact H) | (have H2_ := (Option.bind_some _ _).symm.trans H; rw [hy728]; with_reducible exact H2_) | (have H2_ := (Option.bind_some _ _).symm.trans H; with_reducible exact H2_) | with_reducible exact H | (rw [hy728]; exact H) | exact H
  have Ny728 := Aside0.mk hy728; clear hy728; replace H := Option.bind_eq_some_iff.mp H
  obtain ⟨⟨t731, t732, t733⟩, A50, H⟩ := H
  replace H : (spec_DrawDownsetsOf.l0 k y725 t731) = some r := H
  have A5 := Aside0.mk A50; clear A50
  have H' := Aside0.mk H
  clear H
  go_enter Tryd.func23, Tryd.ntmps23
  go_wp2_with (first | ((with_reducible refine gate_callee (f := 39) rfl ?_); refine goesL_ (some 7) rfl rfl Tryd.func39 (by kernel_rfl) rfl #[.slice A0 l0.length c0] rfl lz ?_; (with_reducible refine (spec_l01From.calls k _ _ l0 t718 t719 t720 w _ ?side1 ?side2 ?side3 A2.out).mono ?_); (case side1 => exact zQ09cx0); (case side2 => exact HR0.out); (case side3 => exact HC0.out); rintro e w6 ⟨g721, rfl, hi, hb, hb2, hgw_⟩; refine ⟨_, rfl, ?_⟩; replace HB := Aside0.mk (hb); have HI721 := Aside0.mk (hi); (try clear hb); (try clear hb2); (try clear hk); (try clear hi); (try clear hgw_)) | ((with_reducible refine gate_callee (f := 40) rfl ?_); refine goesL_ (some 9) rfl rfl Tryd.func40 (by kernel_rfl) rfl #[.pointer (some ⟨g721, 0, none⟩), .int .i64 10] rfl lz ?_; (with_reducible refine (spec_l01Next.calls g721 t718 t719 t720 10 t722 t723 t724 w _ ?side1 ?side2 A3.out).mono ?_); (case side1 => exact zQ09cx1); (case side2 => exact zQ09cx2); rintro e w7 ⟨rfl, hi, hb, hk⟩; refine ⟨_, rfl, ?_⟩; replace HB := Aside0.mk (hb); replace HI721 := Aside0.mk (hi); (try clear hb); (try clear hb2); (try clear hk); (try clear hi); (try clear hgw_)) | ((with_reducible refine gate_dst (N := 11) rfl ?_); refine Kd.R_lit (Kd.int .i64) _ 2 ?hg (N := 11) ?hd (xs := ([] : List Int)) (inner := []) (ok := fun _ => True) (okp := fun _ => True) ?hr ?hp (fun _ hk => hk) trivial (Below.refl _ _) (Nat.le_refl _) (by simp) ?_; (case hd => rfl); (case hg => rfl); (case hr => first | (go_simp; done) | (go_simp; rfl)); (case hp => exact (Reps.none _ _)); intro v726 w8 ho9 hb hg_ hnew_; clear hg_ hnew_; (first | rw [← Ny725.out] at ho9 | (simp only [Int.reduceToNat] at ho9; rw [← Ny725.out] at ho9)); have HO727 := Aside0.mk (Kd.R_lower ho9 (below_size (zQ09cx2))); replace HB := Aside0.mk (below_step (zQ09cx2) hb); replace HI721 := Aside0.mk (IsS61.below (zQ09cx1) hb); clear hb ho9) | ((with_reducible refine gate_dst (N := 13) rfl ?_); refine Kd.R_lit (Kd.int .i64) _ 2 ?hg (N := 13) ?hd (xs := ([12, 13, 11] : List Int)) (inner := [.int .i64 12, .int .i64 13, .int .i64 11]) (ok := fun _ => True) (okp := fun _ => True) ?hr ?hp (fun _ hk => hk) trivial (Below.refl _ _) (Nat.le_refl _) (by simp) ?_; (case hd => rfl); (case hg => rfl); (case hr => first | (go_simp; done) | (go_simp; rfl)); (case hp => exact (Reps.one (show Kd.M (Kd.int .i64) _ _ _ 12 [.int .i64 12] from rfl) (Reps.one (show Kd.M (Kd.int .i64) _ _ _ 13 [.int .i64 13] from rfl) (Reps.one (show Kd.M (Kd.int .i64) _ _ _ 11 [.int .i64 11] from rfl) (Reps.none _ _))))); intro v729 w10 ho11 hb hg_ hnew_; clear hg_ hnew_; (first | rw [← Ny728.out] at ho11 | (simp only [Int.reduceToNat] at ho11; rw [← Ny728.out] at ho11)); have HO730 := Aside0.mk (Kd.R_lower (Kd.R_new' ho11 (Kd.R_lt (kdQ HO727))) (below_size (zQ09cx2))); replace HO727 := Aside0.mk (Kd.R_elder' (kdQ HO727) (Kd.R_base ho11) hb); replace HB := Aside0.mk (below_step (zQ09cx2) hb); replace HI721 := Aside0.mk (IsS61.below (zQ09cx1) hb); clear hb ho11; obtain ⟨Ao12, co12, eo12⟩ := Kd.R_slice HO730.out; subst eo12) | ((with_reducible refine gate_callee (f := 46) rfl ?_); refine goesL_ (some 14) rfl rfl Tryd.func46 (by kernel_rfl) rfl #[.pointer (some ⟨g721, 0, none⟩), .slice Ao12 y728.length co12] rfl lz ?_; (with_reducible refine (spec_l01Pick.calls g721 t718 t723 t724 _ _ y728 t731 t732 t733 w _ ?side1 ?side2 ?side3 ?side4 ?side5 A5.out).mono ?_); (case side1 => exact zQ09cx1); (case side2 => exact zQ09cx2); (case side3 => have q_ := Aside0.mk (Kd.R_reads' HO730.out).2.2; exact cQ q_); (case side4 => exact (Kd.R_reads' HO730.out).2.1); (case side5 => exact far_slice (IsS61.own_ne HI721.out HO730.out (by decide))); rintro e w13 ⟨rfl, hi, hb, hk⟩; refine ⟨_, rfl, ?_⟩; replace HO727 := Aside0.mk (Kd.R_mono (Kd.R_keep (IsS61.apart (show IsS61 w _ g721 t718 t723 t724 from zQ09cx1) (kdQ HO727) (by decide)) hk (fun _ h => h.2)) (fun _ h => h.1)); replace HO730 := Aside0.mk (Kd.R_mono (Kd.R_keep (IsS61.apart (show IsS61 w _ g721 t718 t723 t724 from zQ09cx1) (kdQ HO730) (by decide)) hk (fun _ h => h.2)) (fun _ h => h.1)); replace HB := Aside0.mk (hb); replace HI721 := Aside0.mk (hi); (try clear hb); (try clear hb2); (try clear hk); (try clear hi); (try clear hgw_)))
  go_loopg [4, 5] k (fun kq v4 v5 w' => ∃ (x4_1 : List Int) (x5_1 : Int), v5 = .int .i64 x5_1 ∧ Aside0 (spec_DrawDownsetsOf.l0 kq x4_1 x5_1 = some r) ∧ Aside0 (kq ≤ k) ∧ Aside0 (Kd.R (Kd.int .i64) 2 w' w.heap.size (fun _ => True) v4 x4_1) ∧ Aside0 (Below w.heap.size w w'))
  case atStart => exact ⟨(y725), (t731), sz, H', ⟨Nat.le_refl _⟩, ⟨by (with_reducible repeat (first | apply Kd.R_alloc | apply Kd.R_drewN | apply Kd.R_drew)); exact Kd.R_mono HO727.out (fun _ hk => trivial)⟩, ⟨zQ09cx2⟩⟩
  case round =>
   clear H'
   try clear c2
   try clear p2
   try clear c3
   try clear c4
   try clear c4b0
   try clear c4b1
   obtain ⟨x4_1, x5_1, rfl, HA, HK1, HO_4, HB⟩ := hrel
   cases gk with
   | zero => exact absurd HA.out (by simp [spec_DrawDownsetsOf.l0])
   | succ k1 =>
    have H := HA.out; clear HA
    simp only [spec_DrawDownsetsOf.l0] at H
    by_cases c14 : x5_1 > 0
    ·rw [if_pos c14] at H
     have c14b0 : decide (0 < x5_1) = true := decide_eq_true c14
     clear c14; replace H := Option.bind_eq_some_iff.mp H; obtain ⟨t734, A150, H⟩ := H
     replace H : (if x4_1.length < 17592186044416 then (spec_DrawDownsetsOf.l0 k1 (x4_1 ++ [t734]) (wrap64 (x5_1 - 1))) else (none)) = some r := H
     have A15 := Aside0.mk A150; clear A150
     by_cases c16 : x4_1.length < 17592186044416
     ·rw [if_pos c16] at H
      have LMc16 := Aside0.mk c16; clear c16
      obtain ⟨y735, hy735⟩ : ∃ y_ : List Int, y_ = (x4_1 ++ [t734]) := ⟨_, rfl⟩
      replace H : (spec_DrawDownsetsOf.l0 k1 y735 (wrap64 (x5_1 - 1))) = some r := by first | (rw [hy735]; with_reducible exact H) | (have H2_ := (Option.bind_some _ _).symm.trans H; rw [hy735]; with_reducible exact H2_) | (have H2_ := (Option.bind_some _ _).symm.trans H; with_reducible exact H2_) | with_reducible exact H | (rw [hy735]; exact H) | exact H
      have Ny735 := Aside0.mk hy735; clear hy735
      have H' := Aside0.mk H
      clear H; obtain ⟨Ao17, co17, eo17⟩ := Kd.R_slice HO_4.out; subst eo17
      go_wp2_with (first | ((with_reducible refine gate_callee (f := 47) rfl ?_); refine goesL_ (some 22) rfl rfl Tryd.func47 (by kernel_rfl) rfl #[.int .i64 (x4_1.length : Int)] rfl lz ?_; (with_reducible refine (spec_l01One.calls (x4_1.length : Int) t734 _ A15.out).mono ?_); rintro e w' ⟨rfl, ⟨nd, rfl⟩⟩; refine ⟨_, rfl, ?_⟩) | ((with_reducible refine gate_builtin (b := .append) (xs := #[.tmp 19, .tmp 23]) rfl ?_); at_builtin; refine Kd.R_append (Kd.int .i64) (w0 := w) w.heap.size rfl (.tmp 19) (.tmp 23) 22 2 (.int .i64 0) 8 rfl Tryd.underlying22 info2 rfl (by decide) (by omega) (.slice Ao17 x4_1.length co17) x4_1 t734 [.int .i64 t734] (fun _ => True) (fun _ => False) rfl rfl ?aP (fun _ hk => hk.elim) ?aF ?aO ?aB ?aS ?aL ?_; (case aP => exact rfl); (case aB => exact (beQ HB)); (case aF => exact (fun _ _ => trivial)); (case aO => exact (kdQ HO_4)); (case aS => exact (below_size (beQ HB))); (case aL => have := LMc16.out; omega); intro v736 w18 ho hb hg hat; rw [← Ny735.out] at ho; have n0_ := Aside0.mk (hb); have n1_ := Aside0.mk (ho); clear HB; clear HO_4; have HB := n0_; have HO737 := n1_; clear n0_ n1_; clear ho hb hg hat))
      go_roundg k1
      case measure => have := HK1.out; omega
      case rel => exact ⟨(y735), (wrap64 (x5_1 - 1)), sz, H', ⟨by have := HK1.out; omega⟩, ⟨kdQ HO737⟩, ⟨beQ HB⟩⟩
     ·rw [if_neg c16] at H
      exact absurd H (by simp)
    ·rw [if_neg c14] at H
     have c14b0 : decide (0 < x5_1) = false := decide_eq_false c14
     clear c14
     obtain rfl := Option.some.inj H
     go_wp2
     go_ret
     exact ⟨_, rz, kdQ HO_4, beQ HB⟩
 ·rw [if_neg c4] at H
  have c4b0 : (t722 == 0) = false := beq_eq_false_iff_ne.mpr c4
  have c4b1 : (t722 != 0) = true := bne_iff_ne.mpr c4
  replace H := Option.bind_eq_some_iff.mp H
  obtain ⟨⟨t738, t741, t742⟩, A190, H⟩ := H
  replace H : (some t738) = some r := H
  have A19 := Aside0.mk A190; clear A190
  obtain rfl := Option.some.inj H
  go_enter Tryd.func23, Tryd.ntmps23
  go_wp2_with (first | ((with_reducible refine gate_callee (f := 39) rfl ?_); refine goesL_ (some 7) rfl rfl Tryd.func39 (by kernel_rfl) rfl #[.slice A0 l0.length c0] rfl lz ?_; (with_reducible refine (spec_l01From.calls k _ _ l0 t718 t719 t720 w _ ?side1 ?side2 ?side3 A2.out).mono ?_); (case side1 => exact zQ09cx0); (case side2 => exact HR0.out); (case side3 => exact HC0.out); rintro e w20 ⟨g721, rfl, hi, hb, hb2, hgw_⟩; refine ⟨_, rfl, ?_⟩; replace HB := Aside0.mk (hb); have HI721 := Aside0.mk (hi); (try clear hb); (try clear hb2); (try clear hk); (try clear hi); (try clear hgw_)) | ((with_reducible refine gate_callee (f := 40) rfl ?_); refine goesL_ (some 9) rfl rfl Tryd.func40 (by kernel_rfl) rfl #[.pointer (some ⟨g721, 0, none⟩), .int .i64 10] rfl lz ?_; (with_reducible refine (spec_l01Next.calls g721 t718 t719 t720 10 t722 t723 t724 w _ ?side1 ?side2 A3.out).mono ?_); (case side1 => exact zQ09cx1); (case side2 => exact zQ09cx2); rintro e w21 ⟨rfl, hi, hb, hk⟩; refine ⟨_, rfl, ?_⟩; replace HB := Aside0.mk (hb); replace HI721 := Aside0.mk (hi); (try clear hb); (try clear hb2); (try clear hk); (try clear hi); (try clear hgw_)) | ((with_reducible refine gate_callee (f := 48) rfl ?_); refine goesL_ (some 27) rfl rfl Tryd.func48 (by kernel_rfl) rfl #[.pointer (some ⟨g721, 0, none⟩), .int .i64 14] rfl lz ?_; (with_reducible refine (spec_l01Order.calls k g721 t718 t723 t724 14 t738 t741 t742 w _ ?side1 ?side2 A19.out).mono ?_); (case side1 => exact zQ09cx1); (case side2 => exact zQ09cx2); rintro e w22 ⟨v739, rfl, ho0, hi, hb, hk⟩; refine ⟨_, rfl, ?_⟩; have HO740 := Aside0.mk (Kd.R_lower ho0 (below_size (zQ09cx2))); replace HB := Aside0.mk (hb); replace HI721 := Aside0.mk (hi); (try clear hb); (try clear hb2); (try clear hk); (try clear hi); (try clear hgw_); (try clear ho0)))
  go_ret
  exact ⟨_, rz, kdQ HO740, zQ09cx2⟩
mutual
def impl_covers.l0 : Nat → List Int → List Int → List Int → Int → Int → Option (List Int)
 | 0, _, _, _, _, _ => none
 | k + 1, x0, x3, x11, x12, x13 => if x13 < x12 then (if 0 ≤ x13 then (if x13 < (x11.length : Int) then ((impl_one.f x13).bind fun t747 => ((impl_members.f k (Go.bits .andNot .i64 (rd x11 x13) t747)).bind fun t748 => (impl_covers.l1 k x0 x3 (Go.bits .andNot .i64 (rd x11 x13) t747) 0 x11 x12 x13 t748 (t748.length : Int) 0))) else (none)) else (none)) else (some x3)
def impl_covers.l1 : Nat → List Int → List Int → Int → Int → List Int → Int → Int → List Int → Int → Int → Option (List Int)
 | 0, _, _, _, _, _, _, _, _, _, _ => none
 | k + 1, x0, x3, x6, x7, x11, x12, x13, x23, x24, x25 => if x25 < x24 then (if 0 ≤ x25 then (if x25 < (x23.length : Int) then (if 0 ≤ (rd x23 x25) then (if (rd x23 x25) < (x0.length : Int) then ((impl_one.f (rd x23 x25)).bind fun t753 => (impl_covers.l1 k x0 x3 x6 (Go.bits .or .i64 x7 (Go.bits .andNot .i64 (rd x0 (rd x23 x25)) t753)) x11 x12 x13 x23 x24 (wrap64 (x25 + 1)))) else (none)) else (none)) else (none)) else (none)) else (if x3.length < 17592186044416 then (impl_covers.l0 k x0 (x3 ++ [Go.bits .andNot .i64 x6 x7]) x11 x12 (wrap64 (x13 + 1))) else (none))
end
def impl_covers.f (k : Nat) (l0 : List Int) : Option (List Int) := impl_covers.l0 k l0 (([] : List Int)) l0 (l0.length : Int) 0
set_option maxHeartbeats 8000000 in
set_option maxRecDepth 100000 in
theorem impl_covers.calls (k : Nat) (A0 : Option Addr) (c0 : Nat) (l0 : List Int) (r : List Int) (w : World) (hr0 : Kd.C (Kd.int .i64) w A0 l0.length l0) (hc0 : l0.length ≤ c0) (hT : TabW w) (h : impl_covers.f k l0 = some r) :
  Calls Tryd.prog 49 #[.slice A0 l0.length c0] w fun e w' => ∃ v0_ : Value, e = .returned (v0_) ∧ Kd.R (Kd.int .i64) 2 w' w.heap.size (fun _ => True) v0_ r ∧ Below w.heap.size w w' := by
 have HT := Aside0.mk hT; clear hT; have HR0 := Aside0.mk hr0; have HC0 := Aside0.mk hc0; clear hr0 hc0; have HB := Aside0.mk (Below.refl w.heap.size w)
 have H : (impl_covers.l0 k l0 (([] : List Int)) l0 (l0.length : Int) 0) = some r := h
 clear h
 obtain ⟨y743, hy743⟩ : ∃ y_ : List Int, y_ = (([] : List Int)) := ⟨_, rfl⟩
 replace H : (impl_covers.l0 k l0 y743 l0 (l0.length : Int) 0) = some r := by first | (rw [hy743]; with_reducible exact H) | (have H2_ := (Option.bind_some _ _).symm.trans H; rw [hy743]; with_reducible exact H2_) | (have H2_ := (Option.bind_some _ _).symm.trans H; with_reducible exact H2_) | with_reducible exact H | (rw [hy743]; exact H) | exact H
 have Ny743 := Aside0.mk hy743; clear hy743
 have H' := Aside0.mk H
 clear H
 go_enter Tryd.func49, Tryd.ntmps49
 go_wp2_with (first | ((with_reducible refine gate_dst (N := 10) rfl ?_); refine Kd.R_lit (Kd.int .i64) _ 2 ?hg (N := 10) ?hd (xs := ([] : List Int)) (inner := []) (ok := fun _ => True) (okp := fun _ => True) ?hr ?hp (fun _ hk => hk) trivial (Below.refl _ _) (Nat.le_refl _) (by simp) ?_; (case hd => rfl); (case hg => rfl); (case hr => first | (go_simp; done) | (go_simp; rfl)); (case hp => exact (Reps.none _ _)); intro v744 w2 ho3 hb hg_ hnew_; clear hg_ hnew_; (first | rw [← Ny743.out] at ho3 | (simp only [Int.reduceToNat] at ho3; rw [← Ny743.out] at ho3)); have HO745 := Aside0.mk (Kd.R_lower ho3 (below_size (beQ HB))); replace HB := Aside0.mk (below_step (beQ HB) hb); clear hb ho3))
 repeat (go_quiet (first | ((with_reducible refine gate_dst (N := 10) rfl ?_); refine Kd.R_lit (Kd.int .i64) _ 2 ?hg (N := 10) ?hd (xs := ([] : List Int)) (inner := []) (ok := fun _ => True) (okp := fun _ => True) ?hr ?hp (fun _ hk => hk) trivial (Below.refl _ _) (Nat.le_refl _) (by simp) ?_; (case hd => rfl); (case hg => rfl); (case hr => first | (go_simp; done) | (go_simp; rfl)); (case hp => exact (Reps.none _ _)); intro v744 w2 ho3 hb hg_ hnew_; clear hg_ hnew_; (first | rw [← Ny743.out] at ho3 | (simp only [Int.reduceToNat] at ho3; rw [← Ny743.out] at ho3)); have HO745 := Aside0.mk (Kd.R_lower ho3 (below_size (beQ HB))); replace HB := Aside0.mk (below_step (beQ HB) hb); clear hb ho3)); try go_wp2_with (first | ((with_reducible refine gate_dst (N := 10) rfl ?_); refine Kd.R_lit (Kd.int .i64) _ 2 ?hg (N := 10) ?hd (xs := ([] : List Int)) (inner := []) (ok := fun _ => True) (okp := fun _ => True) ?hr ?hp (fun _ hk => hk) trivial (Below.refl _ _) (Nat.le_refl _) (by simp) ?_; (case hd => rfl); (case hg => rfl); (case hr => first | (go_simp; done) | (go_simp; rfl)); (case hp => exact (Reps.none _ _)); intro v744 w2 ho3 hb hg_ hnew_; clear hg_ hnew_; (first | rw [← Ny743.out] at ho3 | (simp only [Int.reduceToNat] at ho3; rw [← Ny743.out] at ho3)); have HO745 := Aside0.mk (Kd.R_lower ho3 (below_size (beQ HB))); replace HB := Aside0.mk (below_step (beQ HB) hb); clear hb ho3)))
 go_loopg [3, 13] k (fun kq v3 v13 w' => ∃ (x3_1 : List Int) (x13_1 : Int), v13 = .int .i64 x13_1 ∧ Aside0 (impl_covers.l0 kq l0 x3_1 l0 (l0.length : Int) x13_1 = some r) ∧ Aside0 (kq ≤ k) ∧ Aside0 (Kd.R (Kd.int .i64) 2 w' w.heap.size (fun _ => True) v3 x3_1) ∧ Aside0 (Below w.heap.size w w'))
 case atStart => exact ⟨(y743), (0), sz, H', ⟨Nat.le_refl _⟩, ⟨kdQ HO745⟩, ⟨beQ HB⟩⟩
 case round =>
  clear H'
  try clear p2
  obtain ⟨x3_1, x13_1, rfl, HA, HK1, HO_3, HB⟩ := hrel
  cases gk with
  | zero => exact absurd HA.out (by simp [impl_covers.l0])
  | succ k1 =>
   have H := HA.out; clear HA
   simp only [impl_covers.l0] at H
   by_cases c4 : x13_1 < (l0.length : Int)
   ·rw [if_pos c4] at H
    have c4b0 : decide (x13_1 < (l0.length : Int)) = true := decide_eq_true c4
    clear c4
    by_cases c5 : 0 ≤ x13_1
    ·rw [if_pos c5] at H
     have c5b0 : decide (0 ≤ x13_1) = true := decide_eq_true c5
     clear c5
     by_cases c6 : x13_1 < (l0.length : Int)
     ·rw [if_pos c6] at H
      have c6b0 : decide (x13_1 < (l0.length : Int)) = true := decide_eq_true c6
      clear c6; replace H := Option.bind_eq_some_iff.mp H; obtain ⟨t747, A70, H⟩ := H
      replace H : ((impl_members.f k1 (Go.bits .andNot .i64 (rd l0 x13_1) t747)).bind fun t748 => (impl_covers.l1 k1 l0 x3_1 (Go.bits .andNot .i64 (rd l0 x13_1) t747) 0 l0 (l0.length : Int) x13_1 t748 (t748.length : Int) 0)) = some r := H
      have A7 := Aside0.mk A70; clear A70; replace H := Option.bind_eq_some_iff.mp H; obtain ⟨t748, A80, H⟩ := H
      replace H : (impl_covers.l1 k1 l0 x3_1 (Go.bits .andNot .i64 (rd l0 x13_1) t747) 0 l0 (l0.length : Int) x13_1 t748 (t748.length : Int) 0) = some r := H
      have A8 := Aside0.mk A80; clear A80
      have H' := Aside0.mk H
      clear H
      have p746 : 0 ≤ (x13_1 : Int) := of_decide_eq_true (by first | (with_reducible assumption) | assumption)
      have q746 : x13_1 < (l0.length : Int) := of_decide_eq_true (by first | (with_reducible assumption) | assumption)
      obtain ⟨ad746, e746, hx746_0⟩ := Kd.at_int HR0.out x13_1 p746 q746; cases e746; replace hx746_0 := (HB.out.cell (World.block_lt_of_cell? w _ hx746_0)).trans hx746_0; replace p746 := eq_true p746; replace q746 := eq_true q746
      go_wp2_with (first | (go_at_call 53; (with_reducible refine (impl_one.calls x13_1 t747 _ A7.out).mono ?_); rintro e w' ⟨rfl, ⟨nd, rfl⟩⟩; (try exact zQ09cx3)) | (go_at_call 60; (with_reducible refine (impl_members.calls k1 (Go.bits .andNot .i64 (rd l0 x13_1) t747) t748 _ ?side1 A8.out).mono ?_); (case side1 => exact TabW.below HT.out (beQ HB)); rintro e w9 ⟨v749, rfl, ho0, hb⟩; have HO750 := Aside0.mk (Kd.R_lower (Kd.R_new' ho0 (Kd.R_lt (kdQ HO_3))) (below_size (beQ HB))); replace HO_3 := Aside0.mk (Kd.R_elder' (kdQ HO_3) (Kd.R_base ho0) hb); replace HB := Aside0.mk (below_step (beQ HB) hb); (try clear hb); (try clear hb2); (try clear hk); (try clear hi); (try clear hgw_); (try clear ho0); obtain ⟨Ao10, co10, eo10⟩ := Kd.R_slice HO750.out; subst eo10))
      repeat (go_quiet (first | (go_at_call 53; (with_reducible refine (impl_one.calls x13_1 t747 _ A7.out).mono ?_); rintro e w' ⟨rfl, ⟨nd, rfl⟩⟩; (try exact zQ09cx3)) | (go_at_call 60; (with_reducible refine (impl_members.calls k1 (Go.bits .andNot .i64 (rd l0 x13_1) t747) t748 _ ?side1 A8.out).mono ?_); (case side1 => exact TabW.below HT.out (beQ HB)); rintro e w9 ⟨v749, rfl, ho0, hb⟩; have HO750 := Aside0.mk (Kd.R_lower (Kd.R_new' ho0 (Kd.R_lt (kdQ HO_3))) (below_size (beQ HB))); replace HO_3 := Aside0.mk (Kd.R_elder' (kdQ HO_3) (Kd.R_base ho0) hb); replace HB := Aside0.mk (below_step (beQ HB) hb); (try clear hb); (try clear hb2); (try clear hk); (try clear hi); (try clear hgw_); (try clear ho0); obtain ⟨Ao10, co10, eo10⟩ := Kd.R_slice HO750.out; subst eo10)); try go_wp2_with (first | (go_at_call 53; (with_reducible refine (impl_one.calls x13_1 t747 _ A7.out).mono ?_); rintro e w' ⟨rfl, ⟨nd, rfl⟩⟩; (try exact zQ09cx3)) | (go_at_call 60; (with_reducible refine (impl_members.calls k1 (Go.bits .andNot .i64 (rd l0 x13_1) t747) t748 _ ?side1 A8.out).mono ?_); (case side1 => exact TabW.below HT.out (beQ HB)); rintro e w9 ⟨v749, rfl, ho0, hb⟩; have HO750 := Aside0.mk (Kd.R_lower (Kd.R_new' ho0 (Kd.R_lt (kdQ HO_3))) (below_size (beQ HB))); replace HO_3 := Aside0.mk (Kd.R_elder' (kdQ HO_3) (Kd.R_base ho0) hb); replace HB := Aside0.mk (below_step (beQ HB) hb); (try clear hb); (try clear hb2); (try clear hk); (try clear hi); (try clear hgw_); (try clear ho0); obtain ⟨Ao10, co10, eo10⟩ := Kd.R_slice HO750.out; subst eo10)))
      go_loopg [7, 25] k1 (fun kq v7 v25 w' => ∃ (x7_2 : Int) (x25_2 : Int), v7 = .int .i64 x7_2 ∧ v25 = .int .i64 x25_2 ∧ Aside0 (impl_covers.l1 kq l0 x3_1 (Go.bits .andNot .i64 (rd l0 x13_1) t747) x7_2 l0 (l0.length : Int) x13_1 t748 (t748.length : Int) x25_2 = some r) ∧ Aside0 (kq ≤ k1) ∧ Aside0 (Kd.R (Kd.int .i64) 2 w' w.heap.size (fun k_ => some k_ ≠ ((.slice Ao10 t748.length co10) : Value).ownBlock) u3 x3_1) ∧ Aside0 (Kd.R (Kd.int .i64) 2 w' w.heap.size (fun k_ => some k_ ≠ (u3 : Value).ownBlock) (.slice Ao10 t748.length co10) t748) ∧ Aside0 (Below w.heap.size w w'))
      case atStart => exact ⟨(0), (0), sz, sz, H', ⟨Nat.le_refl _⟩, ⟨by (with_reducible repeat (first | apply Kd.R_alloc | apply Kd.R_drewN | apply Kd.R_drew)); exact Kd.R_mono HO_3.out (fun _ hk => hk.2)⟩, ⟨by (with_reducible repeat (first | apply Kd.R_alloc | apply Kd.R_drewN | apply Kd.R_drew)); exact Kd.R_mono HO750.out (fun _ hk => hk.2)⟩, ⟨beQ HB⟩⟩
      case round =>
       clear H'
       try clear p2
       try clear c4
       try clear c4b0
       try clear c5
       try clear c5b0
       try clear c6
       try clear c6b0
       try clear p7
       try clear q7
       try clear hx7
       try clear hx746_0
       try clear p2
       try clear p746
       try clear q746
       obtain ⟨x7_2, x25_2, rfl, rfl, HA, HK2, HO_3, HO_23, HB⟩ := hrel
       cases gk with
       | zero => exact absurd HA.out (by simp [impl_covers.l1])
       | succ k2 =>
        have H := HA.out; clear HA
        simp only [impl_covers.l1] at H
        by_cases c11 : x25_2 < (t748.length : Int)
        ·rw [if_pos c11] at H
         have c11b0 : decide (x25_2 < (t748.length : Int)) = true := decide_eq_true c11
         clear c11
         by_cases c12 : 0 ≤ x25_2
         ·rw [if_pos c12] at H
          have c12b0 : decide (0 ≤ x25_2) = true := decide_eq_true c12
          clear c12
          by_cases c13 : x25_2 < (t748.length : Int)
          ·rw [if_pos c13] at H
           have c13b0 : decide (x25_2 < (t748.length : Int)) = true := decide_eq_true c13
           clear c13
           by_cases c14 : 0 ≤ (rd t748 x25_2)
           ·rw [if_pos c14] at H
            have c14b0 : decide (0 ≤ (rd t748 x25_2)) = true := decide_eq_true c14
            clear c14
            by_cases c15 : (rd t748 x25_2) < (l0.length : Int)
            ·rw [if_pos c15] at H
             have c15b0 : decide ((rd t748 x25_2) < (l0.length : Int)) = true := decide_eq_true c15
             clear c15; replace H := Option.bind_eq_some_iff.mp H; obtain ⟨t753, A160, H⟩ := H
             replace H : (impl_covers.l1 k2 l0 x3_1 (Go.bits .andNot .i64 (rd l0 x13_1) t747) (Go.bits .or .i64 x7_2 (Go.bits .andNot .i64 (rd l0 (rd t748 x25_2)) t753)) l0 (l0.length : Int) x13_1 t748 (t748.length : Int) (wrap64 (x25_2 + 1))) = some r := H
             have A16 := Aside0.mk A160; clear A160
             have H' := Aside0.mk H
             clear H
             have p751 : 0 ≤ (x25_2 : Int) := of_decide_eq_true (by first | (with_reducible assumption) | assumption)
             have q751 : x25_2 < (t748.length : Int) := of_decide_eq_true (by first | (with_reducible assumption) | assumption)
             obtain ⟨ad751, e751, hx751_0⟩ := Kd.at_int (Kd.R_reads' HO_23.out).2.2 x25_2 p751 q751; cases e751; replace p751 := eq_true p751; replace q751 := eq_true q751
             have p752 : 0 ≤ ((rd t748 x25_2) : Int) := of_decide_eq_true (by first | (with_reducible assumption) | assumption)
             have q752 : (rd t748 x25_2) < (l0.length : Int) := of_decide_eq_true (by first | (with_reducible assumption) | assumption)
             obtain ⟨ad752, e752, hx752_0⟩ := Kd.at_int HR0.out (rd t748 x25_2) p752 q752
             obtain rfl : ad746 = ad752 := (by injection e752)
             replace hx752_0 := (HB.out.cell (World.block_lt_of_cell? w _ hx752_0)).trans hx752_0; replace p752 := eq_true p752; replace q752 := eq_true q752
             go_wp2_with (first | (go_at_call 53; (with_reducible refine (impl_one.calls (rd t748 x25_2) t753 _ A16.out).mono ?_); rintro e w' ⟨rfl, ⟨nd, rfl⟩⟩; (try exact zQ09cx3)))
             repeat (go_quiet (first | (go_at_call 53; (with_reducible refine (impl_one.calls (rd t748 x25_2) t753 _ A16.out).mono ?_); rintro e w' ⟨rfl, ⟨nd, rfl⟩⟩; (try exact zQ09cx3))); try go_wp2_with (first | (go_at_call 53; (with_reducible refine (impl_one.calls (rd t748 x25_2) t753 _ A16.out).mono ?_); rintro e w' ⟨rfl, ⟨nd, rfl⟩⟩; (try exact zQ09cx3))))
             go_roundg k2
             case measure => have := HK1.out; have := HK2.out; omega
             case rel => exact ⟨(Go.bits .or .i64 x7_2 (Go.bits .andNot .i64 (rd l0 (rd t748 x25_2)) t753)), (wrap64 (x25_2 + 1)), sz, sz, H', ⟨by have := HK1.out; have := HK2.out; omega⟩, ⟨kdQ HO_3⟩, ⟨kdQ HO_23⟩, ⟨beQ HB⟩⟩
            ·rw [if_neg c15] at H
             exact absurd H (by simp)
           ·rw [if_neg c14] at H
            exact absurd H (by simp)
          ·rw [if_neg c13] at H
           exact absurd H (by simp)
         ·rw [if_neg c12] at H
          exact absurd H (by simp)
        ·rw [if_neg c11] at H
         have c11b0 : decide (x25_2 < (t748.length : Int)) = false := decide_eq_false c11
         clear c11
         by_cases c17 : x3_1.length < 17592186044416
         ·rw [if_pos c17] at H
          have LMc17 := Aside0.mk c17; clear c17
          obtain ⟨y754, hy754⟩ : ∃ y_ : List Int, y_ = (x3_1 ++ [Go.bits .andNot .i64 (Go.bits .andNot .i64 (rd l0 x13_1) t747) x7_2]) := ⟨_, rfl⟩
          replace H : (impl_covers.l0 k2 l0 y754 l0 (l0.length : Int) (wrap64 (x13_1 + 1))) = some r := by first | (rw [hy754]; with_reducible exact H) | (have H2_ := (Option.bind_some _ _).symm.trans H; rw [hy754]; with_reducible exact H2_) | (have H2_ := (Option.bind_some _ _).symm.trans H; with_reducible exact H2_) | with_reducible exact H | (rw [hy754]; exact H) | exact H
          have Ny754 := Aside0.mk hy754; clear hy754
          have H' := Aside0.mk H
          clear H
          go_wp2_with (first | ((with_reducible refine gate_builtin (b := .append) (xs := #[.tmp 39, .tmp 43]) rfl ?_); at_builtin; refine Kd.R_append (Kd.int .i64) (w0 := w) w.heap.size rfl (.tmp 39) (.tmp 43) 22 2 (.int .i64 0) 8 rfl Tryd.underlying22 info2 rfl (by decide) (by omega) u3 x3_1 (Go.bits .andNot .i64 (Go.bits .andNot .i64 (rd l0 x13_1) t747) x7_2) [.int .i64 (Go.bits .andNot .i64 (Go.bits .andNot .i64 (rd l0 x13_1) t747) x7_2)] (fun k_ => some k_ ≠ (.slice Ao10 t748.length co10 : Value).ownBlock) (fun _ => False) rfl rfl ?aP (fun _ hk => hk.elim) ?aF ?aO ?aB ?aS ?aL ?_; (case aP => exact rfl); (case aB => exact (beQ HB)); (case aF => exact (fun k_ hk => Kd.fresh' (Kd.R_lt (kdQ HO_23)) k_ hk)); (case aO => exact (kdQ HO_3)); (case aS => exact (below_size (beQ HB))); (case aL => have := LMc17.out; omega); intro v755 w18 ho hb hg hat; rw [← Ny754.out] at ho; have n0_ := Aside0.mk (Kd.R_after (ok := (fun _ => True)) (by (with_reducible repeat (first | apply Kd.R_alloc | apply Kd.R_drewN | apply Kd.R_drew)); exact Kd.R_mono HO_23.out (fun _ hk => ⟨trivial, hk⟩)) hg hat); have n1_ := Aside0.mk (hb); have n2_ := Aside0.mk (ho); clear HO_23; clear HB; clear HO_3; have HO_23 := n0_; have HB := n1_; have HO756 := n2_; clear n0_ n1_ n2_; clear ho hb hg hat))
          repeat (go_quiet (first | ((with_reducible refine gate_builtin (b := .append) (xs := #[.tmp 39, .tmp 43]) rfl ?_); at_builtin; refine Kd.R_append (Kd.int .i64) (w0 := w) w.heap.size rfl (.tmp 39) (.tmp 43) 22 2 (.int .i64 0) 8 rfl Tryd.underlying22 info2 rfl (by decide) (by omega) u3 x3_1 (Go.bits .andNot .i64 (Go.bits .andNot .i64 (rd l0 x13_1) t747) x7_2) [.int .i64 (Go.bits .andNot .i64 (Go.bits .andNot .i64 (rd l0 x13_1) t747) x7_2)] (fun k_ => some k_ ≠ (.slice Ao10 t748.length co10 : Value).ownBlock) (fun _ => False) rfl rfl ?aP (fun _ hk => hk.elim) ?aF ?aO ?aB ?aS ?aL ?_; (case aP => exact rfl); (case aB => exact (beQ HB)); (case aF => exact (fun k_ hk => Kd.fresh' (Kd.R_lt (kdQ HO_23)) k_ hk)); (case aO => exact (kdQ HO_3)); (case aS => exact (below_size (beQ HB))); (case aL => have := LMc17.out; omega); intro v755 w18 ho hb hg hat; rw [← Ny754.out] at ho; have n0_ := Aside0.mk (Kd.R_after (ok := (fun _ => True)) (by (with_reducible repeat (first | apply Kd.R_alloc | apply Kd.R_drewN | apply Kd.R_drew)); exact Kd.R_mono HO_23.out (fun _ hk => ⟨trivial, hk⟩)) hg hat); have n1_ := Aside0.mk (hb); have n2_ := Aside0.mk (ho); clear HO_23; clear HB; clear HO_3; have HO_23 := n0_; have HB := n1_; have HO756 := n2_; clear n0_ n1_ n2_; clear ho hb hg hat)); try go_wp2_with (first | ((with_reducible refine gate_builtin (b := .append) (xs := #[.tmp 39, .tmp 43]) rfl ?_); at_builtin; refine Kd.R_append (Kd.int .i64) (w0 := w) w.heap.size rfl (.tmp 39) (.tmp 43) 22 2 (.int .i64 0) 8 rfl Tryd.underlying22 info2 rfl (by decide) (by omega) u3 x3_1 (Go.bits .andNot .i64 (Go.bits .andNot .i64 (rd l0 x13_1) t747) x7_2) [.int .i64 (Go.bits .andNot .i64 (Go.bits .andNot .i64 (rd l0 x13_1) t747) x7_2)] (fun k_ => some k_ ≠ (.slice Ao10 t748.length co10 : Value).ownBlock) (fun _ => False) rfl rfl ?aP (fun _ hk => hk.elim) ?aF ?aO ?aB ?aS ?aL ?_; (case aP => exact rfl); (case aB => exact (beQ HB)); (case aF => exact (fun k_ hk => Kd.fresh' (Kd.R_lt (kdQ HO_23)) k_ hk)); (case aO => exact (kdQ HO_3)); (case aS => exact (below_size (beQ HB))); (case aL => have := LMc17.out; omega); intro v755 w18 ho hb hg hat; rw [← Ny754.out] at ho; have n0_ := Aside0.mk (Kd.R_after (ok := (fun _ => True)) (by (with_reducible repeat (first | apply Kd.R_alloc | apply Kd.R_drewN | apply Kd.R_drew)); exact Kd.R_mono HO_23.out (fun _ hk => ⟨trivial, hk⟩)) hg hat); have n1_ := Aside0.mk (hb); have n2_ := Aside0.mk (ho); clear HO_23; clear HB; clear HO_3; have HO_23 := n0_; have HB := n1_; have HO756 := n2_; clear n0_ n1_ n2_; clear ho hb hg hat)))
          go_roundg k2
          case measure => have := HK1.out; have := HK2.out; omega
          case rel => exact ⟨(y754), (wrap64 (x13_1 + 1)), sz, H', ⟨by have := HK1.out; have := HK2.out; omega⟩, ⟨by (with_reducible repeat (first | apply Kd.R_alloc | apply Kd.R_drewN | apply Kd.R_drew)); exact Kd.R_mono HO756.out (fun _ hk => trivial)⟩, ⟨beQ HB⟩⟩
         ·rw [if_neg c17] at H
          exact absurd H (by simp)
     ·rw [if_neg c6] at H
      exact absurd H (by simp)
    ·rw [if_neg c5] at H
     exact absurd H (by simp)
   ·rw [if_neg c4] at H
    have c4b0 : decide (x13_1 < (l0.length : Int)) = false := decide_eq_false c4
    clear c4
    obtain rfl := Option.some.inj H
    go_wp2
    repeat (go_quiet (fail); try go_wp2)
    go_ret
    exact ⟨_, rz, kdQ HO_3, beQ HB⟩
def impl_CoversOf.f (k : Nat) (l0 : List Int) : Option (List Int × Int) := (impl_IsOrder.f k l0).bind fun t757 => (if t757 = true then ((impl_covers.f k l0).bind fun t758 => (some (t758, 0))) else (some (([] : List Int), 1)))
set_option maxHeartbeats 8000000 in
set_option maxRecDepth 100000 in
theorem impl_CoversOf.calls (k : Nat) (A0 : Option Addr) (c0 : Nat) (l0 : List Int) (r1 : List Int) (r2 : Int) (w : World) (hr0 : Kd.C (Kd.int .i64) w A0 l0.length l0) (hc0 : l0.length ≤ c0) (hT : TabW w) (h : impl_CoversOf.f k l0 = some (r1, r2)) :
  Calls Tryd.prog 24 #[.slice A0 l0.length c0] w fun e w' => ∃ v0_ : Value, e = .returned (.tuple #[v0_, .int .i64 r2]) ∧ Kd.R (Kd.int .i64) 2 w' w.heap.size (fun _ => True) v0_ r1 ∧ Below w.heap.size w w' := by
 have HT := Aside0.mk hT; clear hT; have HR0 := Aside0.mk hr0; have HC0 := Aside0.mk hc0; clear hr0 hc0; have HB := Aside0.mk (Below.refl w.heap.size w)
 have H : ((impl_IsOrder.f k l0).bind fun t757 => (if t757 = true then ((impl_covers.f k l0).bind fun t758 => (some (t758, 0))) else (some (([] : List Int), 1)))) = some (r1, r2) := h
 clear h; replace H := Option.bind_eq_some_iff.mp H; obtain ⟨t757, A20, H⟩ := H
 replace H : (if t757 = true then ((impl_covers.f k l0).bind fun t758 => (some (t758, 0))) else (some (([] : List Int), 1))) = some (r1, r2) := H
 have A2 := Aside0.mk A20; clear A20
 by_cases c3 : t757 = true
 ·subst c3
  have H1 : ((impl_covers.f k l0).bind fun t758 => (some (t758, 0))) = some (r1, r2) := by rw [if_pos rfl] at H; exact H
  clear H; have H := H1; clear H1; replace H := Option.bind_eq_some_iff.mp H; obtain ⟨t758, A40, H⟩ := H
  replace H : (some (t758, 0)) = some (r1, r2) := H
  have A4 := Aside0.mk A40; clear A40
  simp only [Option.some.injEq, Prod.mk.injEq] at H
  obtain ⟨rfl, rfl⟩ := H
  go_enter Tryd.func24, Tryd.ntmps24
  go_wp2_with (first | ((with_reducible refine gate_callee (f := 26) rfl ?_); refine goesL_ (some 5) rfl rfl Tryd.func26 (by kernel_rfl) rfl #[.slice A0 l0.length c0] rfl lz ?_; (with_reducible refine (impl_IsOrder.calls k _ _ l0 true _ ?side1 ?side2 ?side3 A2.out).mono ?_); (case side1 => have q_ := Aside0.mk HR0.out; exact cQ q_); (case side2 => exact HC0.out); (case side3 => exact TabW.below HT.out (beQ HB)); rintro e w5 ⟨rfl, hb⟩; refine ⟨_, rfl, ?_⟩; replace HB := Aside0.mk (below_step (beQ HB) hb); (try clear hb); (try clear hb2); (try clear hk); (try clear hi); (try clear hgw_)) | ((with_reducible refine gate_callee (f := 49) rfl ?_); refine goesL_ (some 8) rfl rfl Tryd.func49 (by kernel_rfl) rfl #[.slice A0 l0.length c0] rfl lz ?_; (with_reducible refine (impl_covers.calls k _ _ l0 t758 _ ?side1 ?side2 ?side3 A4.out).mono ?_); (case side1 => have q_ := Aside0.mk (Kd.C_below HR0.out HB.out); exact cQ q_); (case side2 => exact HC0.out); (case side3 => exact TabW.below HT.out (beQ HB)); rintro e w6 ⟨v759, rfl, ho0, hb⟩; refine ⟨_, rfl, ?_⟩; have HO760 := Aside0.mk (Kd.R_lower ho0 (below_size (beQ HB))); replace HB := Aside0.mk (below_step (beQ HB) hb); (try clear hb); (try clear hb2); (try clear hk); (try clear hi); (try clear hgw_); (try clear ho0)))
  go_ret2
  exact ⟨_, rz, kdQ HO760, beQ HB⟩
 ·replace c3 := Bool.eq_false_iff.mpr c3
  subst c3
  have H1 : (some (([] : List Int), 1)) = some (r1, r2) := by rw [if_neg (show ¬ (false = true) by decide)] at H; exact H
  clear H; have H := H1; clear H1
  simp only [Option.some.injEq, Prod.mk.injEq] at H
  obtain ⟨rfl, rfl⟩ := H
  go_enter Tryd.func24, Tryd.ntmps24
  go_wp2_with (first | ((with_reducible refine gate_callee (f := 26) rfl ?_); refine goesL_ (some 5) rfl rfl Tryd.func26 (by kernel_rfl) rfl #[.slice A0 l0.length c0] rfl lz ?_; (with_reducible refine (impl_IsOrder.calls k _ _ l0 false _ ?side1 ?side2 ?side3 A2.out).mono ?_); (case side1 => have q_ := Aside0.mk HR0.out; exact cQ q_); (case side2 => exact HC0.out); (case side3 => exact TabW.below HT.out (beQ HB)); rintro e w7 ⟨rfl, hb⟩; refine ⟨_, rfl, ?_⟩; replace HB := Aside0.mk (below_step (beQ HB) hb); (try clear hb); (try clear hb2); (try clear hk); (try clear hi); (try clear hgw_)))
  go_ret2
  exact ⟨_, rz, by first | exact Kd.R_nil _ _ _ _ _ | exact Kd.N_nil _ _ _ _ _ | exact Kd.V_nil _ _ _ _ _ | exact Kd.Q_nil _ _ _ _ _ | exact Kd.S_nil _ _ _ _ _, beQ HB⟩
end Go.Proofs.YtjckfnaohikmbaaDoor.G
