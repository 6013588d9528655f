-- A copy, with what one law needs, of a text that print.sh or a program of ours wrote
import Derived.Test.YtbhkpfkkjknmlaaDoorZ1G0
import Derived.Test.YtbhkpfkkjknmlaaDoorZ1GQ02a
import Derived.Test.YtbhkpfkkjknmlaaDoorZ1GQ02c
import Derived.Test.YtbhkpfkkjknmlaaDoorZ1GQ02d
import Derived.Test.YtbhkpfkkjknmlaaDoorZ1GQ04b
import Derived.Test.YtbhkpfkkjknmlaaDoorZ1GQ04d
import Derived.Test.YtbhkpfkkjknmlaaDoorZ1GQ06a
import Derived.Test.YtbhkpfkkjknmlaaDoorZ1GQ06c
import Derived.Test.YtbhkpfkkjknmlaaDoorZ1GQ06d
namespace Go.Proofs.YtbhkpfkkjknmlaaDoor.G
open Go.RowKit Go.Proofs.YtbhkpfkkjknmlaaDoorW.PrintWords Go.Proofs.YtbhkpfkkjknmlaaDoorW.PrintLast Go.Proofs.YtbhkpfkkjknmlaaDoorW.PrintMore
attribute [local go_sem] max2_int min2_int max_two min_two max_three min_three max_four min_four   -- for this text's walks alone
set_option linter.unusedVariables false
set_option linter.unusedSimpArgs false
mutual
def laws_FnAlphabetTexts.j0 : Nat → List Int → ByteArray → Int → Bool → Int → List Int → Option (Bool)
 | 0, _, _, _, _, _, _ => none
 | k + 1, x0, x4, x5, x45, x482000, x482001 => if x45 = true then (some false) else (if x5 = 0 then ((impl_ParseAlphabet.f k x4).bind fun bt487 => (if bt487.2.2 = 0 then ((laws_likeAlphabet5.f k bt487.1 bt487.2.1 x482000 x482001).bind fun t493 => (if t493 = true then (laws_FnAlphabetTexts.j1 k x0) else (some false))) else (some false))) else (laws_FnAlphabetTexts.j1 k x0))
def laws_FnAlphabetTexts.j1 : Nat → List Int → Option (Bool)
 | 0, _ => none
 | k + 1, x0 => (spec_DrawParseAlphabet.f k x0).bind fun t494 => ((impl_ParseAlphabet.f k t494).bind fun bt495 => ((spec_ParseAlphabet.f k t494).bind fun bt501 => (if bt495.2.2 = bt501.2.2 then ((laws_likeAlphabet5.f k bt495.1 bt495.2.1 bt501.1 bt501.2.1).bind fun t507 => (laws_FnAlphabetTexts.j2 k t494 bt495.2.2 (!t507) bt495.1 bt495.2.1)) else (laws_FnAlphabetTexts.j2 k t494 bt495.2.2 true bt495.1 bt495.2.1))))
def laws_FnAlphabetTexts.j2 : Nat → ByteArray → Int → Bool → Int → List Int → Option (Bool)
 | 0, _, _, _, _, _ => none
 | k + 1, x10, x12, x81, x501000, x501001 => if x81 = true then (some false) else (if x12 = 0 then ((impl_AlphabetText.f k x501000 x501001).bind fun bt508 => (if bt508.2 = 0 then (some (bt508.1.toList == x10.toList)) else (some false))) else (some true))
end
def laws_FnAlphabetTexts.f (k : Nat) (l0 : List Int) : Option (Bool) := (laws_big.f l0).bind fun t476 => (if t476 = true then (some true) else ((spec_DrawAlphabetText.f k l0).bind fun bt477 => ((impl_AlphabetText.f k bt477.1 bt477.2).bind fun bt482 => ((spec_AlphabetText.f k bt477.1 bt477.2).bind fun bt484 => (if bt482.2 = bt484.2 then (if bt482.1.toList = bt484.1.toList then ((impl_IsAlphabet.f k bt477.1 bt477.2).bind fun t486 => (laws_FnAlphabetTexts.j0 k l0 bt482.1 bt482.2 (t486 != (bt484.2 == 0)) bt477.1 bt477.2)) else (laws_FnAlphabetTexts.j0 k l0 bt482.1 bt482.2 true bt477.1 bt477.2)) else (laws_FnAlphabetTexts.j0 k l0 bt482.1 bt482.2 true bt477.1 bt477.2))))))
set_option maxHeartbeats 8000000 in
set_option maxRecDepth 100000 in
theorem laws_FnAlphabetTexts.calls (k : Nat) (A0 : Option Addr) (c0 : Nat) (l0 : List Int) (r : Bool) (w : World) (hr0 : Kd.C (Kd.int .u8) w A0 l0.length l0) (hc0 : l0.length ≤ c0) (hT : TabW w) (h : laws_FnAlphabetTexts.f k l0 = some r) :
  Calls Tryd.prog 5 #[.slice A0 l0.length c0] w fun e w' => e = .returned (.bool r) ∧ Below w.heap.size w w' := by
 have hu28 := Tryd.underlying28; have HT := Aside0.mk hT; clear hT; have HR0 := Aside0.mk hr0; have HC0 := Aside0.mk hc0; clear hr0 hc0; have HB := Aside0.mk (Below.refl w.heap.size w)
 have H : ((laws_big.f l0).bind fun t476 => (if t476 = true then (some true) else ((spec_DrawAlphabetText.f k l0).bind fun bt477 => ((impl_AlphabetText.f k bt477.1 bt477.2).bind fun bt482 => ((spec_AlphabetText.f k bt477.1 bt477.2).bind fun bt484 => (if bt482.2 = bt484.2 then (if bt482.1.toList = bt484.1.toList then ((impl_IsAlphabet.f k bt477.1 bt477.2).bind fun t486 => (laws_FnAlphabetTexts.j0 k l0 bt482.1 bt482.2 (t486 != (bt484.2 == 0)) bt477.1 bt477.2)) else (laws_FnAlphabetTexts.j0 k l0 bt482.1 bt482.2 true bt477.1 bt477.2)) else (laws_FnAlphabetTexts.j0 k l0 bt482.1 bt482.2 true bt477.1 bt477.2))))))) = some r := h
 clear h; replace H := Option.bind_eq_some_iff.mp H; obtain ⟨t476, A20, H⟩ := H
 replace H : (if t476 = true then (some true) else ((spec_DrawAlphabetText.f k l0).bind fun bt477 => ((impl_AlphabetText.f k bt477.1 bt477.2).bind fun bt482 => ((spec_AlphabetText.f k bt477.1 bt477.2).bind fun bt484 => (if bt482.2 = bt484.2 then (if bt482.1.toList = bt484.1.toList then ((impl_IsAlphabet.f k bt477.1 bt477.2).bind fun t486 => (laws_FnAlphabetTexts.j0 k l0 bt482.1 bt482.2 (t486 != (bt484.2 == 0)) bt477.1 bt477.2)) else (laws_FnAlphabetTexts.j0 k l0 bt482.1 bt482.2 true bt477.1 bt477.2)) else (laws_FnAlphabetTexts.j0 k l0 bt482.1 bt482.2 true bt477.1 bt477.2)))))) = some r := H
 have A2 := Aside0.mk A20; clear A20
 by_cases c3 : t476 = true
 ·subst c3
  have H1 : (some true) = some r := by rw [if_pos rfl] at H; exact H
  clear H; have H := H1; clear H1
  obtain rfl := Option.some.inj H
  go_enter Tryd.func5, Tryd.ntmps5
  go_wp2_with (first | ((with_reducible refine gate_callee (f := 15) rfl ?_); refine goesL_ (some 18) rfl rfl Tryd.func15 (by kernel_rfl) rfl #[.slice A0 l0.length c0] rfl lz ?_; (with_reducible refine (laws_big.calls _ _ l0 true _ ?side1 ?side2 A2.out).mono ?_); (case side1 => have q_ := Aside0.mk HR0.out; exact cQ q_); (case side2 => exact HC0.out); rintro e w' ⟨rfl, ⟨nd, rfl⟩⟩; refine ⟨_, rfl, ?_⟩))
  go_ret
  exact ⟨rz, beQ HB⟩
 ·replace c3 := Bool.eq_false_iff.mpr c3
  subst c3
  have H1 : ((spec_DrawAlphabetText.f k l0).bind fun bt477 => ((impl_AlphabetText.f k bt477.1 bt477.2).bind fun bt482 => ((spec_AlphabetText.f k bt477.1 bt477.2).bind fun bt484 => (if bt482.2 = bt484.2 then (if bt482.1.toList = bt484.1.toList then ((impl_IsAlphabet.f k bt477.1 bt477.2).bind fun t486 => (laws_FnAlphabetTexts.j0 k l0 bt482.1 bt482.2 (t486 != (bt484.2 == 0)) bt477.1 bt477.2)) else (laws_FnAlphabetTexts.j0 k l0 bt482.1 bt482.2 true bt477.1 bt477.2)) else (laws_FnAlphabetTexts.j0 k l0 bt482.1 bt482.2 true bt477.1 bt477.2))))) = some r := by rw [if_neg (show ¬ (false = true) by decide)] at H; exact H
  clear H; have H := H1; clear H1; replace H := Option.bind_eq_some_iff.mp H
  obtain ⟨⟨t477, t478⟩, A40, H⟩ := H
  replace H : ((impl_AlphabetText.f k t477 t478).bind fun bt482 => ((spec_AlphabetText.f k t477 t478).bind fun bt484 => (if bt482.2 = bt484.2 then (if bt482.1.toList = bt484.1.toList then ((impl_IsAlphabet.f k t477 t478).bind fun t486 => (laws_FnAlphabetTexts.j0 k l0 bt482.1 bt482.2 (t486 != (bt484.2 == 0)) t477 t478)) else (laws_FnAlphabetTexts.j0 k l0 bt482.1 bt482.2 true t477 t478)) else (laws_FnAlphabetTexts.j0 k l0 bt482.1 bt482.2 true t477 t478)))) = some r := H
  have A4 := Aside0.mk A40; clear A40; replace H := Option.bind_eq_some_iff.mp H
  obtain ⟨⟨t482, t483⟩, A50, H⟩ := H
  replace H : ((spec_AlphabetText.f k t477 t478).bind fun bt484 => (if t483 = bt484.2 then (if t482.toList = bt484.1.toList then ((impl_IsAlphabet.f k t477 t478).bind fun t486 => (laws_FnAlphabetTexts.j0 k l0 t482 t483 (t486 != (bt484.2 == 0)) t477 t478)) else (laws_FnAlphabetTexts.j0 k l0 t482 t483 true t477 t478)) else (laws_FnAlphabetTexts.j0 k l0 t482 t483 true t477 t478))) = some r := H
  have A5 := Aside0.mk A50; clear A50; replace H := Option.bind_eq_some_iff.mp H
  obtain ⟨⟨t484, t485⟩, A60, H⟩ := H
  replace H : (if t483 = t485 then (if t482.toList = t484.toList then ((impl_IsAlphabet.f k t477 t478).bind fun t486 => (laws_FnAlphabetTexts.j0 k l0 t482 t483 (t486 != (t485 == 0)) t477 t478)) else (laws_FnAlphabetTexts.j0 k l0 t482 t483 true t477 t478)) else (laws_FnAlphabetTexts.j0 k l0 t482 t483 true t477 t478)) = some r := H
  have A6 := Aside0.mk A60; clear A60; have HC7 := Aside0.mk H; clear H
  go_enter Tryd.func5, Tryd.ntmps5
  go_upto_region 6 with (first | ((with_reducible refine gate_callee (f := 15) rfl ?_); refine goesL_ (some 18) rfl rfl Tryd.func15 (by kernel_rfl) rfl #[.slice A0 l0.length c0] rfl lz ?_; (with_reducible refine (laws_big.calls _ _ l0 false _ ?side1 ?side2 A2.out).mono ?_); (case side1 => have q_ := Aside0.mk HR0.out; exact cQ q_); (case side2 => exact HC0.out); rintro e w' ⟨rfl, ⟨nd, rfl⟩⟩; refine ⟨_, rfl, ?_⟩) | ((with_reducible refine gate_callee (f := 16) rfl ?_); refine goesL_ (some 20) rfl rfl Tryd.func16 (by kernel_rfl) rfl #[.slice A0 l0.length c0] rfl lz ?_; (with_reducible refine (spec_DrawAlphabetText.calls k _ _ l0 t477 t478 _ ?side1 ?side2 A4.out).mono ?_); (case side1 => have q_ := Aside0.mk HR0.out; exact cQ q_); (case side2 => exact HC0.out); rintro e w8 ⟨v479, rfl, ho0, hb⟩; refine ⟨_, rfl, ?_⟩; have HO480 := Aside0.mk (Kd.R_lower ho0 (below_size (beQ HB))); replace HB := Aside0.mk (below_step (beQ HB) hb); (try clear hb); (try clear hb2); (try clear hk); (try clear hi); (try clear hgw_); (try clear ho0)) | ((with_reducible refine gate_dst (N := 3) rfl ?_); refine box_event ?hg (N := 3) ?hd (cs := #[.int .i64 0, .slice none 0 0]) (t := 28) ?hr ?_; (case hd => rfl); (case hg => rfl); (case hr => first | (go_simp; done) | (go_simp; rfl)); intro gb481 hg w9 hbox hb; replace HO480 := kb HO480 hb; have BK481 := Aside0.mk (hbox); have GW481 := Aside0.mk ((by rw [hg]; exact (below_size (beQ HB)) : w.heap.size ≤ gb481)); have GE481 := Aside0.mk ((by rw [hg]; exact (below_size (beQ HB)) : w.heap.size ≤ gb481)); replace HB := Aside0.mk (below_step (beQ HB) hb); clear hb hbox hg; have hcz10_0 : w9.cell? ⟨gb481, 0, none⟩ = some (.int .i64 0) := bc BK481 0; have hcz10_1 : w9.cell? ⟨gb481, 1, none⟩ = some (.slice none 0 0) := bc BK481 1; have hfz10_0 := blk_frozen BK481.out 0; have hfz10_1 := blk_frozen BK481.out 1; obtain ⟨Ao11, co11, eo11⟩ := Kd.R_slice HO480.out; subst eo11) | ((with_reducible refine gate_callee (f := 9) rfl ?_); refine goesL_ (some 23) rfl rfl Tryd.func9 (by kernel_rfl) rfl #[.agg #[.int .i64 t477, .slice Ao11 t478.length co11]] rfl lz ?_; (with_reducible refine (impl_AlphabetText.calls k t477 _ _ t478 t482 t483 _ ?side1 ?side2 ?side3 A5.out).mono ?_); (case side1 => refine (Kd.R_reads' (e := 2) (base := w.heap.size) (ok := fun k_ => True) (n := t478.length) (c := co11) ?_).2.2; exact (by (with_reducible repeat (first | apply Kd.R_alloc | apply Kd.R_drewN | apply Kd.R_drew)); exact (Kd.R_mono (Kd.R_far (p := ⟨gb481, 1, none⟩) (Kd.R_far (p := ⟨gb481, 0, none⟩) (Kd.R_types HO480.out BK481.out (by decide)) (fun _ hk => hk.2) (.int .i64 t477)) (fun _ hk => hk.2) (.slice Ao11 t478.length co11)) (fun _ h_ => h_.1)))); (case side2 => exact (Kd.R_reads' HO480.out).2.1); (case side3 => exact TabW.below HT.out (beQ HB)); rintro e w12 ⟨rfl, hb⟩; refine ⟨_, rfl, ?_⟩; replace HO480 := Aside0.mk (Kd.R_below (by (with_reducible repeat (first | apply Kd.R_alloc | apply Kd.R_drewN | apply Kd.R_drew)); exact (Kd.R_mono (Kd.R_far (p := ⟨gb481, 1, none⟩) (Kd.R_far (p := ⟨gb481, 0, none⟩) (Kd.R_types HO480.out BK481.out (by decide)) (fun _ hk => hk.2) (.int .i64 t477)) (fun _ hk => hk.2) (.slice Ao11 t478.length co11)) (fun _ h_ => h_.1))) hb); replace BK481 := Aside0.mk (blk_below (g := gb481) (o := .cells #[.int .i64 t477, .slice Ao11 t478.length co11] 28 (0, 0)) (by (with_reducible repeat (first | refine blk_drewN ?_ _ | refine blk_drew ?_ | refine blk_alloc ?_ _)); refine blk_put (cs := #[.int .i64 t477, .slice none 0 0]) ?_ 1 _ rfl; (with_reducible repeat (first | refine blk_drewN ?_ _ | refine blk_drew ?_ | refine blk_alloc ?_ _)); refine blk_put (cs := #[.int .i64 0, .slice none 0 0]) ?_ 0 _ rfl; (with_reducible repeat (first | refine blk_drewN ?_ _ | refine blk_drew ?_ | refine blk_alloc ?_ _)); exact BK481.out) hb); replace HB := Aside0.mk (below_step (beQ HB) hb); (try clear hb); (try clear hb2); (try clear hk); (try clear hi); (try clear hgw_); have hcz13_0 : w12.cell? ⟨gb481, 0, none⟩ = some (.int .i64 t477) := bc BK481 0; have hcz13_1 : w12.cell? ⟨gb481, 1, none⟩ = some (.slice Ao11 t478.length co11) := bc BK481 1; have hfz13_0 := blk_frozen BK481.out 0; have hfz13_1 := blk_frozen BK481.out 1) | ((with_reducible refine gate_callee (f := 7) rfl ?_); refine goesL_ (some 28) rfl rfl Tryd.func7 (by kernel_rfl) rfl #[.agg #[.int .i64 t477, .slice Ao11 t478.length co11]] rfl lz ?_; (with_reducible refine (spec_AlphabetText.calls k t477 _ _ t478 t484 t485 _ ?side1 ?side2 A6.out).mono ?_); (case side1 => have q_ := Aside0.mk (Kd.R_reads' HO480.out).2.2; exact cQ q_); (case side2 => exact (Kd.R_reads' HO480.out).2.1); rintro e w14 ⟨rfl, hb⟩; refine ⟨_, rfl, ?_⟩; replace HO480 := kb HO480 hb; replace BK481 := bb BK481 hb; replace HB := Aside0.mk (below_step (beQ HB) hb); (try clear hb); (try clear hb2); (try clear hk); (try clear hi); (try clear hgw_)))
  (try simp only [Act.put, List.setIfInBounds_toArray, List.set_cons_zero, List.set_cons_succ])
  go_cut [45] (fun v45 wc => ∃ (kq : Nat) (x45_6 : Bool), v45 = .bool x45_6 ∧ Aside0 (laws_FnAlphabetTexts.j0 kq l0 t482 t483 x45_6 t477 t478 = some r) ∧ Aside0 (kq ≤ k) ∧ Aside0 (Kd.R (Kd.int .i64) 2 wc w.heap.size (fun _ => True) (.slice Ao11 t478.length co11) t478) ∧ Aside0 (wc.heap[gb481]? = some (.cells #[.int .i64 t477, (.slice Ao11 t478.length co11)] 28 (0, 0))) ∧ Aside0 (Below w.heap.size w wc))
  case first =>
   have H := HC7.out; clear HC7
   by_cases c15 : t483 = t485
   ·rw [if_pos c15] at H
    have c15b0 : (t483 == t485) = true := beq_iff_eq.mpr c15
    have c15b1 : (t483 != t485) = false := bne_eq_false_iff_eq.mpr c15
    clear c15
    (first | rw [c15b0] | (simp only [i64_w, i32_w]; rw [c15b0]) | skip)
    by_cases c16 : t482.toList = t484.toList
    ·rw [if_pos c16] at H
     have c16b0 : (t482.toList == t484.toList) = true := beq_iff_eq.mpr c16
     have c16b1 : (t482.toList != t484.toList) = false := bne_eq_false_iff_eq.mpr c16
     clear c16; replace H := Option.bind_eq_some_iff.mp H; obtain ⟨t486, A170, H⟩ := H
     replace H : (laws_FnAlphabetTexts.j0 k l0 t482 t483 (t486 != (t485 == 0)) t477 t478) = some r := H
     have A17 := Aside0.mk A170; clear A170
     have H' := Aside0.mk H
     clear H
     have hcz18_0 : w14.cell? ⟨gb481, 0, none⟩ = some (.int .i64 t477) := bc BK481 0
     have hcz18_1 : w14.cell? ⟨gb481, 1, none⟩ = some (.slice Ao11 t478.length co11) := bc BK481 1
     have hfz18_0 := blk_frozen BK481.out 0; have hfz18_1 := blk_frozen BK481.out 1
     go_wp2_with (first | (go_at_call 17; (with_reducible refine (impl_IsAlphabet.calls k t477 _ _ t478 t486 _ ?side1 ?side2 ?side3 A17.out).mono ?_); (case side1 => have q_ := Aside0.mk (Kd.R_reads' HO480.out).2.2; exact cQ q_); (case side2 => exact (Kd.R_reads' HO480.out).2.1); (case side3 => exact TabW.below HT.out (beQ HB)); rintro e w19 ⟨rfl, hb⟩; replace HO480 := kb HO480 hb; replace BK481 := bb BK481 hb; replace HB := Aside0.mk (below_step (beQ HB) hb); (try clear hb); (try clear hb2); (try clear hk); (try clear hi); (try clear hgw_)))
     go_meet
     case rel => exact ⟨_, ((t486 != (t485 == 0))), sz, H', ⟨by first | omega | exact Nat.le_refl _⟩, ⟨kdQ HO480⟩, ⟨blkQ BK481⟩, ⟨beQ HB⟩⟩
    ·rw [if_neg c16] at H
     have c16b0 : (t482.toList == t484.toList) = false := beq_eq_false_iff_ne.mpr c16
     have c16b1 : (t482.toList != t484.toList) = true := bne_iff_ne.mpr c16
     have H' := Aside0.mk H
     clear H
     go_wp2
     go_meet
     case rel => exact ⟨_, (true), sz, H', ⟨by first | omega | exact Nat.le_refl _⟩, ⟨kdQ HO480⟩, ⟨blkQ BK481⟩, ⟨beQ HB⟩⟩
   ·rw [if_neg c15] at H
    have c15b0 : (t483 == t485) = false := beq_eq_false_iff_ne.mpr c15
    have c15b1 : (t483 != t485) = true := bne_iff_ne.mpr c15
    (first | rw [c15b0] | (simp only [i64_w, i32_w]; rw [c15b0]) | skip)
    have H' := Aside0.mk H
    clear H
    go_wp2
    go_meet
    case rel => exact ⟨_, (true), sz, H', ⟨by first | omega | exact Nat.le_refl _⟩, ⟨kdQ HO480⟩, ⟨blkQ BK481⟩, ⟨beQ HB⟩⟩
  case rest =>
   clear HC7
   try clear c1
   try clear p2
   try clear c3
   try clear c5
   try clear c7
   try clear c9
   try clear c15
   try clear c15b0
   try clear c15b1
   try clear c16
   try clear c16b0
   try clear c16b1
   try clear hcz10_0
   try clear hcz10_1
   try clear hcz13_0
   try clear hcz13_1
   try clear hcz18_0
   try clear hcz18_1
   try clear hfz10_0
   try clear hfz10_1
   try clear hfz13_0
   try clear hfz13_1
   try clear hfz18_0
   try clear hfz18_1
   obtain ⟨kq, x45_6, rfl, HA, HJ6, HO_482001, BK481, HB⟩ := hcut
   cases kq with
   | zero => exact absurd HA.out (by simp [laws_FnAlphabetTexts.j0])
   | succ kj6 =>
    have H := HA.out; clear HA
    simp only [laws_FnAlphabetTexts.j0] at H
    by_cases c20 : x45_6 = true
    ·subst c20
     have H1 : (some false) = some r := by rw [if_pos rfl] at H; exact H
     clear H; have H := H1; clear H1
     obtain rfl := Option.some.inj H
     go_wp2
     go_ret
     exact ⟨rz, beQ HB⟩
    ·replace c20 := Bool.eq_false_iff.mpr c20
     subst c20
     have H1 : (if t483 = 0 then ((impl_ParseAlphabet.f kj6 t482).bind fun bt487 => (if bt487.2.2 = 0 then ((laws_likeAlphabet5.f kj6 bt487.1 bt487.2.1 t477 t478).bind fun t493 => (if t493 = true then (laws_FnAlphabetTexts.j1 kj6 l0) else (some false))) else (some false))) else (laws_FnAlphabetTexts.j1 kj6 l0)) = some r := by rw [if_neg (show ¬ (false = true) by decide)] at H; exact H
     clear H; have H := H1; clear H1; have HC21 := Aside0.mk H; clear H
     go_upto_if 47 with (fail)
     go_cut [] (fun wc => ∃ (kq : Nat), Aside0 (laws_FnAlphabetTexts.j1 kq l0 = some r) ∧ Aside0 (kq ≤ kj6) ∧ Aside0 (Kd.R (Kd.int .i64) 2 wc w.heap.size (fun _ => True) (.slice Ao11 t478.length co11) t478) ∧ Aside0 (wc.heap[gb481]? = some (.cells #[.int .i64 t477, (.slice Ao11 t478.length co11)] 28 (0, 0))) ∧ Aside0 (Below w.heap.size w wc))
     case first =>
      have H := HC21.out; clear HC21
      by_cases c22 : t483 = 0
      ·rw [if_pos c22] at H
       have c22b0 : (t483 == 0) = true := beq_iff_eq.mpr c22
       have c22b1 : (t483 != 0) = false := bne_eq_false_iff_eq.mpr c22
       clear c22
       (first | rw [c22b0] | (simp only [i64_w, i32_w]; rw [c22b0]) | skip)
       replace H := Option.bind_eq_some_iff.mp H
       obtain ⟨⟨t487, t488, t491⟩, A230, H⟩ := H
       replace H : (if t491 = 0 then ((laws_likeAlphabet5.f kj6 t487 t488 t477 t478).bind fun t493 => (if t493 = true then (laws_FnAlphabetTexts.j1 kj6 l0) else (some false))) else (some false)) = some r := H
       have A23 := Aside0.mk A230; clear A230
       by_cases c24 : t491 = 0
       ·rw [if_pos c24] at H
        have c24b0 : (t491 == 0) = true := beq_iff_eq.mpr c24
        have c24b1 : (t491 != 0) = false := bne_eq_false_iff_eq.mpr c24
        clear c24; replace H := Option.bind_eq_some_iff.mp H; obtain ⟨t493, A250, H⟩ := H
        replace H : (if t493 = true then (laws_FnAlphabetTexts.j1 kj6 l0) else (some false)) = some r := H
        have A25 := Aside0.mk A250; clear A250
        by_cases c26 : t493 = true
        ·subst c26
         have H1 : (laws_FnAlphabetTexts.j1 kj6 l0) = some r := by rw [if_pos rfl] at H; exact H
         clear H; have H := H1; clear H1
         have H' := Aside0.mk H
         clear H
         go_wp2_with (first | ((with_reducible refine gate_callee (f := 12) rfl ?_); refine goesL_ (some 50) rfl rfl Tryd.func12 (by kernel_rfl) rfl #[.string t482] rfl lz ?_; (with_reducible refine (impl_ParseAlphabet.calls kj6 t482 t487 t488 t491 _ A23.out).mono ?_); rintro e w27 ⟨v489, rfl, ho0, hb⟩; refine ⟨_, rfl, ?_⟩; have HO490 := Aside0.mk (Kd.R_lower (Kd.R_new' ho0 (Kd.R_lt (kdQ HO_482001))) (below_size (beQ HB))); replace HO_482001 := Aside0.mk (Kd.R_elder' (kdQ HO_482001) (Kd.R_base ho0) hb); replace BK481 := bb BK481 hb; replace HB := Aside0.mk (below_step (beQ HB) hb); (try clear hb); (try clear hb2); (try clear hk); (try clear hi); (try clear hgw_); (try clear ho0)) | ((with_reducible refine gate_dst (N := 8) rfl ?_); refine box_event ?hg (N := 8) ?hd (cs := #[.int .i64 0, .slice none 0 0]) (t := 28) ?hr ?_; (case hd => rfl); (case hg => rfl); (case hr => first | (go_simp; done) | (go_simp; rfl)); intro gb492 hg w28 hbox hb; replace HO_482001 := kb HO_482001 hb; replace HO490 := kb HO490 hb; have BK492 := Aside0.mk (hbox); have GW492 := Aside0.mk ((by rw [hg]; exact (below_size (beQ HB)) : w.heap.size ≤ gb492)); have GE492 := Aside0.mk ((by rw [hg]; exact (below_size (beQ HB)) : w.heap.size ≤ gb492)); replace HB := Aside0.mk (below_step (beQ HB) hb); have NB481_492 := Aside0.mk ((by rw [hg]; exact Nat.ne_of_lt (blk_lt (blkQ BK481)) : gb481 ≠ gb492)); have NB492_481 := Aside0.mk ((by rw [hg]; exact Nat.ne_of_gt (blk_lt (blkQ BK481)) : gb492 ≠ gb481)); replace BK481 := bb BK481 hb; clear hb hbox hg; have hnb29 := NB492_481.out; have hnc29 := NB481_492.out; have hcz30_0 : w28.cell? ⟨gb492, 0, none⟩ = some (.int .i64 0) := bc BK492 0; have hcz30_1 : w28.cell? ⟨gb492, 1, none⟩ = some (.slice none 0 0) := bc BK492 1; have hfz30_0 := blk_frozen BK492.out 0; have hfz30_1 := blk_frozen BK492.out 1; obtain ⟨Ao31, co31, eo31⟩ := Kd.R_slice HO490.out; subst eo31; have hcz32_0 : w28.cell? ⟨gb481, 0, none⟩ = some (.int .i64 t477) := bc BK481 0; have hcz32_1 : w28.cell? ⟨gb481, 1, none⟩ = some (.slice Ao11 t478.length co11) := bc BK481 1; have hfz32_0 := blk_frozen BK481.out 0; have hfz32_1 := blk_frozen BK481.out 1) | (go_at_call 18; (with_reducible refine (laws_likeAlphabet5.calls kj6 t487 _ _ t488 t477 _ _ t478 true _ ?side1 ?side2 ?side3 ?side4 A25.out).mono ?_); (case side1 => refine (Kd.R_reads' (e := 2) (base := w.heap.size) (ok := fun k_ => (True ∧ some k_ ≠ (.slice Ao11 t478.length co11 : Value).ownBlock)) (n := t488.length) (c := co31) ?_).2.2; exact (by (with_reducible repeat (first | apply Kd.R_alloc | apply Kd.R_drewN | apply Kd.R_drew)); exact (Kd.R_mono (Kd.R_far (p := ⟨gb492, 1, none⟩) (Kd.R_far (p := ⟨gb492, 0, none⟩) (Kd.R_types HO490.out BK492.out (by decide)) (fun _ hk => hk.2) (.int .i64 t487)) (fun _ hk => hk.2) (.slice Ao31 t488.length co31)) (fun _ h_ => h_.1)))); (case side2 => exact (Kd.R_reads' HO490.out).2.1); (case side3 => refine (Kd.R_reads' (e := 2) (base := w.heap.size) (ok := fun k_ => (True ∧ some k_ ≠ (.slice Ao31 t488.length co31 : Value).ownBlock)) (n := t478.length) (c := co11) ?_).2.2; exact (by (with_reducible repeat (first | apply Kd.R_alloc | apply Kd.R_drewN | apply Kd.R_drew)); exact (Kd.R_mono (Kd.R_far (p := ⟨gb492, 1, none⟩) (Kd.R_far (p := ⟨gb492, 0, none⟩) (Kd.R_types HO_482001.out BK492.out (by decide)) (fun _ hk => hk.2) (.int .i64 t487)) (fun _ hk => hk.2) (.slice Ao31 t488.length co31)) (fun _ h_ => h_.1)))); (case side4 => exact (Kd.R_reads' HO_482001.out).2.1); rintro e w33 ⟨rfl, hb⟩; replace HO_482001 := Aside0.mk (Kd.R_below (by (with_reducible repeat (first | apply Kd.R_alloc | apply Kd.R_drewN | apply Kd.R_drew)); exact (Kd.R_mono (Kd.R_far (p := ⟨gb492, 1, none⟩) (Kd.R_far (p := ⟨gb492, 0, none⟩) (Kd.R_types HO_482001.out BK492.out (by decide)) (fun _ hk => hk.2) (.int .i64 t487)) (fun _ hk => hk.2) (.slice Ao31 t488.length co31)) (fun _ h_ => h_.1))) hb); replace HO490 := Aside0.mk (Kd.R_below (by (with_reducible repeat (first | apply Kd.R_alloc | apply Kd.R_drewN | apply Kd.R_drew)); exact (Kd.R_mono (Kd.R_far (p := ⟨gb492, 1, none⟩) (Kd.R_far (p := ⟨gb492, 0, none⟩) (Kd.R_types HO490.out BK492.out (by decide)) (fun _ hk => hk.2) (.int .i64 t487)) (fun _ hk => hk.2) (.slice Ao31 t488.length co31)) (fun _ h_ => h_.1))) hb); replace BK481 := Aside0.mk (blk_below (blkF BK481) hb); replace BK492 := Aside0.mk (blk_below (g := gb492) (o := .cells #[.int .i64 t487, .slice Ao31 t488.length co31] 28 (0, 0)) (by (with_reducible repeat (first | refine blk_drewN ?_ _ | refine blk_drew ?_ | refine blk_alloc ?_ _)); refine blk_put (cs := #[.int .i64 t487, .slice none 0 0]) ?_ 1 _ rfl; (with_reducible repeat (first | refine blk_drewN ?_ _ | refine blk_drew ?_ | refine blk_alloc ?_ _)); refine blk_put (cs := #[.int .i64 0, .slice none 0 0]) ?_ 0 _ rfl; (with_reducible repeat (first | refine blk_drewN ?_ _ | refine blk_drew ?_ | refine blk_alloc ?_ _)); exact BK492.out) hb); replace HB := Aside0.mk (below_step (beQ HB) hb); (try clear hb); (try clear hb2); (try clear hk); (try clear hi); (try clear hgw_)))
         go_meet
         case rel => exact ⟨_, H', ⟨by have := HJ6.out; first | omega | exact Nat.le_refl _⟩, ⟨by (with_reducible repeat (first | apply Kd.R_alloc | apply Kd.R_drewN | apply Kd.R_drew)); exact Kd.R_mono HO_482001.out (fun _ hk => trivial)⟩, ⟨blkQ BK481⟩, ⟨beQ HB⟩⟩
        ·replace c26 := Bool.eq_false_iff.mpr c26
         subst c26
         have H1 : (some false) = some r := by rw [if_neg (show ¬ (false = true) by decide)] at H; exact H
         clear H; have H := H1; clear H1
         obtain rfl := Option.some.inj H
         go_wp2_with (first | ((with_reducible refine gate_callee (f := 12) rfl ?_); refine goesL_ (some 50) rfl rfl Tryd.func12 (by kernel_rfl) rfl #[.string t482] rfl lz ?_; (with_reducible refine (impl_ParseAlphabet.calls kj6 t482 t487 t488 t491 _ A23.out).mono ?_); rintro e w34 ⟨v489, rfl, ho0, hb⟩; refine ⟨_, rfl, ?_⟩; have HO490 := Aside0.mk (Kd.R_lower (Kd.R_new' ho0 (Kd.R_lt (kdQ HO_482001))) (below_size (beQ HB))); replace HO_482001 := Aside0.mk (Kd.R_elder' (kdQ HO_482001) (Kd.R_base ho0) hb); replace BK481 := bb BK481 hb; replace HB := Aside0.mk (below_step (beQ HB) hb); (try clear hb); (try clear hb2); (try clear hk); (try clear hi); (try clear hgw_); (try clear ho0)) | ((with_reducible refine gate_dst (N := 8) rfl ?_); refine box_event ?hg (N := 8) ?hd (cs := #[.int .i64 0, .slice none 0 0]) (t := 28) ?hr ?_; (case hd => rfl); (case hg => rfl); (case hr => first | (go_simp; done) | (go_simp; rfl)); intro gb492 hg w35 hbox hb; replace HO_482001 := kb HO_482001 hb; replace HO490 := kb HO490 hb; have BK492 := Aside0.mk (hbox); have GW492 := Aside0.mk ((by rw [hg]; exact (below_size (beQ HB)) : w.heap.size ≤ gb492)); have GE492 := Aside0.mk ((by rw [hg]; exact (below_size (beQ HB)) : w.heap.size ≤ gb492)); replace HB := Aside0.mk (below_step (beQ HB) hb); have NB481_492 := Aside0.mk ((by rw [hg]; exact Nat.ne_of_lt (blk_lt (blkQ BK481)) : gb481 ≠ gb492)); have NB492_481 := Aside0.mk ((by rw [hg]; exact Nat.ne_of_gt (blk_lt (blkQ BK481)) : gb492 ≠ gb481)); replace BK481 := bb BK481 hb; clear hb hbox hg; have hnb36 := NB492_481.out; have hnc36 := NB481_492.out; have hcz37_0 : w35.cell? ⟨gb492, 0, none⟩ = some (.int .i64 0) := bc BK492 0; have hcz37_1 : w35.cell? ⟨gb492, 1, none⟩ = some (.slice none 0 0) := bc BK492 1; have hfz37_0 := blk_frozen BK492.out 0; have hfz37_1 := blk_frozen BK492.out 1; obtain ⟨Ao38, co38, eo38⟩ := Kd.R_slice HO490.out; subst eo38; have hcz39_0 : w35.cell? ⟨gb481, 0, none⟩ = some (.int .i64 t477) := bc BK481 0; have hcz39_1 : w35.cell? ⟨gb481, 1, none⟩ = some (.slice Ao11 t478.length co11) := bc BK481 1; have hfz39_0 := blk_frozen BK481.out 0; have hfz39_1 := blk_frozen BK481.out 1) | (go_at_call 18; (with_reducible refine (laws_likeAlphabet5.calls kj6 t487 _ _ t488 t477 _ _ t478 false _ ?side1 ?side2 ?side3 ?side4 A25.out).mono ?_); (case side1 => refine (Kd.R_reads' (e := 2) (base := w.heap.size) (ok := fun k_ => (True ∧ some k_ ≠ (.slice Ao11 t478.length co11 : Value).ownBlock)) (n := t488.length) (c := co38) ?_).2.2; exact (by (with_reducible repeat (first | apply Kd.R_alloc | apply Kd.R_drewN | apply Kd.R_drew)); exact (Kd.R_mono (Kd.R_far (p := ⟨gb492, 1, none⟩) (Kd.R_far (p := ⟨gb492, 0, none⟩) (Kd.R_types HO490.out BK492.out (by decide)) (fun _ hk => hk.2) (.int .i64 t487)) (fun _ hk => hk.2) (.slice Ao38 t488.length co38)) (fun _ h_ => h_.1)))); (case side2 => exact (Kd.R_reads' HO490.out).2.1); (case side3 => refine (Kd.R_reads' (e := 2) (base := w.heap.size) (ok := fun k_ => (True ∧ some k_ ≠ (.slice Ao38 t488.length co38 : Value).ownBlock)) (n := t478.length) (c := co11) ?_).2.2; exact (by (with_reducible repeat (first | apply Kd.R_alloc | apply Kd.R_drewN | apply Kd.R_drew)); exact (Kd.R_mono (Kd.R_far (p := ⟨gb492, 1, none⟩) (Kd.R_far (p := ⟨gb492, 0, none⟩) (Kd.R_types HO_482001.out BK492.out (by decide)) (fun _ hk => hk.2) (.int .i64 t487)) (fun _ hk => hk.2) (.slice Ao38 t488.length co38)) (fun _ h_ => h_.1)))); (case side4 => exact (Kd.R_reads' HO_482001.out).2.1); rintro e w40 ⟨rfl, hb⟩; replace HO_482001 := Aside0.mk (Kd.R_below (by (with_reducible repeat (first | apply Kd.R_alloc | apply Kd.R_drewN | apply Kd.R_drew)); exact (Kd.R_mono (Kd.R_far (p := ⟨gb492, 1, none⟩) (Kd.R_far (p := ⟨gb492, 0, none⟩) (Kd.R_types HO_482001.out BK492.out (by decide)) (fun _ hk => hk.2) (.int .i64 t487)) (fun _ hk => hk.2) (.slice Ao38 t488.length co38)) (fun _ h_ => h_.1))) hb); replace HO490 := Aside0.mk (Kd.R_below (by (with_reducible repeat (first | apply Kd.R_alloc | apply Kd.R_drewN | apply Kd.R_drew)); exact (Kd.R_mono (Kd.R_far (p := ⟨gb492, 1, none⟩) (Kd.R_far (p := ⟨gb492, 0, none⟩) (Kd.R_types HO490.out BK492.out (by decide)) (fun _ hk => hk.2) (.int .i64 t487)) (fun _ hk => hk.2) (.slice Ao38 t488.length co38)) (fun _ h_ => h_.1))) hb); replace BK481 := Aside0.mk (blk_below (blkF BK481) hb); replace BK492 := Aside0.mk (blk_below (g := gb492) (o := .cells #[.int .i64 t487, .slice Ao38 t488.length co38] 28 (0, 0)) (by (with_reducible repeat (first | refine blk_drewN ?_ _ | refine blk_drew ?_ | refine blk_alloc ?_ _)); refine blk_put (cs := #[.int .i64 t487, .slice none 0 0]) ?_ 1 _ rfl; (with_reducible repeat (first | refine blk_drewN ?_ _ | refine blk_drew ?_ | refine blk_alloc ?_ _)); refine blk_put (cs := #[.int .i64 0, .slice none 0 0]) ?_ 0 _ rfl; (with_reducible repeat (first | refine blk_drewN ?_ _ | refine blk_drew ?_ | refine blk_alloc ?_ _)); exact BK492.out) hb); replace HB := Aside0.mk (below_step (beQ HB) hb); (try clear hb); (try clear hb2); (try clear hk); (try clear hi); (try clear hgw_)))
         go_ret
         exact ⟨rz, beQ HB⟩
       ·rw [if_neg c24] at H
        have c24b0 : (t491 == 0) = false := beq_eq_false_iff_ne.mpr c24
        have c24b1 : (t491 != 0) = true := bne_iff_ne.mpr c24
        obtain rfl := Option.some.inj H
        go_wp2_with (first | ((with_reducible refine gate_callee (f := 12) rfl ?_); refine goesL_ (some 50) rfl rfl Tryd.func12 (by kernel_rfl) rfl #[.string t482] rfl lz ?_; (with_reducible refine (impl_ParseAlphabet.calls kj6 t482 t487 t488 t491 _ A23.out).mono ?_); rintro e w41 ⟨v489, rfl, ho0, hb⟩; refine ⟨_, rfl, ?_⟩; have HO490 := Aside0.mk (Kd.R_lower (Kd.R_new' ho0 (Kd.R_lt (kdQ HO_482001))) (below_size (beQ HB))); replace HO_482001 := Aside0.mk (Kd.R_elder' (kdQ HO_482001) (Kd.R_base ho0) hb); replace BK481 := bb BK481 hb; replace HB := Aside0.mk (below_step (beQ HB) hb); (try clear hb); (try clear hb2); (try clear hk); (try clear hi); (try clear hgw_); (try clear ho0)) | ((with_reducible refine gate_dst (N := 8) rfl ?_); refine box_event ?hg (N := 8) ?hd (cs := #[.int .i64 0, .slice none 0 0]) (t := 28) ?hr ?_; (case hd => rfl); (case hg => rfl); (case hr => first | (go_simp; done) | (go_simp; rfl)); intro gb492 hg w42 hbox hb; replace HO_482001 := kb HO_482001 hb; replace HO490 := kb HO490 hb; have BK492 := Aside0.mk (hbox); have GW492 := Aside0.mk ((by rw [hg]; exact (below_size (beQ HB)) : w.heap.size ≤ gb492)); have GE492 := Aside0.mk ((by rw [hg]; exact (below_size (beQ HB)) : w.heap.size ≤ gb492)); replace HB := Aside0.mk (below_step (beQ HB) hb); have NB481_492 := Aside0.mk ((by rw [hg]; exact Nat.ne_of_lt (blk_lt (blkQ BK481)) : gb481 ≠ gb492)); have NB492_481 := Aside0.mk ((by rw [hg]; exact Nat.ne_of_gt (blk_lt (blkQ BK481)) : gb492 ≠ gb481)); replace BK481 := bb BK481 hb; clear hb hbox hg; have hnb43 := NB492_481.out; have hnc43 := NB481_492.out; have hcz44_0 : w42.cell? ⟨gb492, 0, none⟩ = some (.int .i64 0) := bc BK492 0; have hcz44_1 : w42.cell? ⟨gb492, 1, none⟩ = some (.slice none 0 0) := bc BK492 1; have hfz44_0 := blk_frozen BK492.out 0; have hfz44_1 := blk_frozen BK492.out 1; obtain ⟨Ao45, co45, eo45⟩ := Kd.R_slice HO490.out; subst eo45))
        go_ret
        exact ⟨rz, beQ HB⟩
      ·rw [if_neg c22] at H
       have c22b0 : (t483 == 0) = false := beq_eq_false_iff_ne.mpr c22
       have c22b1 : (t483 != 0) = true := bne_iff_ne.mpr c22
       (first | rw [c22b0] | (simp only [i64_w, i32_w]; rw [c22b0]) | skip)
       have H' := Aside0.mk H
       clear H
       go_wp2
       go_meet
       case rel => exact ⟨_, H', ⟨by have := HJ6.out; first | omega | exact Nat.le_refl _⟩, ⟨kdQ HO_482001⟩, ⟨blkQ BK481⟩, ⟨beQ HB⟩⟩
     case rest =>
      clear HC21
      try clear c1
      try clear c2
      try clear p2
      try clear c3
      try clear c4
      try clear c5
      try clear c7
      try clear c9
      try clear c12
      try clear c15
      try clear c15b0
      try clear c15b1
      try clear c16
      try clear c16b0
      try clear c16b1
      try clear c20
      try clear c22
      try clear c22b0
      try clear c22b1
      try clear c24
      try clear c24b0
      try clear c24b1
      try clear c26
      try clear c29
      try clear c36
      try clear c43
      try clear hcz10_0
      try clear hcz10_1
      try clear hcz13_0
      try clear hcz13_1
      try clear hcz18_0
      try clear hcz18_1
      try clear hcz30_0
      try clear hcz30_1
      try clear hcz32_0
      try clear hcz32_1
      try clear hcz37_0
      try clear hcz37_1
      try clear hcz39_0
      try clear hcz39_1
      try clear hcz44_0
      try clear hcz44_1
      try clear hfz10_0
      try clear hfz10_1
      try clear hfz13_0
      try clear hfz13_1
      try clear hfz18_0
      try clear hfz18_1
      try clear hfz30_0
      try clear hfz30_1
      try clear hfz32_0
      try clear hfz32_1
      try clear hfz37_0
      try clear hfz37_1
      try clear hfz39_0
      try clear hfz39_1
      try clear hfz44_0
      try clear hfz44_1
      try clear p2
      obtain ⟨kq, HA, HJ20, HO_482001, BK481, HB⟩ := hcut
      cases kq with
      | zero => exact absurd HA.out (by simp [laws_FnAlphabetTexts.j1])
      | succ kj20 =>
       have H := HA.out; clear HA
       simp only [laws_FnAlphabetTexts.j1] at H
       replace H := Option.bind_eq_some_iff.mp H; obtain ⟨t494, A460, H⟩ := H
       replace H : ((impl_ParseAlphabet.f kj20 t494).bind fun bt495 => ((spec_ParseAlphabet.f kj20 t494).bind fun bt501 => (if bt495.2.2 = bt501.2.2 then ((laws_likeAlphabet5.f kj20 bt495.1 bt495.2.1 bt501.1 bt501.2.1).bind fun t507 => (laws_FnAlphabetTexts.j2 kj20 t494 bt495.2.2 (!t507) bt495.1 bt495.2.1)) else (laws_FnAlphabetTexts.j2 kj20 t494 bt495.2.2 true bt495.1 bt495.2.1)))) = some r := H
       have A46 := Aside0.mk A460; clear A460; replace H := Option.bind_eq_some_iff.mp H
       obtain ⟨⟨t495, t496, t499⟩, A470, H⟩ := H
       replace H : ((spec_ParseAlphabet.f kj20 t494).bind fun bt501 => (if t499 = bt501.2.2 then ((laws_likeAlphabet5.f kj20 t495 t496 bt501.1 bt501.2.1).bind fun t507 => (laws_FnAlphabetTexts.j2 kj20 t494 t499 (!t507) t495 t496)) else (laws_FnAlphabetTexts.j2 kj20 t494 t499 true t495 t496))) = some r := H
       have A47 := Aside0.mk A470; clear A470; replace H := Option.bind_eq_some_iff.mp H
       obtain ⟨⟨t501, t502, t505⟩, A480, H⟩ := H
       replace H : (if t499 = t505 then ((laws_likeAlphabet5.f kj20 t495 t496 t501 t502).bind fun t507 => (laws_FnAlphabetTexts.j2 kj20 t494 t499 (!t507) t495 t496)) else (laws_FnAlphabetTexts.j2 kj20 t494 t499 true t495 t496)) = some r := H
       have A48 := Aside0.mk A480; clear A480; have HC49 := Aside0.mk H; clear H
       go_upto_region 15 with (first | ((with_reducible refine gate_callee (f := 19) rfl ?_); refine goesL_ (some 62) rfl rfl Tryd.func19 (by kernel_rfl) rfl #[.slice A0 l0.length c0] rfl lz ?_; (with_reducible refine (spec_DrawParseAlphabet.calls kj20 _ _ l0 t494 _ ?side1 ?side2 A46.out).mono ?_); (case side1 => have q_ := Aside0.mk (Kd.C_below HR0.out HB.out); exact cQ q_); (case side2 => exact HC0.out); rintro e w50 ⟨rfl, hb⟩; refine ⟨_, rfl, ?_⟩; replace HO_482001 := kb HO_482001 hb; replace BK481 := bb BK481 hb; replace HB := Aside0.mk (below_step (beQ HB) hb); (try clear hb); (try clear hb2); (try clear hk); (try clear hi); (try clear hgw_)) | ((with_reducible refine gate_callee (f := 12) rfl ?_); refine goesL_ (some 65) rfl rfl Tryd.func12 (by kernel_rfl) rfl #[.string t494] rfl lz ?_; (with_reducible refine (impl_ParseAlphabet.calls kj20 t494 t495 t496 t499 _ A47.out).mono ?_); rintro e w51 ⟨v497, rfl, ho0, hb⟩; refine ⟨_, rfl, ?_⟩; have HO498 := Aside0.mk (Kd.R_lower (Kd.R_new' ho0 (Kd.R_lt (kdQ HO_482001))) (below_size (beQ HB))); replace HO_482001 := Aside0.mk (Kd.R_elder' (kdQ HO_482001) (Kd.R_base ho0) hb); replace BK481 := bb BK481 hb; replace HB := Aside0.mk (below_step (beQ HB) hb); (try clear hb); (try clear hb2); (try clear hk); (try clear hi); (try clear hgw_); (try clear ho0)) | ((with_reducible refine gate_dst (N := 11) rfl ?_); refine box_event ?hg (N := 11) ?hd (cs := #[.int .i64 0, .slice none 0 0]) (t := 28) ?hr ?_; (case hd => rfl); (case hg => rfl); (case hr => first | (go_simp; done) | (go_simp; rfl)); intro gb500 hg w52 hbox hb; replace HO_482001 := kb HO_482001 hb; replace HO498 := kb HO498 hb; have BK500 := Aside0.mk (hbox); have GW500 := Aside0.mk ((by rw [hg]; exact (below_size (beQ HB)) : w.heap.size ≤ gb500)); have GE500 := Aside0.mk ((by rw [hg]; exact (below_size (beQ HB)) : w.heap.size ≤ gb500)); replace HB := Aside0.mk (below_step (beQ HB) hb); have NB481_500 := Aside0.mk ((by rw [hg]; exact Nat.ne_of_lt (blk_lt (blkQ BK481)) : gb481 ≠ gb500)); have NB500_481 := Aside0.mk ((by rw [hg]; exact Nat.ne_of_gt (blk_lt (blkQ BK481)) : gb500 ≠ gb481)); replace BK481 := bb BK481 hb; clear hb hbox hg; have hnb53 := NB500_481.out; have hnc53 := NB481_500.out; have hcz54_0 : w52.cell? ⟨gb500, 0, none⟩ = some (.int .i64 0) := bc BK500 0; have hcz54_1 : w52.cell? ⟨gb500, 1, none⟩ = some (.slice none 0 0) := bc BK500 1; have hfz54_0 := blk_frozen BK500.out 0; have hfz54_1 := blk_frozen BK500.out 1; obtain ⟨Ao55, co55, eo55⟩ := Kd.R_slice HO498.out; subst eo55) | ((with_reducible refine gate_callee (f := 11) rfl ?_); refine goesL_ (some 70) rfl rfl Tryd.func11 (by kernel_rfl) rfl #[.string t494] rfl lz ?_; (with_reducible refine (spec_ParseAlphabet.calls kj20 t494 t501 t502 t505 _ A48.out).mono ?_); rintro e w56 ⟨v503, rfl, ho0, hb⟩; refine ⟨_, rfl, ?_⟩; have HO504 := Aside0.mk (Kd.R_lower (Kd.R_new' (Kd.R_new' ho0 (Kd.R_lt (by (with_reducible repeat (first | apply Kd.R_alloc | apply Kd.R_drewN | apply Kd.R_drew)); exact (Kd.R_mono (Kd.R_far (p := ⟨gb500, 1, none⟩) (Kd.R_far (p := ⟨gb500, 0, none⟩) (Kd.R_types HO_482001.out BK500.out (by decide)) (fun _ hk => hk.2) (.int .i64 t495)) (fun _ hk => hk.2) (.slice Ao55 t496.length co55)) (fun _ h_ => h_.1))))) (Kd.R_lt (by (with_reducible repeat (first | apply Kd.R_alloc | apply Kd.R_drewN | apply Kd.R_drew)); exact (Kd.R_mono (Kd.R_far (p := ⟨gb500, 1, none⟩) (Kd.R_far (p := ⟨gb500, 0, none⟩) (Kd.R_types HO498.out BK500.out (by decide)) (fun _ hk => hk.2) (.int .i64 t495)) (fun _ hk => hk.2) (.slice Ao55 t496.length co55)) (fun _ h_ => h_.1))))) (below_size (beQ HB))); replace HO_482001 := Aside0.mk (Kd.R_elder' (by (with_reducible repeat (first | apply Kd.R_alloc | apply Kd.R_drewN | apply Kd.R_drew)); exact (Kd.R_mono (Kd.R_far (p := ⟨gb500, 1, none⟩) (Kd.R_far (p := ⟨gb500, 0, none⟩) (Kd.R_types HO_482001.out BK500.out (by decide)) (fun _ hk => hk.2) (.int .i64 t495)) (fun _ hk => hk.2) (.slice Ao55 t496.length co55)) (fun _ h_ => h_.1))) (Kd.R_base ho0) hb); replace HO498 := Aside0.mk (Kd.R_elder' (by (with_reducible repeat (first | apply Kd.R_alloc | apply Kd.R_drewN | apply Kd.R_drew)); exact (Kd.R_mono (Kd.R_far (p := ⟨gb500, 1, none⟩) (Kd.R_far (p := ⟨gb500, 0, none⟩) (Kd.R_types HO498.out BK500.out (by decide)) (fun _ hk => hk.2) (.int .i64 t495)) (fun _ hk => hk.2) (.slice Ao55 t496.length co55)) (fun _ h_ => h_.1))) (Kd.R_base ho0) hb); replace BK481 := Aside0.mk (blk_below (blkF BK481) hb); replace BK500 := Aside0.mk (blk_below (g := gb500) (o := .cells #[.int .i64 t495, .slice Ao55 t496.length co55] 28 (0, 0)) (by (with_reducible repeat (first | refine blk_drewN ?_ _ | refine blk_drew ?_ | refine blk_alloc ?_ _)); refine blk_put (cs := #[.int .i64 t495, .slice none 0 0]) ?_ 1 _ rfl; (with_reducible repeat (first | refine blk_drewN ?_ _ | refine blk_drew ?_ | refine blk_alloc ?_ _)); refine blk_put (cs := #[.int .i64 0, .slice none 0 0]) ?_ 0 _ rfl; (with_reducible repeat (first | refine blk_drewN ?_ _ | refine blk_drew ?_ | refine blk_alloc ?_ _)); exact BK500.out) hb); replace HB := Aside0.mk (below_step (beQ HB) hb); (try clear hb); (try clear hb2); (try clear hk); (try clear hi); (try clear hgw_); (try clear ho0)) | ((with_reducible refine gate_dst (N := 13) rfl ?_); refine box_event ?hg (N := 13) ?hd (cs := #[.int .i64 0, .slice none 0 0]) (t := 28) ?hr ?_; (case hd => rfl); (case hg => rfl); (case hr => first | (go_simp; done) | (go_simp; rfl)); intro gb506 hg w57 hbox hb; replace HO_482001 := kb HO_482001 hb; replace HO498 := kb HO498 hb; replace HO504 := kb HO504 hb; have BK506 := Aside0.mk (hbox); have GW506 := Aside0.mk ((by rw [hg]; exact (below_size (beQ HB)) : w.heap.size ≤ gb506)); have GE506 := Aside0.mk ((by rw [hg]; exact (below_size (beQ HB)) : w.heap.size ≤ gb506)); replace HB := Aside0.mk (below_step (beQ HB) hb); have NB481_506 := Aside0.mk ((by rw [hg]; exact Nat.ne_of_lt (blk_lt (blkQ BK481)) : gb481 ≠ gb506)); have NB506_481 := Aside0.mk ((by rw [hg]; exact Nat.ne_of_gt (blk_lt (blkQ BK481)) : gb506 ≠ gb481)); replace BK481 := bb BK481 hb; have NB500_506 := Aside0.mk ((by rw [hg]; exact Nat.ne_of_lt (blk_lt (blkQ BK500)) : gb500 ≠ gb506)); have NB506_500 := Aside0.mk ((by rw [hg]; exact Nat.ne_of_gt (blk_lt (blkQ BK500)) : gb506 ≠ gb500)); replace BK500 := bb BK500 hb; clear hb hbox hg; have hnb58 := NB506_481.out; have hnc58 := NB481_506.out; have hnb59 := NB506_500.out; have hnc59 := NB500_506.out; have hcz60_0 : w57.cell? ⟨gb506, 0, none⟩ = some (.int .i64 0) := bc BK506 0; have hcz60_1 : w57.cell? ⟨gb506, 1, none⟩ = some (.slice none 0 0) := bc BK506 1; have hfz60_0 := blk_frozen BK506.out 0; have hfz60_1 := blk_frozen BK506.out 1; obtain ⟨Ao61, co61, eo61⟩ := Kd.R_slice HO504.out; subst eo61))
       (try simp only [Act.put, List.setIfInBounds_toArray, List.set_cons_zero, List.set_cons_succ])
       go_cut [81] (fun v81 wc => ∃ (kq : Nat) (x81_48 : Bool), v81 = .bool x81_48 ∧ Aside0 (laws_FnAlphabetTexts.j2 kq t494 t499 x81_48 t495 t496 = some r) ∧ Aside0 (kq ≤ kj20) ∧ Aside0 (Kd.R (Kd.int .i64) 2 wc w.heap.size (fun k_ => some k_ ≠ ((.slice Ao55 t496.length co55) : Value).ownBlock ∧ some k_ ≠ ((.slice Ao61 t502.length co61) : Value).ownBlock) (.slice Ao11 t478.length co11) t478) ∧ Aside0 (Kd.R (Kd.int .i64) 2 wc w.heap.size (fun k_ => some k_ ≠ ((.slice Ao11 t478.length co11) : Value).ownBlock ∧ some k_ ≠ ((.slice Ao61 t502.length co61) : Value).ownBlock) (.slice Ao55 t496.length co55) t496) ∧ Aside0 (Kd.R (Kd.int .i64) 2 wc w.heap.size (fun k_ => some k_ ≠ ((.slice Ao11 t478.length co11) : Value).ownBlock ∧ some k_ ≠ ((.slice Ao55 t496.length co55) : Value).ownBlock) (.slice Ao61 t502.length co61) t502) ∧ Aside0 (wc.heap[gb481]? = some (.cells #[.int .i64 t477, (.slice Ao11 t478.length co11)] 28 (0, 0))) ∧ Aside0 (wc.heap[gb500]? = some (.cells #[.int .i64 t495, (.slice Ao55 t496.length co55)] 28 (0, 0))) ∧ Aside0 (wc.heap[gb506]? = some (.cells #[.int .i64 t501, (.slice Ao61 t502.length co61)] 28 (0, 0))) ∧ Aside0 (Below w.heap.size w wc))
       case first =>
        have H := HC49.out; clear HC49
        by_cases c62 : t499 = t505
        ·rw [if_pos c62] at H
         have c62b0 : (t499 == t505) = true := beq_iff_eq.mpr c62
         have c62b1 : (t499 != t505) = false := bne_eq_false_iff_eq.mpr c62
         clear c62
         (first | rw [c62b0] | (simp only [i64_w, i32_w]; rw [c62b0]) | skip)
         replace H := Option.bind_eq_some_iff.mp H; obtain ⟨t507, A630, H⟩ := H
         replace H : (laws_FnAlphabetTexts.j2 kj20 t494 t499 (!t507) t495 t496) = some r := H
         have A63 := Aside0.mk A630; clear A630
         have H' := Aside0.mk H
         clear H; have hnb64 := NB500_481.out; have hnc64 := NB481_500.out; have hnb65 := NB500_506.out; have hnc65 := NB506_500.out
         have hcz66_0 : w57.cell? ⟨gb500, 0, none⟩ = some (.int .i64 t495) := bc BK500 0
         have hcz66_1 : w57.cell? ⟨gb500, 1, none⟩ = some (.slice Ao55 t496.length co55) := bc BK500 1
         have hfz66_0 := blk_frozen BK500.out 0; have hfz66_1 := blk_frozen BK500.out 1; have hnb67 := NB506_481.out; have hnc67 := NB481_506.out
         have hcz68_0 : w57.cell? ⟨gb506, 0, none⟩ = some (.int .i64 0) := bc BK506 0
         have hcz68_1 : w57.cell? ⟨gb506, 1, none⟩ = some (.slice none 0 0) := bc BK506 1
         have hfz68_0 := blk_frozen BK506.out 0; have hfz68_1 := blk_frozen BK506.out 1
         go_wp2_with (first | (go_at_call 18; (with_reducible refine (laws_likeAlphabet5.calls kj20 t495 _ _ t496 t501 _ _ t502 t507 _ ?side1 ?side2 ?side3 ?side4 A63.out).mono ?_); (case side1 => refine (Kd.R_reads' (e := 2) (base := w.heap.size) (ok := fun k_ => ((True ∧ some k_ ≠ (.slice Ao11 t478.length co11 : Value).ownBlock) ∧ some k_ ≠ (.slice Ao61 t502.length co61 : Value).ownBlock)) (n := t496.length) (c := co55) ?_).2.2; exact (by (with_reducible repeat (first | apply Kd.R_alloc | apply Kd.R_drewN | apply Kd.R_drew)); exact (Kd.R_mono (Kd.R_far (p := ⟨gb506, 1, none⟩) (Kd.R_far (p := ⟨gb506, 0, none⟩) (Kd.R_types HO498.out BK506.out (by decide)) (fun _ hk => hk.2) (.int .i64 t501)) (fun _ hk => hk.2) (.slice Ao61 t502.length co61)) (fun _ h_ => h_.1)))); (case side2 => exact (Kd.R_reads' HO498.out).2.1); (case side3 => refine (Kd.R_reads' (e := 2) (base := w.heap.size) (ok := fun k_ => ((True ∧ some k_ ≠ (.slice Ao11 t478.length co11 : Value).ownBlock) ∧ some k_ ≠ (.slice Ao55 t496.length co55 : Value).ownBlock)) (n := t502.length) (c := co61) ?_).2.2; exact (by (with_reducible repeat (first | apply Kd.R_alloc | apply Kd.R_drewN | apply Kd.R_drew)); exact (Kd.R_mono (Kd.R_far (p := ⟨gb506, 1, none⟩) (Kd.R_far (p := ⟨gb506, 0, none⟩) (Kd.R_types HO504.out BK506.out (by decide)) (fun _ hk => hk.2) (.int .i64 t501)) (fun _ hk => hk.2) (.slice Ao61 t502.length co61)) (fun _ h_ => h_.1)))); (case side4 => exact (Kd.R_reads' HO504.out).2.1); rintro e w69 ⟨rfl, hb⟩; replace HO_482001 := Aside0.mk (Kd.R_below (by (with_reducible repeat (first | apply Kd.R_alloc | apply Kd.R_drewN | apply Kd.R_drew)); exact (Kd.R_mono (Kd.R_far (p := ⟨gb506, 1, none⟩) (Kd.R_far (p := ⟨gb506, 0, none⟩) (Kd.R_types HO_482001.out BK506.out (by decide)) (fun _ hk => hk.2) (.int .i64 t501)) (fun _ hk => hk.2) (.slice Ao61 t502.length co61)) (fun _ h_ => h_.1))) hb); replace HO498 := Aside0.mk (Kd.R_below (by (with_reducible repeat (first | apply Kd.R_alloc | apply Kd.R_drewN | apply Kd.R_drew)); exact (Kd.R_mono (Kd.R_far (p := ⟨gb506, 1, none⟩) (Kd.R_far (p := ⟨gb506, 0, none⟩) (Kd.R_types HO498.out BK506.out (by decide)) (fun _ hk => hk.2) (.int .i64 t501)) (fun _ hk => hk.2) (.slice Ao61 t502.length co61)) (fun _ h_ => h_.1))) hb); replace HO504 := Aside0.mk (Kd.R_below (by (with_reducible repeat (first | apply Kd.R_alloc | apply Kd.R_drewN | apply Kd.R_drew)); exact (Kd.R_mono (Kd.R_far (p := ⟨gb506, 1, none⟩) (Kd.R_far (p := ⟨gb506, 0, none⟩) (Kd.R_types HO504.out BK506.out (by decide)) (fun _ hk => hk.2) (.int .i64 t501)) (fun _ hk => hk.2) (.slice Ao61 t502.length co61)) (fun _ h_ => h_.1))) hb); replace BK481 := Aside0.mk (blk_below (blkF BK481) hb); replace BK500 := Aside0.mk (blk_below (blkF BK500) hb); replace BK506 := Aside0.mk (blk_below (g := gb506) (o := .cells #[.int .i64 t501, .slice Ao61 t502.length co61] 28 (0, 0)) (by (with_reducible repeat (first | refine blk_drewN ?_ _ | refine blk_drew ?_ | refine blk_alloc ?_ _)); refine blk_put (cs := #[.int .i64 t501, .slice none 0 0]) ?_ 1 _ rfl; (with_reducible repeat (first | refine blk_drewN ?_ _ | refine blk_drew ?_ | refine blk_alloc ?_ _)); refine blk_put (cs := #[.int .i64 0, .slice none 0 0]) ?_ 0 _ rfl; (with_reducible repeat (first | refine blk_drewN ?_ _ | refine blk_drew ?_ | refine blk_alloc ?_ _)); exact BK506.out) hb); replace HB := Aside0.mk (below_step (beQ HB) hb); (try clear hb); (try clear hb2); (try clear hk); (try clear hi); (try clear hgw_)))
         go_meet
         case rel => exact ⟨_, (!t507), sz, H', ⟨by have := HJ6.out; have := HJ20.out; first | omega | exact Nat.le_refl _⟩, ⟨by (with_reducible repeat (first | apply Kd.R_alloc | apply Kd.R_drewN | apply Kd.R_drew)); exact Kd.R_mono HO_482001.out (fun _ hk => ⟨hk.1.2, hk.2⟩)⟩, ⟨by (with_reducible repeat (first | apply Kd.R_alloc | apply Kd.R_drewN | apply Kd.R_drew)); exact Kd.R_mono HO498.out (fun _ hk => ⟨hk.1.2, hk.2⟩)⟩, ⟨by (with_reducible repeat (first | apply Kd.R_alloc | apply Kd.R_drewN | apply Kd.R_drew)); exact Kd.R_mono HO504.out (fun _ hk => ⟨hk.1.2, hk.2⟩)⟩, ⟨blkQ BK481⟩, ⟨blkQ BK500⟩, ⟨blkQ BK506⟩, ⟨beQ HB⟩⟩
        ·rw [if_neg c62] at H
         have c62b0 : (t499 == t505) = false := beq_eq_false_iff_ne.mpr c62
         have c62b1 : (t499 != t505) = true := bne_iff_ne.mpr c62
         (first | rw [c62b0] | (simp only [i64_w, i32_w]; rw [c62b0]) | skip)
         have H' := Aside0.mk H
         clear H
         go_wp2
         go_meet
         case rel => exact ⟨_, (true), sz, H', ⟨by have := HJ6.out; have := HJ20.out; first | omega | exact Nat.le_refl _⟩, ⟨by (with_reducible repeat (first | apply Kd.R_alloc | apply Kd.R_drewN | apply Kd.R_drew)); exact Kd.R_mono (Kd.R_far (p := ⟨gb506, 1, none⟩) (Kd.R_far (p := ⟨gb506, 0, none⟩) (Kd.R_types HO_482001.out BK506.out (by decide)) (fun _ hk => hk.2) (.int .i64 t501)) (fun _ hk => hk.2) (.slice Ao61 t502.length co61)) (fun _ hk => ⟨hk.1.1.2, hk.1.2⟩)⟩, ⟨by (with_reducible repeat (first | apply Kd.R_alloc | apply Kd.R_drewN | apply Kd.R_drew)); exact Kd.R_mono (Kd.R_far (p := ⟨gb506, 1, none⟩) (Kd.R_far (p := ⟨gb506, 0, none⟩) (Kd.R_types HO498.out BK506.out (by decide)) (fun _ hk => hk.2) (.int .i64 t501)) (fun _ hk => hk.2) (.slice Ao61 t502.length co61)) (fun _ hk => ⟨hk.1.1.2, hk.1.2⟩)⟩, ⟨by (with_reducible repeat (first | apply Kd.R_alloc | apply Kd.R_drewN | apply Kd.R_drew)); exact Kd.R_mono (Kd.R_far (p := ⟨gb506, 1, none⟩) (Kd.R_far (p := ⟨gb506, 0, none⟩) (Kd.R_types HO504.out BK506.out (by decide)) (fun _ hk => hk.2) (.int .i64 t501)) (fun _ hk => hk.2) (.slice Ao61 t502.length co61)) (fun _ hk => ⟨hk.1.1.2, hk.1.2⟩)⟩, ⟨blkF BK481⟩, ⟨blkF BK500⟩, ⟨by (with_reducible repeat (first | refine blk_drewN ?_ _ | refine blk_drew ?_ | refine blk_alloc ?_ _)); refine blk_put (cs := #[.int .i64 t501, .slice none 0 0]) ?_ 1 _ rfl; (with_reducible repeat (first | refine blk_drewN ?_ _ | refine blk_drew ?_ | refine blk_alloc ?_ _)); refine blk_put (cs := #[.int .i64 0, .slice none 0 0]) ?_ 0 _ rfl; (with_reducible repeat (first | refine blk_drewN ?_ _ | refine blk_drew ?_ | refine blk_alloc ?_ _)); exact BK506.out⟩, ⟨beQ HB⟩⟩
       case rest =>
        clear HC49
        try clear c1
        try clear c2
        try clear p2
        try clear c3
        try clear c4
        try clear c5
        try clear c6
        try clear c7
        try clear c9
        try clear c11
        try clear c12
        try clear c15
        try clear c15b0
        try clear c15b1
        try clear c16
        try clear c16b0
        try clear c16b1
        try clear c19
        try clear c20
        try clear c22
        try clear c22b0
        try clear c22b1
        try clear c24
        try clear c24b0
        try clear c24b1
        try clear c26
        try clear c29
        try clear c36
        try clear c43
        try clear c53
        try clear c58
        try clear c59
        try clear c62
        try clear c62b0
        try clear c62b1
        try clear c64
        try clear c65
        try clear c67
        try clear hcz10_0
        try clear hcz10_1
        try clear hcz13_0
        try clear hcz13_1
        try clear hcz18_0
        try clear hcz18_1
        try clear hcz30_0
        try clear hcz30_1
        try clear hcz32_0
        try clear hcz32_1
        try clear hcz37_0
        try clear hcz37_1
        try clear hcz39_0
        try clear hcz39_1
        try clear hcz44_0
        try clear hcz44_1
        try clear hcz54_0
        try clear hcz54_1
        try clear hcz60_0
        try clear hcz60_1
        try clear hcz66_0
        try clear hcz66_1
        try clear hcz68_0
        try clear hcz68_1
        try clear hfz10_0
        try clear hfz10_1
        try clear hfz13_0
        try clear hfz13_1
        try clear hfz18_0
        try clear hfz18_1
        try clear hfz30_0
        try clear hfz30_1
        try clear hfz32_0
        try clear hfz32_1
        try clear hfz37_0
        try clear hfz37_1
        try clear hfz39_0
        try clear hfz39_1
        try clear hfz44_0
        try clear hfz44_1
        try clear hfz54_0
        try clear hfz54_1
        try clear hfz60_0
        try clear hfz60_1
        try clear hfz66_0
        try clear hfz66_1
        try clear hfz68_0
        try clear hfz68_1
        try clear p2
        obtain ⟨kq, x81_48, rfl, HA, HJ48, HO_482001, HO_501001, HO_507001, BK481, BK500, BK506, HB⟩ := hcut
        cases kq with
        | zero => exact absurd HA.out (by simp [laws_FnAlphabetTexts.j2])
        | succ kj48 =>
         have H := HA.out; clear HA
         simp only [laws_FnAlphabetTexts.j2] at H
         by_cases c70 : x81_48 = true
         ·subst c70
          have H1 : (some false) = some r := by rw [if_pos rfl] at H; exact H
          clear H; have H := H1; clear H1
          obtain rfl := Option.some.inj H
          go_wp2
          go_ret
          exact ⟨rz, beQ HB⟩
         ·replace c70 := Bool.eq_false_iff.mpr c70
          subst c70
          have H1 : (if t499 = 0 then ((impl_AlphabetText.f kj48 t495 t496).bind fun bt508 => (if bt508.2 = 0 then (some (bt508.1.toList == t494.toList)) else (some false))) else (some true)) = some r := by rw [if_neg (show ¬ (false = true) by decide)] at H; exact H
          clear H; have H := H1; clear H1
          by_cases c71 : t499 = 0
          ·rw [if_pos c71] at H
           have c71b0 : (t499 == 0) = true := beq_iff_eq.mpr c71
           have c71b1 : (t499 != 0) = false := bne_eq_false_iff_eq.mpr c71
           clear c71; replace H := Option.bind_eq_some_iff.mp H
           obtain ⟨⟨t508, t509⟩, A720, H⟩ := H
           replace H : (if t509 = 0 then (some (t508.toList == t494.toList)) else (some false)) = some r := H
           have A72 := Aside0.mk A720; clear A720
           by_cases c73 : t509 = 0
           ·rw [if_pos c73] at H
            have c73b0 : (t509 == 0) = true := beq_iff_eq.mpr c73
            have c73b1 : (t509 != 0) = false := bne_eq_false_iff_eq.mpr c73
            clear c73
            obtain rfl := Option.some.inj H
            have hnb74 := NB500_481.out; have hnc74 := NB481_500.out; have hnb75 := NB500_506.out; have hnc75 := NB506_500.out
            have hcz76_0 : wc.cell? ⟨gb500, 0, none⟩ = some (.int .i64 t495) := bc BK500 0
            have hcz76_1 : wc.cell? ⟨gb500, 1, none⟩ = some (.slice Ao55 t496.length co55) := bc BK500 1
            have hfz76_0 := blk_frozen BK500.out 0; have hfz76_1 := blk_frozen BK500.out 1
            go_wp2_with (first | ((with_reducible refine gate_callee (f := 9) rfl ?_); refine goesL_ (some 86) rfl rfl Tryd.func9 (by kernel_rfl) rfl #[.agg #[.int .i64 t495, .slice Ao55 t496.length co55]] rfl lz ?_; (with_reducible refine (impl_AlphabetText.calls kj48 t495 _ _ t496 t508 t509 _ ?side1 ?side2 ?side3 A72.out).mono ?_); (case side1 => have q_ := Aside0.mk (Kd.R_reads' HO_501001.out).2.2; exact cQ q_); (case side2 => exact (Kd.R_reads' HO_501001.out).2.1); (case side3 => exact TabW.below HT.out (beQ HB)); rintro e w77 ⟨rfl, hb⟩; refine ⟨_, rfl, ?_⟩; replace HO_482001 := kb HO_482001 hb; replace HO_501001 := kb HO_501001 hb; replace HO_507001 := kb HO_507001 hb; replace BK481 := bb BK481 hb; replace BK500 := bb BK500 hb; replace BK506 := bb BK506 hb; replace HB := Aside0.mk (below_step (beQ HB) hb); (try clear hb); (try clear hb2); (try clear hk); (try clear hi); (try clear hgw_)))
            go_ret
            exact ⟨rz, beQ HB⟩
           ·rw [if_neg c73] at H
            have c73b0 : (t509 == 0) = false := beq_eq_false_iff_ne.mpr c73
            have c73b1 : (t509 != 0) = true := bne_iff_ne.mpr c73
            obtain rfl := Option.some.inj H
            have hnb78 := NB500_481.out; have hnc78 := NB481_500.out; have hnb79 := NB500_506.out; have hnc79 := NB506_500.out
            have hcz80_0 : wc.cell? ⟨gb500, 0, none⟩ = some (.int .i64 t495) := bc BK500 0
            have hcz80_1 : wc.cell? ⟨gb500, 1, none⟩ = some (.slice Ao55 t496.length co55) := bc BK500 1
            have hfz80_0 := blk_frozen BK500.out 0; have hfz80_1 := blk_frozen BK500.out 1
            go_wp2_with (first | ((with_reducible refine gate_callee (f := 9) rfl ?_); refine goesL_ (some 86) rfl rfl Tryd.func9 (by kernel_rfl) rfl #[.agg #[.int .i64 t495, .slice Ao55 t496.length co55]] rfl lz ?_; (with_reducible refine (impl_AlphabetText.calls kj48 t495 _ _ t496 t508 t509 _ ?side1 ?side2 ?side3 A72.out).mono ?_); (case side1 => have q_ := Aside0.mk (Kd.R_reads' HO_501001.out).2.2; exact cQ q_); (case side2 => exact (Kd.R_reads' HO_501001.out).2.1); (case side3 => exact TabW.below HT.out (beQ HB)); rintro e w81 ⟨rfl, hb⟩; refine ⟨_, rfl, ?_⟩; replace HO_482001 := kb HO_482001 hb; replace HO_501001 := kb HO_501001 hb; replace HO_507001 := kb HO_507001 hb; replace BK481 := bb BK481 hb; replace BK500 := bb BK500 hb; replace BK506 := bb BK506 hb; replace HB := Aside0.mk (below_step (beQ HB) hb); (try clear hb); (try clear hb2); (try clear hk); (try clear hi); (try clear hgw_)))
            go_ret
            exact ⟨rz, beQ HB⟩
          ·rw [if_neg c71] at H
           have c71b0 : (t499 == 0) = false := beq_eq_false_iff_ne.mpr c71
           have c71b1 : (t499 != 0) = true := bne_iff_ne.mpr c71
           obtain rfl := Option.some.inj H
           go_wp2
           go_ret
           exact ⟨rz, beQ HB⟩
end Go.Proofs.YtbhkpfkkjknmlaaDoor.G
