-- A copy, with what one law needs, of a text that print.sh or a program of ours wrote
import Derived.Test.YtbhkpfkkjknmlaaDoorZ1G0
import Derived.Test.YtbhkpfkkjknmlaaDoorZ1GQ01a
import Derived.Test.YtbhkpfkkjknmlaaDoorZ1GQ04a
namespace Go.Proofs.YtbhkpfkkjknmlaaDoor.G
open Go.RowKit Go.Proofs.YtbhkpfkkjknmlaaDoorW.PrintWords Go.Proofs.YtbhkpfkkjknmlaaDoorW.PrintLast Go.Proofs.YtbhkpfkkjknmlaaDoorW.PrintMore
theorem zQ04bx0 {p : Prop} (h : p := by repeat (first | (with_reducible first | exact HB.out | apply below_alloc | apply pw_below_drewN | apply below_drew1 | refine below_set ?_ GE261.out | refine below_set ?_ GE274.out) | exact HB.out)) : p := h
theorem zQ04bx1 {p : Prop} (h : p := by first | exact ⟨rfl, _, World.drewN_drewN _ _ _⟩ | exact ⟨rfl, _, Eq.trans (World.drewN_drewN _ _ _) (congrArg (World.drewN _) (Nat.add_assoc _ _ _))⟩) : p := h
attribute [local go_sem] max2_int min2_int max_two min_two max_three min_three max_four min_four   -- for this text's walks alone
set_option linter.unusedVariables false
set_option linter.unusedSimpArgs false
mutual
def spec_ParseAlphabet.j0 : Nat → ByteArray → List ByteArray → Bool → Option (Int × List Int × Int)
 | 0, _, _, _ => none
 | k + 1, x0, x4, x31 => if x31 = true then (some (0, ([] : List Int), 6)) else (if 0 < (x4.length : Int) then (if 0 < ((rdOf ByteArray.empty x4 0).size : Int) then ((spec_l02Free.f k (((bt (rdOf ByteArray.empty x4 0) 0) - 48) % 256)).bind fun bt270 => (spec_ParseAlphabet.l0 k x0 x4 1 bt270.1 bt270.2)) else (none)) else (none))
def spec_ParseAlphabet.l0 : Nat → ByteArray → List ByteArray → Int → Int → List Int → Option (Int × List Int × Int)
 | 0, _, _, _, _, _ => none
 | k + 1, x0, x4, x6, x275000, x275001 => if x6 < (x4.length : Int) then (if 0 ≤ x6 then (if ((rdOf ByteArray.empty x4 x6).size : Int) = 2 then (if 0 < ((rdOf ByteArray.empty x4 x6).size : Int) then (if 1 < ((rdOf ByteArray.empty x4 x6).size : Int) then ((spec_l01In.f (wrap64 ((wrap64 (bt (rdOf ByteArray.empty x4 x6) 0)) - 97)) 0 (wrap64 (x275000 - 1))).bind fun t279 => (if t279 = true then ((spec_l01In.f (wrap64 ((wrap64 (bt (rdOf ByteArray.empty x4 x6) 1)) - 97)) 0 (wrap64 (x275000 - 1))).bind fun t280 => (if t280 = true then ((spec_l02Join.f x275000 x275001 (wrap64 ((wrap64 (bt (rdOf ByteArray.empty x4 x6) 0)) - 97)) (wrap64 ((wrap64 (bt (rdOf ByteArray.empty x4 x6) 1)) - 97))).bind fun t281 => (spec_ParseAlphabet.l0 k x0 x4 (wrap64 (x6 + 1)) x275000 t281)) else (some (0, ([] : List Int), 6)))) else (some (0, ([] : List Int), 6)))) else (none)) else (none)) else (some (0, ([] : List Int), 6))) else (none)) else ((spec_l02Text.f k x275000 x275001).bind fun t275 => (if t275.toList = x0.toList then (some (x275000, x275001, 0)) else (some (0, ([] : List Int), 6))))
end
def spec_ParseAlphabet.f (k : Nat) (a0 : ByteArray) : Option (Int × List Int × Int) := (spec_l01Split.f k a0 32).bind fun t262 => (if 0 < (t262.length : Int) then (if ((rdOf ByteArray.empty t262 0).size : Int) = 2 then (if 1 < ((rdOf ByteArray.empty t262 0).size : Int) then (if (bt (rdOf ByteArray.empty t262 0) 1) = 58 then (if 0 < ((rdOf ByteArray.empty t262 0).size : Int) then ((spec_l01In.f (wrap64 (bt (rdOf ByteArray.empty t262 0) 0)) 48 56).bind fun t268 => (spec_ParseAlphabet.j0 k a0 t262 (!t268))) else (none)) else (spec_ParseAlphabet.j0 k a0 t262 true)) else (none)) else (spec_ParseAlphabet.j0 k a0 t262 true)) else (none))
set_option maxHeartbeats 8000000 in
set_option maxRecDepth 100000 in
theorem spec_ParseAlphabet.calls (k : Nat) (a0 : ByteArray) (r1 : Int) (r2 : List Int) (r3 : Int) (w : World) (h : spec_ParseAlphabet.f k a0 = some (r1, r2, r3)) :
  Calls Tryd.prog 11 #[.string a0] w fun e w' => ∃ v1_ : Value, e = .returned (.tuple #[.agg #[.int .i64 r1, v1_], .int .i64 r3]) ∧ Kd.R (Kd.int .i64) 2 w' w.heap.size (fun _ => True) v1_ r2 ∧ Below w.heap.size w w' := by
 have hu28 := Tryd.underlying28; have HB := Aside0.mk (Below.refl w.heap.size w)
 have H : ((spec_l01Split.f k a0 32).bind fun t262 => (if 0 < (t262.length : Int) then (if ((rdOf ByteArray.empty t262 0).size : Int) = 2 then (if 1 < ((rdOf ByteArray.empty t262 0).size : Int) then (if (bt (rdOf ByteArray.empty t262 0) 1) = 58 then (if 0 < ((rdOf ByteArray.empty t262 0).size : Int) then ((spec_l01In.f (wrap64 (bt (rdOf ByteArray.empty t262 0) 0)) 48 56).bind fun t268 => (spec_ParseAlphabet.j0 k a0 t262 (!t268))) else (none)) else (spec_ParseAlphabet.j0 k a0 t262 true)) else (none)) else (spec_ParseAlphabet.j0 k a0 t262 true)) else (none))) = some (r1, r2, r3) := h
 clear h; replace H := Option.bind_eq_some_iff.mp H; obtain ⟨t262, A20, H⟩ := H
 replace H : (if 0 < (t262.length : Int) then (if ((rdOf ByteArray.empty t262 0).size : Int) = 2 then (if 1 < ((rdOf ByteArray.empty t262 0).size : Int) then (if (bt (rdOf ByteArray.empty t262 0) 1) = 58 then (if 0 < ((rdOf ByteArray.empty t262 0).size : Int) then ((spec_l01In.f (wrap64 (bt (rdOf ByteArray.empty t262 0) 0)) 48 56).bind fun t268 => (spec_ParseAlphabet.j0 k a0 t262 (!t268))) else (none)) else (spec_ParseAlphabet.j0 k a0 t262 true)) else (none)) else (spec_ParseAlphabet.j0 k a0 t262 true)) else (none)) = some (r1, r2, r3) := H
 have A2 := Aside0.mk A20; clear A20; have HC3 := Aside0.mk H; clear H
 go_enter Tryd.func11, Tryd.ntmps11
 go_upto_region 2 with (first | ((with_reducible refine gate_dst (N := 2) rfl ?_); refine box_event ?hg (N := 2) ?hd (cs := #[.int .i64 0, .slice none 0 0]) (t := 28) ?hr ?_; (case hd => rfl); (case hg => rfl); (case hr => first | (go_simp; done) | (go_simp; rfl)); intro gb261 hg w4 hbox hb; have BK261 := Aside0.mk (hbox); have GW261 := Aside0.mk ((by rw [hg]; exact (below_size (beQ HB)) : w.heap.size ≤ gb261)); have GE261 := Aside0.mk ((by rw [hg]; exact (below_size (beQ HB)) : w.heap.size ≤ gb261)); replace HB := Aside0.mk (below_step (beQ HB) hb); clear hb hbox hg) | (go_at_call 26; (with_reducible refine (spec_l01Split.calls k a0 32 t262 _ A2.out).mono ?_); rintro e w5 ⟨v263, rfl, ho0, hb⟩; have HO264 := Aside0.mk (Kd.R_lower ho0 (below_size (beQ HB))); replace BK261 := bb BK261 hb; replace HB := Aside0.mk (below_step (beQ HB) hb); (try clear hb); (try clear hb2); (try clear hk); (try clear hi); (try clear hgw_); (try clear ho0)))
 repeat (go_quiet (first | ((with_reducible refine gate_dst (N := 2) rfl ?_); refine box_event ?hg (N := 2) ?hd (cs := #[.int .i64 0, .slice none 0 0]) (t := 28) ?hr ?_; (case hd => rfl); (case hg => rfl); (case hr => first | (go_simp; done) | (go_simp; rfl)); intro gb261 hg w4 hbox hb; have BK261 := Aside0.mk (hbox); have GW261 := Aside0.mk ((by rw [hg]; exact (below_size (beQ HB)) : w.heap.size ≤ gb261)); have GE261 := Aside0.mk ((by rw [hg]; exact (below_size (beQ HB)) : w.heap.size ≤ gb261)); replace HB := Aside0.mk (below_step (beQ HB) hb); clear hb hbox hg) | (go_at_call 26; (with_reducible refine (spec_l01Split.calls k a0 32 t262 _ A2.out).mono ?_); rintro e w5 ⟨v263, rfl, ho0, hb⟩; have HO264 := Aside0.mk (Kd.R_lower ho0 (below_size (beQ HB))); replace BK261 := bb BK261 hb; replace HB := Aside0.mk (below_step (beQ HB) hb); (try clear hb); (try clear hb2); (try clear hk); (try clear hi); (try clear hgw_); (try clear ho0))); go_upto_region 2 with (first | ((with_reducible refine gate_dst (N := 2) rfl ?_); refine box_event ?hg (N := 2) ?hd (cs := #[.int .i64 0, .slice none 0 0]) (t := 28) ?hr ?_; (case hd => rfl); (case hg => rfl); (case hr => first | (go_simp; done) | (go_simp; rfl)); intro gb261 hg w4 hbox hb; have BK261 := Aside0.mk (hbox); have GW261 := Aside0.mk ((by rw [hg]; exact (below_size (beQ HB)) : w.heap.size ≤ gb261)); have GE261 := Aside0.mk ((by rw [hg]; exact (below_size (beQ HB)) : w.heap.size ≤ gb261)); replace HB := Aside0.mk (below_step (beQ HB) hb); clear hb hbox hg) | (go_at_call 26; (with_reducible refine (spec_l01Split.calls k a0 32 t262 _ A2.out).mono ?_); rintro e w5 ⟨v263, rfl, ho0, hb⟩; have HO264 := Aside0.mk (Kd.R_lower ho0 (below_size (beQ HB))); replace BK261 := bb BK261 hb; replace HB := Aside0.mk (below_step (beQ HB) hb); (try clear hb); (try clear hb2); (try clear hk); (try clear hi); (try clear hgw_); (try clear ho0))))
 (try simp only [Act.put, List.setIfInBounds_toArray, List.set_cons_zero, List.set_cons_succ])
 go_cut [31] (fun v31 wc => ∃ (kq : Nat) (x31_2 : Bool), v31 = .bool x31_2 ∧ Aside0 (spec_ParseAlphabet.j0 kq a0 t262 x31_2 = some (r1, r2, r3)) ∧ Aside0 (kq ≤ k) ∧ Aside0 (Kd.R Kd.string 9 wc w.heap.size (fun _ => True) v263 t262) ∧ Aside0 (wc.heap[gb261]? = some (.cells #[.int .i64 0, (.slice none 0 0)] 28 (0, 0))) ∧ Aside0 (Below w.heap.size w wc))
 case first =>
  have H := HC3.out; clear HC3
  by_cases c6 : 0 < (t262.length : Int)
  ·rw [if_pos c6] at H
   have c6b0 : decide (0 < (t262.length : Int)) = true := decide_eq_true c6
   have c6b1 : decide (0 < t262.length) = true := decide_eq_true (by omega)
   clear c6
   (first | rw [c6b0] | (simp only [i64_w, i32_w]; rw [c6b0]) | skip)
   by_cases c7 : ((rdOf ByteArray.empty t262 0).size : Int) = 2
   ·rw [if_pos c7] at H
    have c7b0 : (((rdOf ByteArray.empty t262 0).size : Int) == 2) = true := beq_iff_eq.mpr c7
    have c7b1 : (((rdOf ByteArray.empty t262 0).size : Int) != 2) = false := bne_eq_false_iff_eq.mpr c7
    clear c7
    by_cases c8 : 1 < ((rdOf ByteArray.empty t262 0).size : Int)
    ·rw [if_pos c8] at H
     have c8b0 : decide (1 < ((rdOf ByteArray.empty t262 0).size : Int)) = true := decide_eq_true c8
     have c8b1 : decide (1 < (rdOf ByteArray.empty t262 0).size) = true := decide_eq_true (by omega)
     clear c8
     by_cases c10 : (bt (rdOf ByteArray.empty t262 0) 1) = 58
     ·rw [if_pos c10] at H
      have c10b0 : ((bt (rdOf ByteArray.empty t262 0) 1) == 58) = true := beq_iff_eq.mpr c10
      have c10b1 : ((bt (rdOf ByteArray.empty t262 0) 1) != 58) = false := bne_eq_false_iff_eq.mpr c10
      clear c10
      by_cases c11 : 0 < ((rdOf ByteArray.empty t262 0).size : Int)
      ·rw [if_pos c11] at H
       have c11b0 : decide (0 < ((rdOf ByteArray.empty t262 0).size : Int)) = true := decide_eq_true c11
       have c11b1 : decide (0 < (rdOf ByteArray.empty t262 0).size) = true := decide_eq_true (by omega)
       clear c11; replace H := Option.bind_eq_some_iff.mp H; obtain ⟨t268, A130, H⟩ := H
       replace H : (spec_ParseAlphabet.j0 k a0 t262 (!t268)) = some (r1, r2, r3) := H
       have A13 := Aside0.mk A130; clear A130
       have H' := Aside0.mk H
       clear H; obtain ⟨Ao14, co14, eo14⟩ := Kd.R_slice HO264.out; subst eo14
       have p265 : 0 ≤ (0 : Int) := (by omega)
       have q265 : 0 < (t262.length : Int) := of_decide_eq_true (by first | (with_reducible assumption) | assumption)
       obtain ⟨ad265, e265, hx265_0⟩ := Kd.at_string (Kd.R_reads' HO264.out).2.2 0 p265 q265; cases e265
       have qi265 : (0 < t262.length) = True := eq_true (by omega)
       (try rw [show ((0 : Int)).toNat = 0 from rfl] at hx265_0)
       (try rw [Addr.add_zero'] at hx265_0)
       replace p265 := eq_true p265; replace q265 := eq_true q265
       have p266 : 0 ≤ (0 : Int) := (by omega)
       have q266 : 0 < (t262.length : Int) := of_decide_eq_true (by first | (with_reducible assumption) | assumption)
       obtain ⟨ad266, e266, hx266_0⟩ := Kd.at_string (Kd.R_reads' HO264.out).2.2 0 p266 q266
       obtain rfl : ad265 = ad266 := (by injection e266)
       have qi266 : (0 < t262.length) = True := eq_true (by omega)
       (try rw [show ((0 : Int)).toNat = 0 from rfl] at hx266_0)
       (try rw [Addr.add_zero'] at hx266_0)
       replace p266 := eq_true p266; replace q266 := eq_true q266
       have p9 : 0 ≤ (1 : Int) := (by omega)
       have q9 : 1 < (rdOf ByteArray.empty t262 0).size := (by have : (1 : Int) < ((rdOf ByteArray.empty t262 0).size : Int) := of_decide_eq_true (by first | (with_reducible assumption) | assumption); omega)
       have hx9 : ∀ h : 1 < (rdOf ByteArray.empty t262 0).size, (((rdOf ByteArray.empty t262 0)[1]'h).toNat : Int) = bt (rdOf ByteArray.empty t262 0) 1 := bt_at (rdOf ByteArray.empty t262 0) 1
       clear p9
       have qi9 : (1 < ((rdOf ByteArray.empty t262 0).size : Int)) = True := eq_true (of_decide_eq_true (by first | (with_reducible assumption) | assumption))
       replace q9 := eq_true q9
       have p267 : 0 ≤ (0 : Int) := (by omega)
       have q267 : 0 < (t262.length : Int) := of_decide_eq_true (by first | (with_reducible assumption) | assumption)
       obtain ⟨ad267, e267, hx267_0⟩ := Kd.at_string (Kd.R_reads' HO264.out).2.2 0 p267 q267
       obtain rfl : ad265 = ad267 := (by injection e267)
       have qi267 : (0 < t262.length) = True := eq_true (by omega)
       (try rw [show ((0 : Int)).toNat = 0 from rfl] at hx267_0)
       (try rw [Addr.add_zero'] at hx267_0)
       replace p267 := eq_true p267; replace q267 := eq_true q267
       have p12 : 0 ≤ (0 : Int) := (by omega)
       have q12 : 0 < (rdOf ByteArray.empty t262 0).size := (by have : (0 : Int) < ((rdOf ByteArray.empty t262 0).size : Int) := of_decide_eq_true (by first | (with_reducible assumption) | assumption); omega)
       have hx12 : ∀ h : 0 < (rdOf ByteArray.empty t262 0).size, (((rdOf ByteArray.empty t262 0)[0]'h).toNat : Int) = bt (rdOf ByteArray.empty t262 0) 0 := bt_at (rdOf ByteArray.empty t262 0) 0
       clear p12
       have qi12 : (0 < ((rdOf ByteArray.empty t262 0).size : Int)) = True := eq_true (of_decide_eq_true (by first | (with_reducible assumption) | assumption))
       replace q12 := eq_true q12
       go_wp2_with (first | (go_at_call 27; (with_reducible refine (spec_l01In.calls (wrap64 (bt (rdOf ByteArray.empty t262 0) 0)) 48 56 t268 _ A13.out).mono ?_); rintro e w' ⟨rfl, ⟨nd, rfl⟩⟩; (try exact zQ04bx1)))
       repeat (go_quiet (first | (go_at_call 27; (with_reducible refine (spec_l01In.calls (wrap64 (bt (rdOf ByteArray.empty t262 0) 0)) 48 56 t268 _ A13.out).mono ?_); rintro e w' ⟨rfl, ⟨nd, rfl⟩⟩; (try exact zQ04bx1))); try go_wp2_with (first | (go_at_call 27; (with_reducible refine (spec_l01In.calls (wrap64 (bt (rdOf ByteArray.empty t262 0) 0)) 48 56 t268 _ A13.out).mono ?_); rintro e w' ⟨rfl, ⟨nd, rfl⟩⟩; (try exact zQ04bx1))))
       go_meet
       case rel => exact ⟨_, (!t268), sz, H', ⟨by first | omega | exact Nat.le_refl _⟩, ⟨kdQ HO264⟩, ⟨blkQ BK261⟩, ⟨beQ HB⟩⟩
      ·rw [if_neg c11] at H
       exact absurd H (by simp)
     ·rw [if_neg c10] at H
      have c10b0 : ((bt (rdOf ByteArray.empty t262 0) 1) == 58) = false := beq_eq_false_iff_ne.mpr c10
      have c10b1 : ((bt (rdOf ByteArray.empty t262 0) 1) != 58) = true := bne_iff_ne.mpr c10
      have H' := Aside0.mk H
      clear H; obtain ⟨Ao15, co15, eo15⟩ := Kd.R_slice HO264.out; subst eo15
      have p265 : 0 ≤ (0 : Int) := (by omega)
      have q265 : 0 < (t262.length : Int) := of_decide_eq_true (by first | (with_reducible assumption) | assumption)
      obtain ⟨ad265, e265, hx265_0⟩ := Kd.at_string (Kd.R_reads' HO264.out).2.2 0 p265 q265; cases e265
      have qi265 : (0 < t262.length) = True := eq_true (by omega)
      (try rw [show ((0 : Int)).toNat = 0 from rfl] at hx265_0)
      (try rw [Addr.add_zero'] at hx265_0)
      replace p265 := eq_true p265; replace q265 := eq_true q265
      have p266 : 0 ≤ (0 : Int) := (by omega)
      have q266 : 0 < (t262.length : Int) := of_decide_eq_true (by first | (with_reducible assumption) | assumption)
      obtain ⟨ad266, e266, hx266_0⟩ := Kd.at_string (Kd.R_reads' HO264.out).2.2 0 p266 q266
      obtain rfl : ad265 = ad266 := (by injection e266)
      have qi266 : (0 < t262.length) = True := eq_true (by omega)
      (try rw [show ((0 : Int)).toNat = 0 from rfl] at hx266_0)
      (try rw [Addr.add_zero'] at hx266_0)
      replace p266 := eq_true p266; replace q266 := eq_true q266
      have p9 : 0 ≤ (1 : Int) := (by omega)
      have q9 : 1 < (rdOf ByteArray.empty t262 0).size := (by have : (1 : Int) < ((rdOf ByteArray.empty t262 0).size : Int) := of_decide_eq_true (by first | (with_reducible assumption) | assumption); omega)
      have hx9 : ∀ h : 1 < (rdOf ByteArray.empty t262 0).size, (((rdOf ByteArray.empty t262 0)[1]'h).toNat : Int) = bt (rdOf ByteArray.empty t262 0) 1 := bt_at (rdOf ByteArray.empty t262 0) 1
      clear p9
      have qi9 : (1 < ((rdOf ByteArray.empty t262 0).size : Int)) = True := eq_true (of_decide_eq_true (by first | (with_reducible assumption) | assumption))
      replace q9 := eq_true q9
      go_wp2
      repeat (go_quiet (fail); try go_wp2)
      go_meet
      case rel => exact ⟨_, (true), sz, H', ⟨by first | omega | exact Nat.le_refl _⟩, ⟨kdQ HO264⟩, ⟨blkQ BK261⟩, ⟨beQ HB⟩⟩
    ·rw [if_neg c8] at H
     exact absurd H (by simp)
   ·rw [if_neg c7] at H
    have c7b0 : (((rdOf ByteArray.empty t262 0).size : Int) == 2) = false := beq_eq_false_iff_ne.mpr c7
    have c7b1 : (((rdOf ByteArray.empty t262 0).size : Int) != 2) = true := bne_iff_ne.mpr c7
    have H' := Aside0.mk H
    clear H; obtain ⟨Ao16, co16, eo16⟩ := Kd.R_slice HO264.out; subst eo16
    have p265 : 0 ≤ (0 : Int) := (by omega)
    have q265 : 0 < (t262.length : Int) := of_decide_eq_true (by first | (with_reducible assumption) | assumption)
    obtain ⟨ad265, e265, hx265_0⟩ := Kd.at_string (Kd.R_reads' HO264.out).2.2 0 p265 q265; cases e265
    have qi265 : (0 < t262.length) = True := eq_true (by omega)
    (try rw [show ((0 : Int)).toNat = 0 from rfl] at hx265_0)
    (try rw [Addr.add_zero'] at hx265_0)
    replace p265 := eq_true p265; replace q265 := eq_true q265
    go_wp2
    repeat (go_quiet (fail); try go_wp2)
    go_meet
    case rel => exact ⟨_, (true), sz, H', ⟨by first | omega | exact Nat.le_refl _⟩, ⟨kdQ HO264⟩, ⟨blkQ BK261⟩, ⟨beQ HB⟩⟩
  ·rw [if_neg c6] at H
   exact absurd H (by simp)
 case rest =>
  clear HC3
  try clear c1
  try clear p1
  try clear q1
  try clear hx1
  try clear qi1
  try clear p2
  try clear q2
  try clear hx2
  try clear qi2
  try clear c6
  try clear c6b0
  try clear c6b1
  try clear p6
  try clear c7
  try clear c7b0
  try clear c7b1
  try clear c8
  try clear c8b0
  try clear c8b1
  try clear p9
  try clear q9
  try clear hx9
  try clear qi9
  try clear c10
  try clear c10b0
  try clear c10b1
  try clear c11
  try clear c11b0
  try clear c11b1
  try clear p12
  try clear q12
  try clear hx12
  try clear qi12
  try clear hx265_0
  try clear hx266_0
  try clear hx267_0
  try clear p12
  try clear p265
  try clear p266
  try clear p267
  try clear p9
  try clear q12
  try clear q265
  try clear q266
  try clear q267
  try clear q9
  obtain ⟨kq, x31_2, rfl, HA, HJ2, HO_4, BK261, HB⟩ := hcut
  cases kq with
  | zero => exact absurd HA.out (by simp [spec_ParseAlphabet.j0])
  | succ kj2 =>
   have H := HA.out; clear HA
   simp only [spec_ParseAlphabet.j0] at H
   by_cases c17 : x31_2 = true
   ·subst c17
    have H1 : (some (0, ([] : List Int), 6)) = some (r1, r2, r3) := by rw [if_pos rfl] at H; exact H
    clear H; have H := H1; clear H1
    simp only [Option.some.injEq, Prod.mk.injEq] at H
    obtain ⟨rfl, rfl, rfl⟩ := H
    have hcz18_0 : wc.cell? ⟨gb261, 0, none⟩ = some (.int .i64 0) := bc BK261 0
    have hcz18_1 : wc.cell? ⟨gb261, 1, none⟩ = some (.slice none 0 0) := bc BK261 1
    have hfz18_0 := blk_frozen BK261.out 0; have hfz18_1 := blk_frozen BK261.out 1
    go_wp2
    repeat (go_quiet (fail); try go_wp2)
    refine bodyPost_ret (results_ct rfl _ _ gb261 28 #[.int .i64 0, .slice none 0 0] (0, 0) _ rfl (by (with_reducible repeat (first | refine blk_drewN ?_ _ | refine blk_drew ?_ | refine blk_alloc ?_ _)); refine blk_put (cs := #[.int .i64 0, .slice none 0 0]) ?_ 1 _ rfl; (with_reducible repeat (first | refine blk_drewN ?_ _ | refine blk_drew ?_ | refine blk_alloc ?_ _)); refine blk_put (cs := #[.int .i64 0, .slice none 0 0]) ?_ 0 _ rfl; (with_reducible repeat (first | refine blk_drewN ?_ _ | refine blk_drew ?_ | refine blk_alloc ?_ _)); exact BK261.out) Tryd.underlying28 rfl (by kernel_rfl)) rfl ?_
    exact ⟨_, rz, by first | exact Kd.R_nil _ _ _ _ _ | exact Kd.N_nil _ _ _ _ _ | exact Kd.V_nil _ _ _ _ _ | exact Kd.Q_nil _ _ _ _ _ | exact Kd.S_nil _ _ _ _ _, beQ HB⟩
   ·replace c17 := Bool.eq_false_iff.mpr c17
    subst c17
    have H1 : (if 0 < (t262.length : Int) then (if 0 < ((rdOf ByteArray.empty t262 0).size : Int) then ((spec_l02Free.f kj2 (((bt (rdOf ByteArray.empty t262 0) 0) - 48) % 256)).bind fun bt270 => (spec_ParseAlphabet.l0 kj2 a0 t262 1 bt270.1 bt270.2)) else (none)) else (none)) = some (r1, r2, r3) := by rw [if_neg (show ¬ (false = true) by decide)] at H; exact H
    clear H; have H := H1; clear H1
    by_cases c19 : 0 < (t262.length : Int)
    ·rw [if_pos c19] at H
     have c19b0 : decide (0 < (t262.length : Int)) = true := decide_eq_true c19
     have c19b1 : decide (0 < t262.length) = true := decide_eq_true (by omega)
     clear c19
     by_cases c20 : 0 < ((rdOf ByteArray.empty t262 0).size : Int)
     ·rw [if_pos c20] at H
      have c20b0 : decide (0 < ((rdOf ByteArray.empty t262 0).size : Int)) = true := decide_eq_true c20
      have c20b1 : decide (0 < (rdOf ByteArray.empty t262 0).size) = true := decide_eq_true (by omega)
      clear c20; replace H := Option.bind_eq_some_iff.mp H
      obtain ⟨⟨t270, t271⟩, A220, H⟩ := H
      replace H : (spec_ParseAlphabet.l0 kj2 a0 t262 1 t270 t271) = some (r1, r2, r3) := H
      have A22 := Aside0.mk A220; clear A220
      have H' := Aside0.mk H
      clear H; obtain ⟨Ao23, co23, eo23⟩ := Kd.R_slice HO_4.out; subst eo23
      have p269 : 0 ≤ (0 : Int) := (by omega)
      have q269 : 0 < (t262.length : Int) := of_decide_eq_true (by first | (with_reducible assumption) | assumption)
      obtain ⟨ad269, e269, hx269_0⟩ := Kd.at_string (Kd.R_reads' HO_4.out).2.2 0 p269 q269; cases e269
      have qi269 : (0 < t262.length) = True := eq_true (by omega)
      (try rw [show ((0 : Int)).toNat = 0 from rfl] at hx269_0)
      (try rw [Addr.add_zero'] at hx269_0)
      replace p269 := eq_true p269; replace q269 := eq_true q269
      have p21 : 0 ≤ (0 : Int) := (by omega)
      have q21 : 0 < (rdOf ByteArray.empty t262 0).size := (by have : (0 : Int) < ((rdOf ByteArray.empty t262 0).size : Int) := of_decide_eq_true (by first | (with_reducible assumption) | assumption); omega)
      have hx21 : ∀ h : 0 < (rdOf ByteArray.empty t262 0).size, (((rdOf ByteArray.empty t262 0)[0]'h).toNat : Int) = bt (rdOf ByteArray.empty t262 0) 0 := bt_at (rdOf ByteArray.empty t262 0) 0
      clear p21
      have qi21 : (0 < ((rdOf ByteArray.empty t262 0).size : Int)) = True := eq_true (of_decide_eq_true (by first | (with_reducible assumption) | assumption))
      replace q21 := eq_true q21
      go_wp2_with (first | (go_at_call 28; (with_reducible refine (spec_l02Free.calls kj2 (((bt (rdOf ByteArray.empty t262 0) 0) - 48) % 256) t270 t271 _ A22.out).mono ?_); rintro e w24 ⟨v272, rfl, ho0, hb⟩; replace HO_4 := kb HO_4 hb; have HO273 := Aside0.mk (Kd.R_lower ho0 (below_size (beQ HB))); replace BK261 := bb BK261 hb; replace HB := Aside0.mk (below_step (beQ HB) hb); (try clear hb); (try clear hb2); (try clear hk); (try clear hi); (try clear hgw_); (try clear ho0)) | ((with_reducible refine gate_dst (N := 5) rfl ?_); refine box_event ?hg (N := 5) ?hd (cs := #[.int .i64 0, .slice none 0 0]) (t := 28) ?hr ?_; (case hd => rfl); (case hg => rfl); (case hr => first | (go_simp; done) | (go_simp; rfl)); intro gb274 hg w25 hbox hb; replace HO_4 := kb HO_4 hb; replace HO273 := kb HO273 hb; have BK274 := Aside0.mk (hbox); have GW274 := Aside0.mk ((by rw [hg]; exact (below_size (beQ HB)) : w.heap.size ≤ gb274)); have GE274 := Aside0.mk ((by rw [hg]; exact (below_size (beQ HB)) : w.heap.size ≤ gb274)); replace HB := Aside0.mk (below_step (beQ HB) hb); have NB261_274 := Aside0.mk ((by rw [hg]; exact Nat.ne_of_lt (blk_lt (blkQ BK261)) : gb261 ≠ gb274)); have NB274_261 := Aside0.mk ((by rw [hg]; exact Nat.ne_of_gt (blk_lt (blkQ BK261)) : gb274 ≠ gb261)); replace BK261 := bb BK261 hb; clear hb hbox hg; have hnb26 := NB274_261.out; have hnc26 := NB261_274.out; have hcz27_0 : w25.cell? ⟨gb274, 0, none⟩ = some (.int .i64 0) := bc BK274 0; have hcz27_1 : w25.cell? ⟨gb274, 1, none⟩ = some (.slice none 0 0) := bc BK274 1; have hfz27_0 := blk_frozen BK274.out 0; have hfz27_1 := blk_frozen BK274.out 1; obtain ⟨Ao28, co28, eo28⟩ := Kd.R_slice HO273.out; subst eo28))
      repeat (go_quiet (first | (go_at_call 28; (with_reducible refine (spec_l02Free.calls kj2 (((bt (rdOf ByteArray.empty t262 0) 0) - 48) % 256) t270 t271 _ A22.out).mono ?_); rintro e w24 ⟨v272, rfl, ho0, hb⟩; replace HO_4 := kb HO_4 hb; have HO273 := Aside0.mk (Kd.R_lower ho0 (below_size (beQ HB))); replace BK261 := bb BK261 hb; replace HB := Aside0.mk (below_step (beQ HB) hb); (try clear hb); (try clear hb2); (try clear hk); (try clear hi); (try clear hgw_); (try clear ho0)) | ((with_reducible refine gate_dst (N := 5) rfl ?_); refine box_event ?hg (N := 5) ?hd (cs := #[.int .i64 0, .slice none 0 0]) (t := 28) ?hr ?_; (case hd => rfl); (case hg => rfl); (case hr => first | (go_simp; done) | (go_simp; rfl)); intro gb274 hg w25 hbox hb; replace HO_4 := kb HO_4 hb; replace HO273 := kb HO273 hb; have BK274 := Aside0.mk (hbox); have GW274 := Aside0.mk ((by rw [hg]; exact (below_size (beQ HB)) : w.heap.size ≤ gb274)); have GE274 := Aside0.mk ((by rw [hg]; exact (below_size (beQ HB)) : w.heap.size ≤ gb274)); replace HB := Aside0.mk (below_step (beQ HB) hb); have NB261_274 := Aside0.mk ((by rw [hg]; exact Nat.ne_of_lt (blk_lt (blkQ BK261)) : gb261 ≠ gb274)); have NB274_261 := Aside0.mk ((by rw [hg]; exact Nat.ne_of_gt (blk_lt (blkQ BK261)) : gb274 ≠ gb261)); replace BK261 := bb BK261 hb; clear hb hbox hg; have hnb26 := NB274_261.out; have hnc26 := NB261_274.out; have hcz27_0 : w25.cell? ⟨gb274, 0, none⟩ = some (.int .i64 0) := bc BK274 0; have hcz27_1 : w25.cell? ⟨gb274, 1, none⟩ = some (.slice none 0 0) := bc BK274 1; have hfz27_0 := blk_frozen BK274.out 0; have hfz27_1 := blk_frozen BK274.out 1; obtain ⟨Ao28, co28, eo28⟩ := Kd.R_slice HO273.out; subst eo28)); try go_wp2_with (first | (go_at_call 28; (with_reducible refine (spec_l02Free.calls kj2 (((bt (rdOf ByteArray.empty t262 0) 0) - 48) % 256) t270 t271 _ A22.out).mono ?_); rintro e w24 ⟨v272, rfl, ho0, hb⟩; replace HO_4 := kb HO_4 hb; have HO273 := Aside0.mk (Kd.R_lower ho0 (below_size (beQ HB))); replace BK261 := bb BK261 hb; replace HB := Aside0.mk (below_step (beQ HB) hb); (try clear hb); (try clear hb2); (try clear hk); (try clear hi); (try clear hgw_); (try clear ho0)) | ((with_reducible refine gate_dst (N := 5) rfl ?_); refine box_event ?hg (N := 5) ?hd (cs := #[.int .i64 0, .slice none 0 0]) (t := 28) ?hr ?_; (case hd => rfl); (case hg => rfl); (case hr => first | (go_simp; done) | (go_simp; rfl)); intro gb274 hg w25 hbox hb; replace HO_4 := kb HO_4 hb; replace HO273 := kb HO273 hb; have BK274 := Aside0.mk (hbox); have GW274 := Aside0.mk ((by rw [hg]; exact (below_size (beQ HB)) : w.heap.size ≤ gb274)); have GE274 := Aside0.mk ((by rw [hg]; exact (below_size (beQ HB)) : w.heap.size ≤ gb274)); replace HB := Aside0.mk (below_step (beQ HB) hb); have NB261_274 := Aside0.mk ((by rw [hg]; exact Nat.ne_of_lt (blk_lt (blkQ BK261)) : gb261 ≠ gb274)); have NB274_261 := Aside0.mk ((by rw [hg]; exact Nat.ne_of_gt (blk_lt (blkQ BK261)) : gb274 ≠ gb261)); replace BK261 := bb BK261 hb; clear hb hbox hg; have hnb26 := NB274_261.out; have hnc26 := NB261_274.out; have hcz27_0 : w25.cell? ⟨gb274, 0, none⟩ = some (.int .i64 0) := bc BK274 0; have hcz27_1 : w25.cell? ⟨gb274, 1, none⟩ = some (.slice none 0 0) := bc BK274 1; have hfz27_0 := blk_frozen BK274.out 0; have hfz27_1 := blk_frozen BK274.out 1; obtain ⟨Ao28, co28, eo28⟩ := Kd.R_slice HO273.out; subst eo28)))
      go_loopg [6] kj2 (fun kq v6 w' => ∃ (x6_2 : Int) (x262000_2 : Int) (x275001_2 : List Int) (u275001 : Value), v6 = .int .i64 x6_2 ∧ Aside0 (spec_ParseAlphabet.l0 kq a0 t262 x6_2 t270 x275001_2 = some (r1, r2, r3)) ∧ Aside0 (kq ≤ kj2) ∧ Aside0 (Kd.R Kd.string 9 w' w.heap.size (fun _ => True) (.slice (some ad269) t262.length co23) t262) ∧ Aside0 (Kd.R (Kd.int .i64) 2 w' w.heap.size (fun _ => True) u275001 x275001_2) ∧ Aside0 (w'.heap[gb261]? = some (.cells #[.int .i64 x262000_2, (.slice none 0 0)] 28 (0, 0))) ∧ Aside0 (w'.heap[gb274]? = some (.cells #[.int .i64 t270, u275001] 28 (0, 0))) ∧ Aside0 (Below w.heap.size w w'))
      case atStart => exact ⟨(1), (0), (t271), (.slice Ao28 t271.length co28), sz, H', ⟨Nat.le_refl _⟩, ⟨by (with_reducible repeat (first | apply Kd.R_alloc | apply Kd.R_drewN | apply Kd.R_drew)); exact Kd.R_mono (Kd.R_far (p := ⟨gb274, 1, none⟩) (Kd.R_far (p := ⟨gb274, 0, none⟩) (Kd.R_types HO_4.out BK274.out (by decide)) (fun _ hk => hk.2) (.int .i64 t270)) (fun _ hk => hk.2) (.slice Ao28 t271.length co28)) (fun _ hk => trivial)⟩, ⟨by (with_reducible repeat (first | apply Kd.R_alloc | apply Kd.R_drewN | apply Kd.R_drew)); exact Kd.R_mono (Kd.R_far (p := ⟨gb274, 1, none⟩) (Kd.R_far (p := ⟨gb274, 0, none⟩) (Kd.R_types HO273.out BK274.out (by decide)) (fun _ hk => hk.2) (.int .i64 t270)) (fun _ hk => hk.2) (.slice Ao28 t271.length co28)) (fun _ hk => trivial)⟩, ⟨blkF BK261⟩, ⟨by (with_reducible repeat (first | refine blk_drewN ?_ _ | refine blk_drew ?_ | refine blk_alloc ?_ _)); refine blk_put (cs := #[.int .i64 t270, .slice none 0 0]) ?_ 1 _ rfl; (with_reducible repeat (first | refine blk_drewN ?_ _ | refine blk_drew ?_ | refine blk_alloc ?_ _)); refine blk_put (cs := #[.int .i64 0, .slice none 0 0]) ?_ 0 _ rfl; (with_reducible repeat (first | refine blk_drewN ?_ _ | refine blk_drew ?_ | refine blk_alloc ?_ _)); exact BK274.out⟩, ⟨beQ HB⟩⟩
      case round =>
       clear H'
       try clear c1
       try clear p1
       try clear q1
       try clear hx1
       try clear qi1
       try clear c2
       try clear p2
       try clear q2
       try clear hx2
       try clear qi2
       try clear c6
       try clear c6b0
       try clear c6b1
       try clear p6
       try clear c7
       try clear c7b0
       try clear c7b1
       try clear c8
       try clear c8b0
       try clear c8b1
       try clear p9
       try clear q9
       try clear hx9
       try clear qi9
       try clear c10
       try clear c10b0
       try clear c10b1
       try clear c11
       try clear c11b0
       try clear c11b1
       try clear p12
       try clear q12
       try clear hx12
       try clear qi12
       try clear c17
       try clear c19
       try clear c19b0
       try clear c19b1
       try clear c20
       try clear c20b0
       try clear c20b1
       try clear p21
       try clear q21
       try clear hx21
       try clear qi21
       try clear c26
       try clear p26
       try clear q26
       try clear hx26
       try clear qi26
       try clear hcz18_0
       try clear hcz18_1
       try clear hcz27_0
       try clear hcz27_1
       try clear hfz18_0
       try clear hfz18_1
       try clear hfz27_0
       try clear hfz27_1
       try clear hx265_0
       try clear hx266_0
       try clear hx267_0
       try clear hx269_0
       try clear p1
       try clear p12
       try clear p2
       try clear p21
       try clear p265
       try clear p266
       try clear p267
       try clear p269
       try clear p6
       try clear p9
       try clear q1
       try clear q12
       try clear q2
       try clear q21
       try clear q265
       try clear q266
       try clear q267
       try clear q269
       try clear q9
       obtain ⟨x6_2, x262000_2, x275001_2, u275001, rfl, HA, HK2, HO_4, HO_275001, BK261, BK274, HB⟩ := hrel
       cases gk with
       | zero => exact absurd HA.out (by simp [spec_ParseAlphabet.l0])
       | succ k2 =>
        have H := HA.out; clear HA
        simp only [spec_ParseAlphabet.l0] at H
        by_cases c29 : x6_2 < (t262.length : Int)
        ·rw [if_pos c29] at H
         have c29b0 : decide (x6_2 < (t262.length : Int)) = true := decide_eq_true c29
         clear c29
         by_cases c30 : 0 ≤ x6_2
         ·rw [if_pos c30] at H
          have c30b0 : decide (0 ≤ x6_2) = true := decide_eq_true c30
          clear c30
          by_cases c31 : ((rdOf ByteArray.empty t262 x6_2).size : Int) = 2
          ·rw [if_pos c31] at H
           have c31b0 : (((rdOf ByteArray.empty t262 x6_2).size : Int) == 2) = true := beq_iff_eq.mpr c31
           have c31b1 : (((rdOf ByteArray.empty t262 x6_2).size : Int) != 2) = false := bne_eq_false_iff_eq.mpr c31
           clear c31
           by_cases c32 : 0 < ((rdOf ByteArray.empty t262 x6_2).size : Int)
           ·rw [if_pos c32] at H
            have c32b0 : decide (0 < ((rdOf ByteArray.empty t262 x6_2).size : Int)) = true := decide_eq_true c32
            have c32b1 : decide (0 < (rdOf ByteArray.empty t262 x6_2).size) = true := decide_eq_true (by omega)
            clear c32
            by_cases c34 : 1 < ((rdOf ByteArray.empty t262 x6_2).size : Int)
            ·rw [if_pos c34] at H
             have c34b0 : decide (1 < ((rdOf ByteArray.empty t262 x6_2).size : Int)) = true := decide_eq_true c34
             have c34b1 : decide (1 < (rdOf ByteArray.empty t262 x6_2).size) = true := decide_eq_true (by omega)
             clear c34; replace H := Option.bind_eq_some_iff.mp H; obtain ⟨t279, A360, H⟩ := H
             replace H : (if t279 = true then ((spec_l01In.f (wrap64 ((wrap64 (bt (rdOf ByteArray.empty t262 x6_2) 1)) - 97)) 0 (wrap64 (t270 - 1))).bind fun t280 => (if t280 = true then ((spec_l02Join.f t270 x275001_2 (wrap64 ((wrap64 (bt (rdOf ByteArray.empty t262 x6_2) 0)) - 97)) (wrap64 ((wrap64 (bt (rdOf ByteArray.empty t262 x6_2) 1)) - 97))).bind fun t281 => (spec_ParseAlphabet.l0 k2 a0 t262 (wrap64 (x6_2 + 1)) t270 t281)) else (some (0, ([] : List Int), 6)))) else (some (0, ([] : List Int), 6))) = some (r1, r2, r3) := H
             have A36 := Aside0.mk A360; clear A360
             by_cases c37 : t279 = true
             ·subst c37
              have H1 : ((spec_l01In.f (wrap64 ((wrap64 (bt (rdOf ByteArray.empty t262 x6_2) 1)) - 97)) 0 (wrap64 (t270 - 1))).bind fun t280 => (if t280 = true then ((spec_l02Join.f t270 x275001_2 (wrap64 ((wrap64 (bt (rdOf ByteArray.empty t262 x6_2) 0)) - 97)) (wrap64 ((wrap64 (bt (rdOf ByteArray.empty t262 x6_2) 1)) - 97))).bind fun t281 => (spec_ParseAlphabet.l0 k2 a0 t262 (wrap64 (x6_2 + 1)) t270 t281)) else (some (0, ([] : List Int), 6)))) = some (r1, r2, r3) := by rw [if_pos rfl] at H; exact H
              clear H; have H := H1; clear H1; replace H := Option.bind_eq_some_iff.mp H; obtain ⟨t280, A380, H⟩ := H
              replace H : (if t280 = true then ((spec_l02Join.f t270 x275001_2 (wrap64 ((wrap64 (bt (rdOf ByteArray.empty t262 x6_2) 0)) - 97)) (wrap64 ((wrap64 (bt (rdOf ByteArray.empty t262 x6_2) 1)) - 97))).bind fun t281 => (spec_ParseAlphabet.l0 k2 a0 t262 (wrap64 (x6_2 + 1)) t270 t281)) else (some (0, ([] : List Int), 6))) = some (r1, r2, r3) := H
              have A38 := Aside0.mk A380; clear A380
              by_cases c39 : t280 = true
              ·subst c39
               have H1 : ((spec_l02Join.f t270 x275001_2 (wrap64 ((wrap64 (bt (rdOf ByteArray.empty t262 x6_2) 0)) - 97)) (wrap64 ((wrap64 (bt (rdOf ByteArray.empty t262 x6_2) 1)) - 97))).bind fun t281 => (spec_ParseAlphabet.l0 k2 a0 t262 (wrap64 (x6_2 + 1)) t270 t281)) = some (r1, r2, r3) := by rw [if_pos rfl] at H; exact H
               clear H; have H := H1; clear H1; replace H := Option.bind_eq_some_iff.mp H; obtain ⟨t281, A400, H⟩ := H
               replace H : (spec_ParseAlphabet.l0 k2 a0 t262 (wrap64 (x6_2 + 1)) t270 t281) = some (r1, r2, r3) := H
               have A40 := Aside0.mk A400; clear A400
               have H' := Aside0.mk H
               clear H
               have p276 : 0 ≤ (x6_2 : Int) := of_decide_eq_true (by first | (with_reducible assumption) | assumption)
               have q276 : x6_2 < (t262.length : Int) := of_decide_eq_true (by first | (with_reducible assumption) | assumption)
               obtain ⟨ad276, e276, hx276_0⟩ := Kd.at_string (Kd.R_reads' HO_4.out).2.2 x6_2 p276 q276
               obtain rfl : ad269 = ad276 := (by injection e276)
               replace p276 := eq_true p276; replace q276 := eq_true q276
               have p277 : 0 ≤ (x6_2 : Int) := of_decide_eq_true (by first | (with_reducible assumption) | assumption)
               have q277 : x6_2 < (t262.length : Int) := of_decide_eq_true (by first | (with_reducible assumption) | assumption)
               obtain ⟨ad277, e277, hx277_0⟩ := Kd.at_string (Kd.R_reads' HO_4.out).2.2 x6_2 p277 q277
               obtain rfl : ad269 = ad277 := (by injection e277)
               replace p277 := eq_true p277; replace q277 := eq_true q277
               have p33 : 0 ≤ (0 : Int) := (by omega)
               have q33 : 0 < (rdOf ByteArray.empty t262 x6_2).size := (by have : (0 : Int) < ((rdOf ByteArray.empty t262 x6_2).size : Int) := of_decide_eq_true (by first | (with_reducible assumption) | assumption); omega)
               have hx33 : ∀ h : 0 < (rdOf ByteArray.empty t262 x6_2).size, (((rdOf ByteArray.empty t262 x6_2)[0]'h).toNat : Int) = bt (rdOf ByteArray.empty t262 x6_2) 0 := bt_at (rdOf ByteArray.empty t262 x6_2) 0
               clear p33
               have qi33 : (0 < ((rdOf ByteArray.empty t262 x6_2).size : Int)) = True := eq_true (of_decide_eq_true (by first | (with_reducible assumption) | assumption))
               replace q33 := eq_true q33
               have p278 : 0 ≤ (x6_2 : Int) := of_decide_eq_true (by first | (with_reducible assumption) | assumption)
               have q278 : x6_2 < (t262.length : Int) := of_decide_eq_true (by first | (with_reducible assumption) | assumption)
               obtain ⟨ad278, e278, hx278_0⟩ := Kd.at_string (Kd.R_reads' HO_4.out).2.2 x6_2 p278 q278
               obtain rfl : ad269 = ad278 := (by injection e278)
               replace p278 := eq_true p278; replace q278 := eq_true q278
               have p35 : 0 ≤ (1 : Int) := (by omega)
               have q35 : 1 < (rdOf ByteArray.empty t262 x6_2).size := (by have : (1 : Int) < ((rdOf ByteArray.empty t262 x6_2).size : Int) := of_decide_eq_true (by first | (with_reducible assumption) | assumption); omega)
               have hx35 : ∀ h : 1 < (rdOf ByteArray.empty t262 x6_2).size, (((rdOf ByteArray.empty t262 x6_2)[1]'h).toNat : Int) = bt (rdOf ByteArray.empty t262 x6_2) 1 := bt_at (rdOf ByteArray.empty t262 x6_2) 1
               clear p35
               have qi35 : (1 < ((rdOf ByteArray.empty t262 x6_2).size : Int)) = True := eq_true (of_decide_eq_true (by first | (with_reducible assumption) | assumption))
               replace q35 := eq_true q35; have hnb41 := NB274_261.out; have hnc41 := NB261_274.out
               have hcz42_0 : wr.cell? ⟨gb274, 0, none⟩ = some (.int .i64 t270) := bc BK274 0
               have hcz42_1 : wr.cell? ⟨gb274, 1, none⟩ = some (u275001) := bc BK274 1
               have hfz42_0 := blk_frozen BK274.out 0; have hfz42_1 := blk_frozen BK274.out 1
               go_wp2_with (first | (go_at_call 27; (with_reducible refine (spec_l01In.calls (wrap64 ((wrap64 (bt (rdOf ByteArray.empty t262 x6_2) 0)) - 97)) 0 (wrap64 (t270 - 1)) true _ A36.out).mono ?_); rintro e w' ⟨rfl, ⟨nd, rfl⟩⟩; (try exact zQ04bx1)) | (go_at_call 27; (with_reducible refine (spec_l01In.calls (wrap64 ((wrap64 (bt (rdOf ByteArray.empty t262 x6_2) 1)) - 97)) 0 (wrap64 (t270 - 1)) true _ A38.out).mono ?_); rintro e w' ⟨rfl, ⟨nd, rfl⟩⟩; (try exact zQ04bx1); obtain ⟨Ao43, co43, eo43⟩ := Kd.R_slice HO_275001.out; subst eo43) | (go_at_call 29; (with_reducible refine (spec_l02Join.calls t270 (fun k_ => some k_ = (.slice Ao43 x275001_2.length co43 : Value).ownBlock) (.slice Ao43 x275001_2.length co43) x275001_2 (wrap64 ((wrap64 (bt (rdOf ByteArray.empty t262 x6_2) 0)) - 97)) (wrap64 ((wrap64 (bt (rdOf ByteArray.empty t262 x6_2) 1)) - 97)) t281 w _ ?side1 ?side2 A40.out).mono ?_); (case side1 => exact zQ04bx0); (case side2 => exact Kd.R_tight rfl HO_275001.out); rintro e w44 ⟨rfl, hy0, hb, hkp⟩; replace HO_4 := Aside0.mk (Kd.R_mono (ok' := fun k_ => True) (Kd.R_keptB ((Kd.R_apart' HO_4.out (Kd.R_typed HO_275001.out) (by decide))) hkp (fun k_ hk_ hs_ => (hk_.2) hs_)) (fun k_ hk_ => trivial)); replace BK261 := Aside0.mk (blk_kept (blkQ BK261) hkp (fun hs_ => (fun e_ => (Kd.R_ne HO_275001.out BK261.out (by decide)) e_) hs_)); replace BK274 := Aside0.mk (blk_kept (blkQ BK274) hkp (fun hs_ => (fun e_ => (Kd.R_ne HO_275001.out BK274.out (by decide)) e_) hs_)); replace HO_275001 := Aside0.mk (Kd.R_reok rfl hy0 (fun k_ e_ => HO_275001.out.1 k_ e_)); replace HB := Aside0.mk (hb); (try clear hb); (try clear hkp); (try clear hy0)))
               repeat (go_quiet (first | (go_at_call 27; (with_reducible refine (spec_l01In.calls (wrap64 ((wrap64 (bt (rdOf ByteArray.empty t262 x6_2) 0)) - 97)) 0 (wrap64 (t270 - 1)) true _ A36.out).mono ?_); rintro e w' ⟨rfl, ⟨nd, rfl⟩⟩; (try exact zQ04bx1)) | (go_at_call 27; (with_reducible refine (spec_l01In.calls (wrap64 ((wrap64 (bt (rdOf ByteArray.empty t262 x6_2) 1)) - 97)) 0 (wrap64 (t270 - 1)) true _ A38.out).mono ?_); rintro e w' ⟨rfl, ⟨nd, rfl⟩⟩; (try exact zQ04bx1); obtain ⟨Ao43, co43, eo43⟩ := Kd.R_slice HO_275001.out; subst eo43) | (go_at_call 29; (with_reducible refine (spec_l02Join.calls t270 (fun k_ => some k_ = (.slice Ao43 x275001_2.length co43 : Value).ownBlock) (.slice Ao43 x275001_2.length co43) x275001_2 (wrap64 ((wrap64 (bt (rdOf ByteArray.empty t262 x6_2) 0)) - 97)) (wrap64 ((wrap64 (bt (rdOf ByteArray.empty t262 x6_2) 1)) - 97)) t281 w _ ?side1 ?side2 A40.out).mono ?_); (case side1 => exact zQ04bx0); (case side2 => exact Kd.R_tight rfl HO_275001.out); rintro e w44 ⟨rfl, hy0, hb, hkp⟩; replace HO_4 := Aside0.mk (Kd.R_mono (ok' := fun k_ => True) (Kd.R_keptB ((Kd.R_apart' HO_4.out (Kd.R_typed HO_275001.out) (by decide))) hkp (fun k_ hk_ hs_ => (hk_.2) hs_)) (fun k_ hk_ => trivial)); replace BK261 := Aside0.mk (blk_kept (blkQ BK261) hkp (fun hs_ => (fun e_ => (Kd.R_ne HO_275001.out BK261.out (by decide)) e_) hs_)); replace BK274 := Aside0.mk (blk_kept (blkQ BK274) hkp (fun hs_ => (fun e_ => (Kd.R_ne HO_275001.out BK274.out (by decide)) e_) hs_)); replace HO_275001 := Aside0.mk (Kd.R_reok rfl hy0 (fun k_ e_ => HO_275001.out.1 k_ e_)); replace HB := Aside0.mk (hb); (try clear hb); (try clear hkp); (try clear hy0))); try go_wp2_with (first | (go_at_call 27; (with_reducible refine (spec_l01In.calls (wrap64 ((wrap64 (bt (rdOf ByteArray.empty t262 x6_2) 0)) - 97)) 0 (wrap64 (t270 - 1)) true _ A36.out).mono ?_); rintro e w' ⟨rfl, ⟨nd, rfl⟩⟩; (try exact zQ04bx1)) | (go_at_call 27; (with_reducible refine (spec_l01In.calls (wrap64 ((wrap64 (bt (rdOf ByteArray.empty t262 x6_2) 1)) - 97)) 0 (wrap64 (t270 - 1)) true _ A38.out).mono ?_); rintro e w' ⟨rfl, ⟨nd, rfl⟩⟩; (try exact zQ04bx1); obtain ⟨Ao43, co43, eo43⟩ := Kd.R_slice HO_275001.out; subst eo43) | (go_at_call 29; (with_reducible refine (spec_l02Join.calls t270 (fun k_ => some k_ = (.slice Ao43 x275001_2.length co43 : Value).ownBlock) (.slice Ao43 x275001_2.length co43) x275001_2 (wrap64 ((wrap64 (bt (rdOf ByteArray.empty t262 x6_2) 0)) - 97)) (wrap64 ((wrap64 (bt (rdOf ByteArray.empty t262 x6_2) 1)) - 97)) t281 w _ ?side1 ?side2 A40.out).mono ?_); (case side1 => exact zQ04bx0); (case side2 => exact Kd.R_tight rfl HO_275001.out); rintro e w44 ⟨rfl, hy0, hb, hkp⟩; replace HO_4 := Aside0.mk (Kd.R_mono (ok' := fun k_ => True) (Kd.R_keptB ((Kd.R_apart' HO_4.out (Kd.R_typed HO_275001.out) (by decide))) hkp (fun k_ hk_ hs_ => (hk_.2) hs_)) (fun k_ hk_ => trivial)); replace BK261 := Aside0.mk (blk_kept (blkQ BK261) hkp (fun hs_ => (fun e_ => (Kd.R_ne HO_275001.out BK261.out (by decide)) e_) hs_)); replace BK274 := Aside0.mk (blk_kept (blkQ BK274) hkp (fun hs_ => (fun e_ => (Kd.R_ne HO_275001.out BK274.out (by decide)) e_) hs_)); replace HO_275001 := Aside0.mk (Kd.R_reok rfl hy0 (fun k_ e_ => HO_275001.out.1 k_ e_)); replace HB := Aside0.mk (hb); (try clear hb); (try clear hkp); (try clear hy0))))
               go_roundg k2
               case measure => have := HJ2.out; have := HK2.out; omega
               case rel => exact ⟨(wrap64 (x6_2 + 1)), (x262000_2), (t281), (.slice Ao43 x275001_2.length co43), sz, H', ⟨by have := HJ2.out; have := HK2.out; omega⟩, ⟨kdQ HO_4⟩, ⟨kdQ HO_275001⟩, ⟨blkQ BK261⟩, ⟨blkQ BK274⟩, ⟨beQ HB⟩⟩
              ·replace c39 := Bool.eq_false_iff.mpr c39
               subst c39
               have H1 : (some (0, ([] : List Int), 6)) = some (r1, r2, r3) := by rw [if_neg (show ¬ (false = true) by decide)] at H; exact H
               clear H; have H := H1; clear H1
               simp only [Option.some.injEq, Prod.mk.injEq] at H
               obtain ⟨rfl, rfl, rfl⟩ := H
               have p276 : 0 ≤ (x6_2 : Int) := of_decide_eq_true (by first | (with_reducible assumption) | assumption)
               have q276 : x6_2 < (t262.length : Int) := of_decide_eq_true (by first | (with_reducible assumption) | assumption)
               obtain ⟨ad276, e276, hx276_0⟩ := Kd.at_string (Kd.R_reads' HO_4.out).2.2 x6_2 p276 q276
               obtain rfl : ad269 = ad276 := (by injection e276)
               replace p276 := eq_true p276; replace q276 := eq_true q276
               have p277 : 0 ≤ (x6_2 : Int) := of_decide_eq_true (by first | (with_reducible assumption) | assumption)
               have q277 : x6_2 < (t262.length : Int) := of_decide_eq_true (by first | (with_reducible assumption) | assumption)
               obtain ⟨ad277, e277, hx277_0⟩ := Kd.at_string (Kd.R_reads' HO_4.out).2.2 x6_2 p277 q277
               obtain rfl : ad269 = ad277 := (by injection e277)
               replace p277 := eq_true p277; replace q277 := eq_true q277
               have p33 : 0 ≤ (0 : Int) := (by omega)
               have q33 : 0 < (rdOf ByteArray.empty t262 x6_2).size := (by have : (0 : Int) < ((rdOf ByteArray.empty t262 x6_2).size : Int) := of_decide_eq_true (by first | (with_reducible assumption) | assumption); omega)
               have hx33 : ∀ h : 0 < (rdOf ByteArray.empty t262 x6_2).size, (((rdOf ByteArray.empty t262 x6_2)[0]'h).toNat : Int) = bt (rdOf ByteArray.empty t262 x6_2) 0 := bt_at (rdOf ByteArray.empty t262 x6_2) 0
               clear p33
               have qi33 : (0 < ((rdOf ByteArray.empty t262 x6_2).size : Int)) = True := eq_true (of_decide_eq_true (by first | (with_reducible assumption) | assumption))
               replace q33 := eq_true q33
               have p278 : 0 ≤ (x6_2 : Int) := of_decide_eq_true (by first | (with_reducible assumption) | assumption)
               have q278 : x6_2 < (t262.length : Int) := of_decide_eq_true (by first | (with_reducible assumption) | assumption)
               obtain ⟨ad278, e278, hx278_0⟩ := Kd.at_string (Kd.R_reads' HO_4.out).2.2 x6_2 p278 q278
               obtain rfl : ad269 = ad278 := (by injection e278)
               replace p278 := eq_true p278; replace q278 := eq_true q278
               have p35 : 0 ≤ (1 : Int) := (by omega)
               have q35 : 1 < (rdOf ByteArray.empty t262 x6_2).size := (by have : (1 : Int) < ((rdOf ByteArray.empty t262 x6_2).size : Int) := of_decide_eq_true (by first | (with_reducible assumption) | assumption); omega)
               have hx35 : ∀ h : 1 < (rdOf ByteArray.empty t262 x6_2).size, (((rdOf ByteArray.empty t262 x6_2)[1]'h).toNat : Int) = bt (rdOf ByteArray.empty t262 x6_2) 1 := bt_at (rdOf ByteArray.empty t262 x6_2) 1
               clear p35
               have qi35 : (1 < ((rdOf ByteArray.empty t262 x6_2).size : Int)) = True := eq_true (of_decide_eq_true (by first | (with_reducible assumption) | assumption))
               replace q35 := eq_true q35; have hnb45 := NB274_261.out; have hnc45 := NB261_274.out
               have hcz46_0 : wr.cell? ⟨gb274, 0, none⟩ = some (.int .i64 t270) := bc BK274 0
               have hcz46_1 : wr.cell? ⟨gb274, 1, none⟩ = some (u275001) := bc BK274 1
               have hfz46_0 := blk_frozen BK274.out 0; have hfz46_1 := blk_frozen BK274.out 1
               go_wp2_with (first | (go_at_call 27; (with_reducible refine (spec_l01In.calls (wrap64 ((wrap64 (bt (rdOf ByteArray.empty t262 x6_2) 0)) - 97)) 0 (wrap64 (t270 - 1)) true _ A36.out).mono ?_); rintro e w' ⟨rfl, ⟨nd, rfl⟩⟩; (try exact zQ04bx1)) | (go_at_call 27; (with_reducible refine (spec_l01In.calls (wrap64 ((wrap64 (bt (rdOf ByteArray.empty t262 x6_2) 1)) - 97)) 0 (wrap64 (t270 - 1)) false _ A38.out).mono ?_); rintro e w' ⟨rfl, ⟨nd, rfl⟩⟩; (try exact zQ04bx1); have hcz47_0 : wr.cell? ⟨gb261, 0, none⟩ = some (.int .i64 x262000_2) := bc BK261 0; have hcz47_1 : wr.cell? ⟨gb261, 1, none⟩ = some (.slice none 0 0) := bc BK261 1; have hfz47_0 := blk_frozen BK261.out 0; have hfz47_1 := blk_frozen BK261.out 1))
               repeat (go_quiet (first | (go_at_call 27; (with_reducible refine (spec_l01In.calls (wrap64 ((wrap64 (bt (rdOf ByteArray.empty t262 x6_2) 0)) - 97)) 0 (wrap64 (t270 - 1)) true _ A36.out).mono ?_); rintro e w' ⟨rfl, ⟨nd, rfl⟩⟩; (try exact zQ04bx1)) | (go_at_call 27; (with_reducible refine (spec_l01In.calls (wrap64 ((wrap64 (bt (rdOf ByteArray.empty t262 x6_2) 1)) - 97)) 0 (wrap64 (t270 - 1)) false _ A38.out).mono ?_); rintro e w' ⟨rfl, ⟨nd, rfl⟩⟩; (try exact zQ04bx1); have hcz47_0 : wr.cell? ⟨gb261, 0, none⟩ = some (.int .i64 x262000_2) := bc BK261 0; have hcz47_1 : wr.cell? ⟨gb261, 1, none⟩ = some (.slice none 0 0) := bc BK261 1; have hfz47_0 := blk_frozen BK261.out 0; have hfz47_1 := blk_frozen BK261.out 1)); try go_wp2_with (first | (go_at_call 27; (with_reducible refine (spec_l01In.calls (wrap64 ((wrap64 (bt (rdOf ByteArray.empty t262 x6_2) 0)) - 97)) 0 (wrap64 (t270 - 1)) true _ A36.out).mono ?_); rintro e w' ⟨rfl, ⟨nd, rfl⟩⟩; (try exact zQ04bx1)) | (go_at_call 27; (with_reducible refine (spec_l01In.calls (wrap64 ((wrap64 (bt (rdOf ByteArray.empty t262 x6_2) 1)) - 97)) 0 (wrap64 (t270 - 1)) false _ A38.out).mono ?_); rintro e w' ⟨rfl, ⟨nd, rfl⟩⟩; (try exact zQ04bx1); have hcz47_0 : wr.cell? ⟨gb261, 0, none⟩ = some (.int .i64 x262000_2) := bc BK261 0; have hcz47_1 : wr.cell? ⟨gb261, 1, none⟩ = some (.slice none 0 0) := bc BK261 1; have hfz47_0 := blk_frozen BK261.out 0; have hfz47_1 := blk_frozen BK261.out 1)))
               refine bodyPost_ret (results_ct rfl _ _ gb261 28 #[.int .i64 0, .slice none 0 0] (0, 0) _ rfl (by (with_reducible repeat (first | refine blk_drewN ?_ _ | refine blk_drew ?_ | refine blk_alloc ?_ _)); refine blk_put (cs := #[.int .i64 0, .slice none 0 0]) ?_ 1 _ rfl; (with_reducible repeat (first | refine blk_drewN ?_ _ | refine blk_drew ?_ | refine blk_alloc ?_ _)); refine blk_put (cs := #[.int .i64 x262000_2, .slice none 0 0]) ?_ 0 _ rfl; (with_reducible repeat (first | refine blk_drewN ?_ _ | refine blk_drew ?_ | refine blk_alloc ?_ _)); exact BK261.out) Tryd.underlying28 rfl (by kernel_rfl)) rfl ?_
               exact ⟨_, rz, by first | exact Kd.R_nil _ _ _ _ _ | exact Kd.N_nil _ _ _ _ _ | exact Kd.V_nil _ _ _ _ _ | exact Kd.Q_nil _ _ _ _ _ | exact Kd.S_nil _ _ _ _ _, beQ HB⟩
             ·replace c37 := Bool.eq_false_iff.mpr c37
              subst c37
              have H1 : (some (0, ([] : List Int), 6)) = some (r1, r2, r3) := by rw [if_neg (show ¬ (false = true) by decide)] at H; exact H
              clear H; have H := H1; clear H1
              simp only [Option.some.injEq, Prod.mk.injEq] at H
              obtain ⟨rfl, rfl, rfl⟩ := H
              have p276 : 0 ≤ (x6_2 : Int) := of_decide_eq_true (by first | (with_reducible assumption) | assumption)
              have q276 : x6_2 < (t262.length : Int) := of_decide_eq_true (by first | (with_reducible assumption) | assumption)
              obtain ⟨ad276, e276, hx276_0⟩ := Kd.at_string (Kd.R_reads' HO_4.out).2.2 x6_2 p276 q276
              obtain rfl : ad269 = ad276 := (by injection e276)
              replace p276 := eq_true p276; replace q276 := eq_true q276
              have p277 : 0 ≤ (x6_2 : Int) := of_decide_eq_true (by first | (with_reducible assumption) | assumption)
              have q277 : x6_2 < (t262.length : Int) := of_decide_eq_true (by first | (with_reducible assumption) | assumption)
              obtain ⟨ad277, e277, hx277_0⟩ := Kd.at_string (Kd.R_reads' HO_4.out).2.2 x6_2 p277 q277
              obtain rfl : ad269 = ad277 := (by injection e277)
              replace p277 := eq_true p277; replace q277 := eq_true q277
              have p33 : 0 ≤ (0 : Int) := (by omega)
              have q33 : 0 < (rdOf ByteArray.empty t262 x6_2).size := (by have : (0 : Int) < ((rdOf ByteArray.empty t262 x6_2).size : Int) := of_decide_eq_true (by first | (with_reducible assumption) | assumption); omega)
              have hx33 : ∀ h : 0 < (rdOf ByteArray.empty t262 x6_2).size, (((rdOf ByteArray.empty t262 x6_2)[0]'h).toNat : Int) = bt (rdOf ByteArray.empty t262 x6_2) 0 := bt_at (rdOf ByteArray.empty t262 x6_2) 0
              clear p33
              have qi33 : (0 < ((rdOf ByteArray.empty t262 x6_2).size : Int)) = True := eq_true (of_decide_eq_true (by first | (with_reducible assumption) | assumption))
              replace q33 := eq_true q33
              have p278 : 0 ≤ (x6_2 : Int) := of_decide_eq_true (by first | (with_reducible assumption) | assumption)
              have q278 : x6_2 < (t262.length : Int) := of_decide_eq_true (by first | (with_reducible assumption) | assumption)
              obtain ⟨ad278, e278, hx278_0⟩ := Kd.at_string (Kd.R_reads' HO_4.out).2.2 x6_2 p278 q278
              obtain rfl : ad269 = ad278 := (by injection e278)
              replace p278 := eq_true p278; replace q278 := eq_true q278
              have p35 : 0 ≤ (1 : Int) := (by omega)
              have q35 : 1 < (rdOf ByteArray.empty t262 x6_2).size := (by have : (1 : Int) < ((rdOf ByteArray.empty t262 x6_2).size : Int) := of_decide_eq_true (by first | (with_reducible assumption) | assumption); omega)
              have hx35 : ∀ h : 1 < (rdOf ByteArray.empty t262 x6_2).size, (((rdOf ByteArray.empty t262 x6_2)[1]'h).toNat : Int) = bt (rdOf ByteArray.empty t262 x6_2) 1 := bt_at (rdOf ByteArray.empty t262 x6_2) 1
              clear p35
              have qi35 : (1 < ((rdOf ByteArray.empty t262 x6_2).size : Int)) = True := eq_true (of_decide_eq_true (by first | (with_reducible assumption) | assumption))
              replace q35 := eq_true q35; have hnb48 := NB274_261.out; have hnc48 := NB261_274.out
              have hcz49_0 : wr.cell? ⟨gb274, 0, none⟩ = some (.int .i64 t270) := bc BK274 0
              have hcz49_1 : wr.cell? ⟨gb274, 1, none⟩ = some (u275001) := bc BK274 1
              have hfz49_0 := blk_frozen BK274.out 0; have hfz49_1 := blk_frozen BK274.out 1
              go_wp2_with (first | (go_at_call 27; (with_reducible refine (spec_l01In.calls (wrap64 ((wrap64 (bt (rdOf ByteArray.empty t262 x6_2) 0)) - 97)) 0 (wrap64 (t270 - 1)) false _ A36.out).mono ?_); rintro e w' ⟨rfl, ⟨nd, rfl⟩⟩; (try exact zQ04bx1); have hcz50_0 : wr.cell? ⟨gb261, 0, none⟩ = some (.int .i64 x262000_2) := bc BK261 0; have hcz50_1 : wr.cell? ⟨gb261, 1, none⟩ = some (.slice none 0 0) := bc BK261 1; have hfz50_0 := blk_frozen BK261.out 0; have hfz50_1 := blk_frozen BK261.out 1))
              repeat (go_quiet (first | (go_at_call 27; (with_reducible refine (spec_l01In.calls (wrap64 ((wrap64 (bt (rdOf ByteArray.empty t262 x6_2) 0)) - 97)) 0 (wrap64 (t270 - 1)) false _ A36.out).mono ?_); rintro e w' ⟨rfl, ⟨nd, rfl⟩⟩; (try exact zQ04bx1); have hcz50_0 : wr.cell? ⟨gb261, 0, none⟩ = some (.int .i64 x262000_2) := bc BK261 0; have hcz50_1 : wr.cell? ⟨gb261, 1, none⟩ = some (.slice none 0 0) := bc BK261 1; have hfz50_0 := blk_frozen BK261.out 0; have hfz50_1 := blk_frozen BK261.out 1)); try go_wp2_with (first | (go_at_call 27; (with_reducible refine (spec_l01In.calls (wrap64 ((wrap64 (bt (rdOf ByteArray.empty t262 x6_2) 0)) - 97)) 0 (wrap64 (t270 - 1)) false _ A36.out).mono ?_); rintro e w' ⟨rfl, ⟨nd, rfl⟩⟩; (try exact zQ04bx1); have hcz50_0 : wr.cell? ⟨gb261, 0, none⟩ = some (.int .i64 x262000_2) := bc BK261 0; have hcz50_1 : wr.cell? ⟨gb261, 1, none⟩ = some (.slice none 0 0) := bc BK261 1; have hfz50_0 := blk_frozen BK261.out 0; have hfz50_1 := blk_frozen BK261.out 1)))
              refine bodyPost_ret (results_ct rfl _ _ gb261 28 #[.int .i64 0, .slice none 0 0] (0, 0) _ rfl (by (with_reducible repeat (first | refine blk_drewN ?_ _ | refine blk_drew ?_ | refine blk_alloc ?_ _)); refine blk_put (cs := #[.int .i64 0, .slice none 0 0]) ?_ 1 _ rfl; (with_reducible repeat (first | refine blk_drewN ?_ _ | refine blk_drew ?_ | refine blk_alloc ?_ _)); refine blk_put (cs := #[.int .i64 x262000_2, .slice none 0 0]) ?_ 0 _ rfl; (with_reducible repeat (first | refine blk_drewN ?_ _ | refine blk_drew ?_ | refine blk_alloc ?_ _)); exact BK261.out) Tryd.underlying28 rfl (by kernel_rfl)) rfl ?_
              exact ⟨_, rz, by first | exact Kd.R_nil _ _ _ _ _ | exact Kd.N_nil _ _ _ _ _ | exact Kd.V_nil _ _ _ _ _ | exact Kd.Q_nil _ _ _ _ _ | exact Kd.S_nil _ _ _ _ _, beQ HB⟩
            ·rw [if_neg c34] at H
             exact absurd H (by simp)
           ·rw [if_neg c32] at H
            exact absurd H (by simp)
          ·rw [if_neg c31] at H
           have c31b0 : (((rdOf ByteArray.empty t262 x6_2).size : Int) == 2) = false := beq_eq_false_iff_ne.mpr c31
           have c31b1 : (((rdOf ByteArray.empty t262 x6_2).size : Int) != 2) = true := bne_iff_ne.mpr c31
           simp only [Option.some.injEq, Prod.mk.injEq] at H
           obtain ⟨rfl, rfl, rfl⟩ := H
           have p276 : 0 ≤ (x6_2 : Int) := of_decide_eq_true (by first | (with_reducible assumption) | assumption)
           have q276 : x6_2 < (t262.length : Int) := of_decide_eq_true (by first | (with_reducible assumption) | assumption)
           obtain ⟨ad276, e276, hx276_0⟩ := Kd.at_string (Kd.R_reads' HO_4.out).2.2 x6_2 p276 q276
           obtain rfl : ad269 = ad276 := (by injection e276)
           replace p276 := eq_true p276; replace q276 := eq_true q276; have hnb51 := NB261_274.out; have hnc51 := NB274_261.out
           have hcz52_0 : wr.cell? ⟨gb261, 0, none⟩ = some (.int .i64 x262000_2) := bc BK261 0
           have hcz52_1 : wr.cell? ⟨gb261, 1, none⟩ = some (.slice none 0 0) := bc BK261 1
           have hfz52_0 := blk_frozen BK261.out 0; have hfz52_1 := blk_frozen BK261.out 1
           go_wp2
           repeat (go_quiet (fail); try go_wp2)
           refine bodyPost_ret (results_ct rfl _ _ gb261 28 #[.int .i64 0, .slice none 0 0] (0, 0) _ rfl (by (with_reducible repeat (first | refine blk_drewN ?_ _ | refine blk_drew ?_ | refine blk_alloc ?_ _)); refine blk_put (cs := #[.int .i64 0, .slice none 0 0]) ?_ 1 _ rfl; (with_reducible repeat (first | refine blk_drewN ?_ _ | refine blk_drew ?_ | refine blk_alloc ?_ _)); refine blk_put (cs := #[.int .i64 x262000_2, .slice none 0 0]) ?_ 0 _ rfl; (with_reducible repeat (first | refine blk_drewN ?_ _ | refine blk_drew ?_ | refine blk_alloc ?_ _)); exact BK261.out) Tryd.underlying28 rfl (by kernel_rfl)) rfl ?_
           exact ⟨_, rz, by first | exact Kd.R_nil _ _ _ _ _ | exact Kd.N_nil _ _ _ _ _ | exact Kd.V_nil _ _ _ _ _ | exact Kd.Q_nil _ _ _ _ _ | exact Kd.S_nil _ _ _ _ _, beQ HB⟩
         ·rw [if_neg c30] at H
          exact absurd H (by simp)
        ·rw [if_neg c29] at H
         have c29b0 : decide (x6_2 < (t262.length : Int)) = false := decide_eq_false c29
         clear c29; replace H := Option.bind_eq_some_iff.mp H; obtain ⟨t275, A530, H⟩ := H
         replace H : (if t275.toList = a0.toList then (some (t270, x275001_2, 0)) else (some (0, ([] : List Int), 6))) = some (r1, r2, r3) := H
         have A53 := Aside0.mk A530; clear A530
         by_cases c54 : t275.toList = a0.toList
         ·rw [if_pos c54] at H
          have c54b0 : (t275.toList == a0.toList) = true := beq_iff_eq.mpr c54
          have c54b1 : (t275.toList != a0.toList) = false := bne_eq_false_iff_eq.mpr c54
          clear c54
          simp only [Option.some.injEq, Prod.mk.injEq] at H
          obtain ⟨rfl, rfl, rfl⟩ := H; have hnb55 := NB274_261.out; have hnc55 := NB261_274.out
          have hcz56_0 : wr.cell? ⟨gb274, 0, none⟩ = some (.int .i64 t270) := bc BK274 0
          have hcz56_1 : wr.cell? ⟨gb274, 1, none⟩ = some (u275001) := bc BK274 1
          have hfz56_0 := blk_frozen BK274.out 0; have hfz56_1 := blk_frozen BK274.out 1; obtain ⟨Ao57, co57, eo57⟩ := Kd.R_slice HO_275001.out; subst eo57
          go_wp2_with (first | (go_at_call 22; (with_reducible refine (spec_l02Text.calls k2 t270 _ _ x275001_2 t275 _ ?side1 ?side2 A53.out).mono ?_); (case side1 => have q_ := Aside0.mk (Kd.R_reads' HO_275001.out).2.2; exact cQ q_); (case side2 => exact (Kd.R_reads' HO_275001.out).2.1); rintro e w58 ⟨rfl, hb⟩; replace HO_4 := kb HO_4 hb; replace HO_275001 := kb HO_275001 hb; replace BK261 := bb BK261 hb; replace BK274 := bb BK274 hb; replace HB := Aside0.mk (below_step (beQ HB) hb); (try clear hb); (try clear hb2); (try clear hk); (try clear hi); (try clear hgw_); have hcz59_0 : w58.cell? ⟨gb274, 0, none⟩ = some (.int .i64 t270) := bc BK274 0; have hcz59_1 : w58.cell? ⟨gb274, 1, none⟩ = some (.slice Ao57 x275001_2.length co57) := bc BK274 1; have hfz59_0 := blk_frozen BK274.out 0; have hfz59_1 := blk_frozen BK274.out 1; have hcz60_0 : w58.cell? ⟨gb261, 0, none⟩ = some (.int .i64 x262000_2) := bc BK261 0; have hcz60_1 : w58.cell? ⟨gb261, 1, none⟩ = some (.slice none 0 0) := bc BK261 1; have hfz60_0 := blk_frozen BK261.out 0; have hfz60_1 := blk_frozen BK261.out 1))
          repeat (go_quiet (first | (go_at_call 22; (with_reducible refine (spec_l02Text.calls k2 t270 _ _ x275001_2 t275 _ ?side1 ?side2 A53.out).mono ?_); (case side1 => have q_ := Aside0.mk (Kd.R_reads' HO_275001.out).2.2; exact cQ q_); (case side2 => exact (Kd.R_reads' HO_275001.out).2.1); rintro e w58 ⟨rfl, hb⟩; replace HO_4 := kb HO_4 hb; replace HO_275001 := kb HO_275001 hb; replace BK261 := bb BK261 hb; replace BK274 := bb BK274 hb; replace HB := Aside0.mk (below_step (beQ HB) hb); (try clear hb); (try clear hb2); (try clear hk); (try clear hi); (try clear hgw_); have hcz59_0 : w58.cell? ⟨gb274, 0, none⟩ = some (.int .i64 t270) := bc BK274 0; have hcz59_1 : w58.cell? ⟨gb274, 1, none⟩ = some (.slice Ao57 x275001_2.length co57) := bc BK274 1; have hfz59_0 := blk_frozen BK274.out 0; have hfz59_1 := blk_frozen BK274.out 1; have hcz60_0 : w58.cell? ⟨gb261, 0, none⟩ = some (.int .i64 x262000_2) := bc BK261 0; have hcz60_1 : w58.cell? ⟨gb261, 1, none⟩ = some (.slice none 0 0) := bc BK261 1; have hfz60_0 := blk_frozen BK261.out 0; have hfz60_1 := blk_frozen BK261.out 1)); try go_wp2_with (first | (go_at_call 22; (with_reducible refine (spec_l02Text.calls k2 t270 _ _ x275001_2 t275 _ ?side1 ?side2 A53.out).mono ?_); (case side1 => have q_ := Aside0.mk (Kd.R_reads' HO_275001.out).2.2; exact cQ q_); (case side2 => exact (Kd.R_reads' HO_275001.out).2.1); rintro e w58 ⟨rfl, hb⟩; replace HO_4 := kb HO_4 hb; replace HO_275001 := kb HO_275001 hb; replace BK261 := bb BK261 hb; replace BK274 := bb BK274 hb; replace HB := Aside0.mk (below_step (beQ HB) hb); (try clear hb); (try clear hb2); (try clear hk); (try clear hi); (try clear hgw_); have hcz59_0 : w58.cell? ⟨gb274, 0, none⟩ = some (.int .i64 t270) := bc BK274 0; have hcz59_1 : w58.cell? ⟨gb274, 1, none⟩ = some (.slice Ao57 x275001_2.length co57) := bc BK274 1; have hfz59_0 := blk_frozen BK274.out 0; have hfz59_1 := blk_frozen BK274.out 1; have hcz60_0 : w58.cell? ⟨gb261, 0, none⟩ = some (.int .i64 x262000_2) := bc BK261 0; have hcz60_1 : w58.cell? ⟨gb261, 1, none⟩ = some (.slice none 0 0) := bc BK261 1; have hfz60_0 := blk_frozen BK261.out 0; have hfz60_1 := blk_frozen BK261.out 1)))
          refine bodyPost_ret (results_ct rfl _ _ gb261 28 #[.int .i64 t270, .slice Ao57 x275001_2.length co57] (0, 0) _ rfl (by (with_reducible repeat (first | refine blk_drewN ?_ _ | refine blk_drew ?_ | refine blk_alloc ?_ _)); refine blk_put (cs := #[.int .i64 t270, .slice none 0 0]) ?_ 1 _ rfl; (with_reducible repeat (first | refine blk_drewN ?_ _ | refine blk_drew ?_ | refine blk_alloc ?_ _)); refine blk_put (cs := #[.int .i64 x262000_2, .slice none 0 0]) ?_ 0 _ rfl; (with_reducible repeat (first | refine blk_drewN ?_ _ | refine blk_drew ?_ | refine blk_alloc ?_ _)); exact BK261.out) Tryd.underlying28 rfl (by kernel_rfl)) rfl ?_
          exact ⟨_, rz, by (with_reducible repeat (first | apply Kd.R_alloc | apply Kd.R_drewN | apply Kd.R_drew)); exact Kd.R_mono (Kd.R_far (p := ⟨gb261, 1, none⟩) (Kd.R_far (p := ⟨gb261, 0, none⟩) (Kd.R_types HO_275001.out BK261.out (by decide)) (fun _ hk => hk.2) (.int .i64 t270)) (fun _ hk => hk.2) (.slice Ao57 x275001_2.length co57)) (fun _ hk => trivial), beQ HB⟩
         ·rw [if_neg c54] at H
          have c54b0 : (t275.toList == a0.toList) = false := beq_eq_false_iff_ne.mpr c54
          have c54b1 : (t275.toList != a0.toList) = true := bne_iff_ne.mpr c54
          simp only [Option.some.injEq, Prod.mk.injEq] at H
          obtain ⟨rfl, rfl, rfl⟩ := H; have hnb61 := NB274_261.out; have hnc61 := NB261_274.out
          have hcz62_0 : wr.cell? ⟨gb274, 0, none⟩ = some (.int .i64 t270) := bc BK274 0
          have hcz62_1 : wr.cell? ⟨gb274, 1, none⟩ = some (u275001) := bc BK274 1
          have hfz62_0 := blk_frozen BK274.out 0; have hfz62_1 := blk_frozen BK274.out 1; obtain ⟨Ao63, co63, eo63⟩ := Kd.R_slice HO_275001.out; subst eo63
          go_wp2_with (first | (go_at_call 22; (with_reducible refine (spec_l02Text.calls k2 t270 _ _ x275001_2 t275 _ ?side1 ?side2 A53.out).mono ?_); (case side1 => have q_ := Aside0.mk (Kd.R_reads' HO_275001.out).2.2; exact cQ q_); (case side2 => exact (Kd.R_reads' HO_275001.out).2.1); rintro e w64 ⟨rfl, hb⟩; replace HO_4 := kb HO_4 hb; replace HO_275001 := kb HO_275001 hb; replace BK261 := bb BK261 hb; replace BK274 := bb BK274 hb; replace HB := Aside0.mk (below_step (beQ HB) hb); (try clear hb); (try clear hb2); (try clear hk); (try clear hi); (try clear hgw_); have hcz65_0 : w64.cell? ⟨gb261, 0, none⟩ = some (.int .i64 x262000_2) := bc BK261 0; have hcz65_1 : w64.cell? ⟨gb261, 1, none⟩ = some (.slice none 0 0) := bc BK261 1; have hfz65_0 := blk_frozen BK261.out 0; have hfz65_1 := blk_frozen BK261.out 1))
          repeat (go_quiet (first | (go_at_call 22; (with_reducible refine (spec_l02Text.calls k2 t270 _ _ x275001_2 t275 _ ?side1 ?side2 A53.out).mono ?_); (case side1 => have q_ := Aside0.mk (Kd.R_reads' HO_275001.out).2.2; exact cQ q_); (case side2 => exact (Kd.R_reads' HO_275001.out).2.1); rintro e w64 ⟨rfl, hb⟩; replace HO_4 := kb HO_4 hb; replace HO_275001 := kb HO_275001 hb; replace BK261 := bb BK261 hb; replace BK274 := bb BK274 hb; replace HB := Aside0.mk (below_step (beQ HB) hb); (try clear hb); (try clear hb2); (try clear hk); (try clear hi); (try clear hgw_); have hcz65_0 : w64.cell? ⟨gb261, 0, none⟩ = some (.int .i64 x262000_2) := bc BK261 0; have hcz65_1 : w64.cell? ⟨gb261, 1, none⟩ = some (.slice none 0 0) := bc BK261 1; have hfz65_0 := blk_frozen BK261.out 0; have hfz65_1 := blk_frozen BK261.out 1)); try go_wp2_with (first | (go_at_call 22; (with_reducible refine (spec_l02Text.calls k2 t270 _ _ x275001_2 t275 _ ?side1 ?side2 A53.out).mono ?_); (case side1 => have q_ := Aside0.mk (Kd.R_reads' HO_275001.out).2.2; exact cQ q_); (case side2 => exact (Kd.R_reads' HO_275001.out).2.1); rintro e w64 ⟨rfl, hb⟩; replace HO_4 := kb HO_4 hb; replace HO_275001 := kb HO_275001 hb; replace BK261 := bb BK261 hb; replace BK274 := bb BK274 hb; replace HB := Aside0.mk (below_step (beQ HB) hb); (try clear hb); (try clear hb2); (try clear hk); (try clear hi); (try clear hgw_); have hcz65_0 : w64.cell? ⟨gb261, 0, none⟩ = some (.int .i64 x262000_2) := bc BK261 0; have hcz65_1 : w64.cell? ⟨gb261, 1, none⟩ = some (.slice none 0 0) := bc BK261 1; have hfz65_0 := blk_frozen BK261.out 0; have hfz65_1 := blk_frozen BK261.out 1)))
          refine bodyPost_ret (results_ct rfl _ _ gb261 28 #[.int .i64 0, .slice none 0 0] (0, 0) _ rfl (by (with_reducible repeat (first | refine blk_drewN ?_ _ | refine blk_drew ?_ | refine blk_alloc ?_ _)); refine blk_put (cs := #[.int .i64 0, .slice none 0 0]) ?_ 1 _ rfl; (with_reducible repeat (first | refine blk_drewN ?_ _ | refine blk_drew ?_ | refine blk_alloc ?_ _)); refine blk_put (cs := #[.int .i64 x262000_2, .slice none 0 0]) ?_ 0 _ rfl; (with_reducible repeat (first | refine blk_drewN ?_ _ | refine blk_drew ?_ | refine blk_alloc ?_ _)); exact BK261.out) Tryd.underlying28 rfl (by kernel_rfl)) rfl ?_
          exact ⟨_, rz, by first | exact Kd.R_nil _ _ _ _ _ | exact Kd.N_nil _ _ _ _ _ | exact Kd.V_nil _ _ _ _ _ | exact Kd.Q_nil _ _ _ _ _ | exact Kd.S_nil _ _ _ _ _, beQ HB⟩
     ·rw [if_neg c20] at H
      exact absurd H (by simp)
    ·rw [if_neg c19] at H
     exact absurd H (by simp)
end Go.Proofs.YtbhkpfkkjknmlaaDoor.G
