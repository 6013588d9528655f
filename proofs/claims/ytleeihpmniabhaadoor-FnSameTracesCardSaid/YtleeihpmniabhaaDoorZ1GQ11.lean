-- A copy, with what one law needs, of a text that print.sh or a program of ours wrote
import Derived.Test.YtleeihpmniabhaaDoorZ1G0
import Derived.Test.YtleeihpmniabhaaDoorZ1GQ00d
import Derived.Test.YtleeihpmniabhaaDoorZ1GQ01a
import Derived.Test.YtleeihpmniabhaaDoorZ1GQ01b
import Derived.Test.YtleeihpmniabhaaDoorZ1GQ02b
import Derived.Test.YtleeihpmniabhaaDoorZ1GQ10
namespace Go.Proofs.YtleeihpmniabhaaDoor.G
open Go.RowKit Go.Proofs.YtleeihpmniabhaaDoorW.PrintWords Go.Proofs.YtleeihpmniabhaaDoorW.PrintLast Go.Proofs.YtleeihpmniabhaaDoorW.PrintMore
attribute [local go_sem] max2_int min2_int max_two min_two max_three min_three max_four min_four   -- for this text's walks alone
set_option linter.unusedVariables false
set_option linter.unusedSimpArgs false
mutual
def impl_pairsOf.l0 : Nat → List Int → Int → Int → Int → List Int → Option (List Int)
 | 0, _, _, _, _, _ => none
 | k + 1, x3, x8, x9, x629000, x629001 => if x9 < x8 then (impl_pairsOf.l1 k x3 x9 x9 x8 x9 x629000 x629001) else (some x3)
def impl_pairsOf.l1 : Nat → List Int → Int → Int → Int → Int → Int → List Int → Option (List Int)
 | 0, _, _, _, _, _, _, _ => none
 | k + 1, x3, x4, x5, x8, x9, x629000, x629001 => if x5 < x629000 then ((impl_depend.f x629000 x629001 x4 x5).bind fun t632 => (if t632 = true then ((impl_one.f x4).bind fun t633 => ((impl_one.f x5).bind fun t634 => (if x3.length < 17592186044416 then (impl_pairsOf.l1 k (x3 ++ [Go.bits .or .i64 t633 t634]) x4 (wrap64 (x5 + 1)) x8 x9 x629000 x629001) else (none)))) else (impl_pairsOf.l1 k x3 x4 (wrap64 (x5 + 1)) x8 x9 x629000 x629001))) else (impl_pairsOf.l0 k x3 x8 (wrap64 (x9 + 1)) x629000 x629001)
end
def impl_pairsOf.f (k : Nat) (a0_0 : Int) (l0_1 : List Int) : Option (List Int) := impl_pairsOf.l0 k (([] : List Int)) a0_0 0 a0_0 l0_1
set_option maxHeartbeats 8000000 in
set_option maxRecDepth 100000 in
theorem impl_pairsOf.calls (k : Nat) (a0_0 : Int) (A0_1 : Option Addr) (c0_1 : Nat) (l0_1 : List Int) (r : List Int) (w : World) (hr0_1 : Kd.C (Kd.int .i64) w A0_1 l0_1.length l0_1) (hc0_1 : l0_1.length ≤ c0_1) (h : impl_pairsOf.f k a0_0 l0_1 = some r) :
  Calls Tryd.prog 82 #[.agg #[.int .i64 a0_0, .slice A0_1 l0_1.length c0_1]] w fun e w' => ∃ v0_ : Value, e = .returned (v0_) ∧ Kd.R (Kd.int .i64) 2 w' w.heap.size (fun _ => True) v0_ r ∧ Below w.heap.size w w' := by
 have hu26 := Tryd.underlying26; have HR0_1 := Aside0.mk hr0_1; have HC0_1 := Aside0.mk hc0_1; clear hr0_1 hc0_1; have HB := Aside0.mk (Below.refl w.heap.size w)
 have H : (impl_pairsOf.l0 k (([] : List Int)) a0_0 0 a0_0 l0_1) = some r := h
 clear h
 obtain ⟨y629, hy629⟩ : ∃ y_ : List Int, y_ = (([] : List Int)) := ⟨_, rfl⟩
 replace H : (impl_pairsOf.l0 k y629 a0_0 0 a0_0 l0_1) = some r := by first | (rw [hy629]; with_reducible exact H) | (have H2_ := (Option.bind_some _ _).symm.trans H; rw [hy629]; with_reducible exact H2_) | (have H2_ := (Option.bind_some _ _).symm.trans H; with_reducible exact H2_) | with_reducible exact H | (rw [hy629]; exact H) | exact H
 have Ny629 := Aside0.mk hy629; clear hy629
 have H' := Aside0.mk H
 clear H
 go_enter Tryd.func82, Tryd.ntmps82
 go_wp2_with (first | ((with_reducible refine gate_dst (N := 1) rfl ?_); refine box_event ?hg (N := 1) ?hd (cs := #[.int .i64 a0_0, .slice A0_1 l0_1.length c0_1]) (t := 26) ?hr ?_; (case hd => rfl); (case hg => rfl); (case hr => first | (go_simp; done) | (go_simp; rfl)); intro gb628 hg w2 hbox hb; have BK628 := Aside0.mk (hbox); have GW628 := Aside0.mk ((by rw [hg]; exact (below_size (beQ HB)) : w.heap.size ≤ gb628)); have GE628 := Aside0.mk ((by rw [hg]; exact (below_size (beQ HB)) : w.heap.size ≤ gb628)); replace HB := Aside0.mk (below_step (beQ HB) hb); clear hb hbox hg) | ((with_reducible refine gate_dst (N := 6) rfl ?_); refine Kd.R_lit (Kd.int .i64) _ 2 ?hg (N := 6) ?hd (xs := ([] : List Int)) (inner := []) (ok := fun _ => True) (okp := fun _ => True) ?hr ?hp (fun _ hk => hk) trivial (Below.refl _ _) (Nat.le_refl _) (by simp) ?_; (case hd => rfl); (case hg => rfl); (case hr => first | (go_simp; done) | (go_simp; rfl)); (case hp => exact (Reps.none _ _)); intro v630 w3 ho4 hb hg_ hnew_; clear hg_ hnew_; (first | rw [← Ny629.out] at ho4 | (simp only [Int.reduceToNat] at ho4; rw [← Ny629.out] at ho4)); have HO631 := Aside0.mk (Kd.R_lower ho4 (below_size (beQ HB))); replace BK628 := bb BK628 hb; replace HB := Aside0.mk (below_step (beQ HB) hb); clear hb ho4; have hcz5_0 : w3.cell? ⟨gb628, 0, none⟩ = some (.int .i64 a0_0) := bc BK628 0; have hcz5_1 : w3.cell? ⟨gb628, 1, none⟩ = some (.slice A0_1 l0_1.length c0_1) := bc BK628 1; have hfz5_0 := blk_frozen BK628.out 0; have hfz5_1 := blk_frozen BK628.out 1))
 go_loopg [3, 9] k (fun kq v3 v9 w' => ∃ (x3_1 : List Int) (x9_1 : Int), v9 = .int .i64 x9_1 ∧ Aside0 (impl_pairsOf.l0 kq x3_1 a0_0 x9_1 a0_0 l0_1 = some r) ∧ Aside0 (kq ≤ k) ∧ Aside0 (Kd.R (Kd.int .i64) 2 w' w.heap.size (fun _ => True) v3 x3_1) ∧ Aside0 (w'.heap[gb628]? = some (.cells #[.int .i64 a0_0, (.slice A0_1 l0_1.length c0_1)] 26 (0, 0))) ∧ Aside0 (Below w.heap.size w w'))
 case atStart => exact ⟨(y629), (0), sz, H', ⟨Nat.le_refl _⟩, ⟨kdQ HO631⟩, ⟨blkQ BK628⟩, ⟨beQ HB⟩⟩
 case round =>
  clear H'
  try clear p2
  try clear hcz5_0
  try clear hcz5_1
  try clear hfz5_0
  try clear hfz5_1
  obtain ⟨x3_1, x9_1, rfl, HA, HK1, HO_3, BK628, HB⟩ := hrel
  cases gk with
  | zero => exact absurd HA.out (by simp [impl_pairsOf.l0])
  | succ k1 =>
   have H := HA.out; clear HA
   simp only [impl_pairsOf.l0] at H
   by_cases c6 : x9_1 < a0_0
   ·rw [if_pos c6] at H
    have c6b0 : decide (x9_1 < a0_0) = true := decide_eq_true c6
    clear c6
    have H' := Aside0.mk H
    clear H
    go_wp2
    go_loopg [3, 5] k1 (fun kq v3 v5 w' => ∃ (x3_2 : List Int) (x5_2 : Int), v5 = .int .i64 x5_2 ∧ Aside0 (impl_pairsOf.l1 kq x3_2 x9_1 x5_2 a0_0 x9_1 a0_0 l0_1 = some r) ∧ Aside0 (kq ≤ k1) ∧ Aside0 (Kd.R (Kd.int .i64) 2 w' w.heap.size (fun _ => True) v3 x3_2) ∧ Aside0 (w'.heap[gb628]? = some (.cells #[.int .i64 a0_0, (.slice A0_1 l0_1.length c0_1)] 26 (0, 0))) ∧ Aside0 (Below w.heap.size w w'))
    case atStart => exact ⟨(x3_1), (x9_1), sz, H', ⟨Nat.le_refl _⟩, ⟨kdQ HO_3⟩, ⟨blkQ BK628⟩, ⟨beQ HB⟩⟩
    case round =>
     clear H'
     try clear p2
     try clear c6
     try clear c6b0
     try clear hcz5_0
     try clear hcz5_1
     try clear hfz5_0
     try clear hfz5_1
     try clear p2
     obtain ⟨x3_2, x5_2, rfl, HA, HK2, HO_3, BK628, HB⟩ := hrel
     cases gk with
     | zero => exact absurd HA.out (by simp [impl_pairsOf.l1])
     | succ k2 =>
      have H := HA.out; clear HA
      simp only [impl_pairsOf.l1] at H
      by_cases c7 : x5_2 < a0_0
      ·rw [if_pos c7] at H
       have c7b0 : decide (x5_2 < a0_0) = true := decide_eq_true c7
       clear c7; replace H := Option.bind_eq_some_iff.mp H; obtain ⟨t632, A80, H⟩ := H
       replace H : (if t632 = true then ((impl_one.f x9_1).bind fun t633 => ((impl_one.f x5_2).bind fun t634 => (if x3_2.length < 17592186044416 then (impl_pairsOf.l1 k2 (x3_2 ++ [Go.bits .or .i64 t633 t634]) x9_1 (wrap64 (x5_2 + 1)) a0_0 x9_1 a0_0 l0_1) else (none)))) else (impl_pairsOf.l1 k2 x3_2 x9_1 (wrap64 (x5_2 + 1)) a0_0 x9_1 a0_0 l0_1)) = some r := H
       have A8 := Aside0.mk A80; clear A80
       by_cases c9 : t632 = true
       ·subst c9
        have H1 : ((impl_one.f x9_1).bind fun t633 => ((impl_one.f x5_2).bind fun t634 => (if x3_2.length < 17592186044416 then (impl_pairsOf.l1 k2 (x3_2 ++ [Go.bits .or .i64 t633 t634]) x9_1 (wrap64 (x5_2 + 1)) a0_0 x9_1 a0_0 l0_1) else (none)))) = some r := by rw [if_pos rfl] at H; exact H
        clear H; have H := H1; clear H1; replace H := Option.bind_eq_some_iff.mp H; obtain ⟨t633, A100, H⟩ := H
        replace H : ((impl_one.f x5_2).bind fun t634 => (if x3_2.length < 17592186044416 then (impl_pairsOf.l1 k2 (x3_2 ++ [Go.bits .or .i64 t633 t634]) x9_1 (wrap64 (x5_2 + 1)) a0_0 x9_1 a0_0 l0_1) else (none))) = some r := H
        have A10 := Aside0.mk A100; clear A100; replace H := Option.bind_eq_some_iff.mp H; obtain ⟨t634, A110, H⟩ := H
        replace H : (if x3_2.length < 17592186044416 then (impl_pairsOf.l1 k2 (x3_2 ++ [Go.bits .or .i64 t633 t634]) x9_1 (wrap64 (x5_2 + 1)) a0_0 x9_1 a0_0 l0_1) else (none)) = some r := H
        have A11 := Aside0.mk A110; clear A110
        by_cases c12 : x3_2.length < 17592186044416
        ·rw [if_pos c12] at H
         have LMc12 := Aside0.mk c12; clear c12
         obtain ⟨y635, hy635⟩ : ∃ y_ : List Int, y_ = (x3_2 ++ [Go.bits .or .i64 t633 t634]) := ⟨_, rfl⟩
         replace H : (impl_pairsOf.l1 k2 y635 x9_1 (wrap64 (x5_2 + 1)) a0_0 x9_1 a0_0 l0_1) = some r := by first | (rw [hy635]; with_reducible exact H) | (have H2_ := (Option.bind_some _ _).symm.trans H; rw [hy635]; with_reducible exact H2_) | (have H2_ := (Option.bind_some _ _).symm.trans H; with_reducible exact H2_) | with_reducible exact H | (rw [hy635]; exact H) | exact H
         have Ny635 := Aside0.mk hy635; clear hy635
         have H' := Aside0.mk H
         clear H
         have hcz13_0 : wr.cell? ⟨gb628, 0, none⟩ = some (.int .i64 a0_0) := bc BK628 0
         have hcz13_1 : wr.cell? ⟨gb628, 1, none⟩ = some (.slice A0_1 l0_1.length c0_1) := bc BK628 1
         have hfz13_0 := blk_frozen BK628.out 0; have hfz13_1 := blk_frozen BK628.out 1
         go_wp2_with (first | ((with_reducible refine gate_callee (f := 130) rfl ?_); refine goesL_ (some 22) rfl rfl Tryd.func130 (by kernel_rfl) rfl #[.agg #[.int .i64 a0_0, .slice A0_1 l0_1.length c0_1], .int .i64 x9_1, .int .i64 x5_2] rfl lz ?_; (with_reducible refine (impl_depend.calls a0_0 _ _ l0_1 x9_1 x5_2 true _ ?side1 ?side2 A8.out).mono ?_); (case side1 => have q_ := Aside0.mk (Kd.C_below HR0_1.out HB.out); exact cQ q_); (case side2 => exact HC0_1.out); rintro e w14 ⟨rfl, hb⟩; refine ⟨_, rfl, ?_⟩; replace HO_3 := kb HO_3 hb; replace BK628 := bb BK628 hb; replace HB := Aside0.mk (below_step (beQ HB) hb); (try clear hb); (try clear hb2); (try clear hk); (try clear hi); (try clear hgw_)) | ((with_reducible refine gate_callee (f := 121) rfl ?_); refine goesL_ (some 25) rfl rfl Tryd.func121 (by kernel_rfl) rfl #[.int .i64 x9_1] rfl lz ?_; (with_reducible refine (impl_one.calls x9_1 t633 _ A10.out).mono ?_); rintro e w' ⟨rfl, ⟨nd, rfl⟩⟩; refine ⟨_, rfl, ?_⟩) | ((with_reducible refine gate_callee (f := 121) rfl ?_); refine goesL_ (some 27) rfl rfl Tryd.func121 (by kernel_rfl) rfl #[.int .i64 x5_2] rfl lz ?_; (with_reducible refine (impl_one.calls x5_2 t634 _ A11.out).mono ?_); rintro e w' ⟨rfl, ⟨nd, rfl⟩⟩; refine ⟨_, rfl, ?_⟩) | ((with_reducible refine gate_builtin (b := .append) (xs := #[.tmp 23, .tmp 29]) rfl ?_); at_builtin; refine Kd.R_append (Kd.int .i64) (w0 := w) w.heap.size rfl (.tmp 23) (.tmp 29) 24 2 (.int .i64 0) 8 rfl Tryd.underlying24 info2 rfl (by decide) (by omega) u3 x3_2 (Go.bits .or .i64 t633 t634) [.int .i64 (Go.bits .or .i64 t633 t634)] (fun _ => True) (fun _ => False) rfl rfl ?aP (fun _ hk => hk.elim) ?aF ?aO ?aB ?aS ?aL ?_; (case aP => exact rfl); (case aB => exact (beQ HB)); (case aF => exact (fun _ _ => trivial)); (case aO => exact (kdQ HO_3)); (case aS => exact (below_size (beQ HB))); (case aL => have := LMc12.out; omega); intro v636 w15 ho hb hg hat; rw [← Ny635.out] at ho; have n0_ := Aside0.mk (blk_grown (g := gb628) (o := .cells #[.int .i64 a0_0, .slice A0_1 l0_1.length c0_1] 26 (0, 0)) (blkQ BK628) hg (Kd.R_ne HO_3.out BK628.out (by decide))); have n1_ := Aside0.mk (hb); have n2_ := Aside0.mk (ho); clear BK628; clear HB; clear HO_3; have BK628 := n0_; have HB := n1_; have HO637 := n2_; clear n0_ n1_ n2_; clear ho hb hg hat))
         go_roundg k2
         case measure => have := HK1.out; have := HK2.out; omega
         case rel => exact ⟨(y635), (wrap64 (x5_2 + 1)), sz, H', ⟨by have := HK1.out; have := HK2.out; omega⟩, ⟨kdQ HO637⟩, ⟨blkQ BK628⟩, ⟨beQ HB⟩⟩
        ·rw [if_neg c12] at H
         exact absurd H (by simp)
       ·replace c9 := Bool.eq_false_iff.mpr c9
        subst c9
        have H1 : (impl_pairsOf.l1 k2 x3_2 x9_1 (wrap64 (x5_2 + 1)) a0_0 x9_1 a0_0 l0_1) = some r := by rw [if_neg (show ¬ (false = true) by decide)] at H; exact H
        clear H; have H := H1; clear H1
        have H' := Aside0.mk H
        clear H
        have hcz16_0 : wr.cell? ⟨gb628, 0, none⟩ = some (.int .i64 a0_0) := bc BK628 0
        have hcz16_1 : wr.cell? ⟨gb628, 1, none⟩ = some (.slice A0_1 l0_1.length c0_1) := bc BK628 1
        have hfz16_0 := blk_frozen BK628.out 0; have hfz16_1 := blk_frozen BK628.out 1
        go_wp2_with (first | ((with_reducible refine gate_callee (f := 130) rfl ?_); refine goesL_ (some 22) rfl rfl Tryd.func130 (by kernel_rfl) rfl #[.agg #[.int .i64 a0_0, .slice A0_1 l0_1.length c0_1], .int .i64 x9_1, .int .i64 x5_2] rfl lz ?_; (with_reducible refine (impl_depend.calls a0_0 _ _ l0_1 x9_1 x5_2 false _ ?side1 ?side2 A8.out).mono ?_); (case side1 => have q_ := Aside0.mk (Kd.C_below HR0_1.out HB.out); exact cQ q_); (case side2 => exact HC0_1.out); rintro e w17 ⟨rfl, hb⟩; refine ⟨_, rfl, ?_⟩; replace HO_3 := kb HO_3 hb; replace BK628 := bb BK628 hb; replace HB := Aside0.mk (below_step (beQ HB) hb); (try clear hb); (try clear hb2); (try clear hk); (try clear hi); (try clear hgw_)))
        go_roundg k2
        case measure => have := HK1.out; have := HK2.out; omega
        case rel => exact ⟨(x3_2), (wrap64 (x5_2 + 1)), sz, H', ⟨by have := HK1.out; have := HK2.out; omega⟩, ⟨kdQ HO_3⟩, ⟨blkQ BK628⟩, ⟨beQ HB⟩⟩
      ·rw [if_neg c7] at H
       have c7b0 : decide (x5_2 < a0_0) = false := decide_eq_false c7
       clear c7
       have H' := Aside0.mk H
       clear H
       have hcz18_0 : wr.cell? ⟨gb628, 0, none⟩ = some (.int .i64 a0_0) := bc BK628 0
       have hcz18_1 : wr.cell? ⟨gb628, 1, none⟩ = some (.slice A0_1 l0_1.length c0_1) := bc BK628 1
       have hfz18_0 := blk_frozen BK628.out 0; have hfz18_1 := blk_frozen BK628.out 1
       go_wp2
       go_roundg k2
       case measure => have := HK1.out; have := HK2.out; omega
       case rel => exact ⟨(x3_2), (wrap64 (x9_1 + 1)), sz, H', ⟨by have := HK1.out; have := HK2.out; omega⟩, ⟨kdQ HO_3⟩, ⟨blkQ BK628⟩, ⟨beQ HB⟩⟩
   ·rw [if_neg c6] at H
    have c6b0 : decide (x9_1 < a0_0) = false := decide_eq_false c6
    clear c6
    obtain rfl := Option.some.inj H
    go_wp2
    go_ret
    exact ⟨_, rz, kdQ HO_3, beQ HB⟩
def impl_projected.l0 : Nat → Int → List Int → List Int → Int → Int → Option (List Int)
 | 0, _, _, _, _, _ => none
 | k + 1, x1, x5, x9, x10, x11 => if x11 < x10 then (if 0 ≤ x11 then (if x11 < (x9.length : Int) then ((impl_has.f x1 (rd x9 x11)).bind fun t642 => (if t642 = true then (if x5.length < 17592186044416 then (impl_projected.l0 k x1 (x5 ++ [rd x9 x11]) x9 x10 (wrap64 (x11 + 1))) else (none)) else (impl_projected.l0 k x1 x5 x9 x10 (wrap64 (x11 + 1))))) else (none)) else (none)) else (some x5)
def impl_projected.f (k : Nat) (l0 : List Int) (a1 : Int) : Option (List Int) := impl_projected.l0 k a1 (([] : List Int)) l0 (l0.length : Int) 0
set_option maxHeartbeats 8000000 in
set_option maxRecDepth 100000 in
theorem impl_projected.calls (k : Nat) (A0 : Option Addr) (c0 : Nat) (l0 : List Int) (a1 : Int) (r : List Int) (w : World) (hr0 : Kd.C (Kd.int .i64) w A0 l0.length l0) (hc0 : l0.length ≤ c0) (h : impl_projected.f k l0 a1 = some r) :
  Calls Tryd.prog 90 #[.slice A0 l0.length c0, .int .i64 a1] w fun e w' => ∃ v0_ : Value, e = .returned (v0_) ∧ Kd.R (Kd.int .i64) 2 w' w.heap.size (fun _ => True) v0_ r ∧ Below w.heap.size w w' := by
 have HR0 := Aside0.mk hr0; have HC0 := Aside0.mk hc0; clear hr0 hc0; have HB := Aside0.mk (Below.refl w.heap.size w)
 have H : (impl_projected.l0 k a1 (([] : List Int)) l0 (l0.length : Int) 0) = some r := h
 clear h
 obtain ⟨y638, hy638⟩ : ∃ y_ : List Int, y_ = (([] : List Int)) := ⟨_, rfl⟩
 replace H : (impl_projected.l0 k a1 y638 l0 (l0.length : Int) 0) = some r := by first | (rw [hy638]; with_reducible exact H) | (have H2_ := (Option.bind_some _ _).symm.trans H; rw [hy638]; with_reducible exact H2_) | (have H2_ := (Option.bind_some _ _).symm.trans H; with_reducible exact H2_) | with_reducible exact H | (rw [hy638]; exact H) | exact H
 have Ny638 := Aside0.mk hy638; clear hy638
 have H' := Aside0.mk H
 clear H
 go_enter Tryd.func90, Tryd.ntmps90
 go_wp2_with (first | ((with_reducible refine gate_dst (N := 8) rfl ?_); refine Kd.R_lit (Kd.int .i64) _ 2 ?hg (N := 8) ?hd (xs := ([] : List Int)) (inner := []) (ok := fun _ => True) (okp := fun _ => True) ?hr ?hp (fun _ hk => hk) trivial (Below.refl _ _) (Nat.le_refl _) (by simp) ?_; (case hd => rfl); (case hg => rfl); (case hr => first | (go_simp; done) | (go_simp; rfl)); (case hp => exact (Reps.none _ _)); intro v639 w3 ho4 hb hg_ hnew_; clear hg_ hnew_; (first | rw [← Ny638.out] at ho4 | (simp only [Int.reduceToNat] at ho4; rw [← Ny638.out] at ho4)); have HO640 := Aside0.mk (Kd.R_lower ho4 (below_size (beQ HB))); replace HB := Aside0.mk (below_step (beQ HB) hb); clear hb ho4))
 go_loopg [5, 11] k (fun kq v5 v11 w' => ∃ (x5_1 : List Int) (x11_1 : Int), v11 = .int .i64 x11_1 ∧ Aside0 (impl_projected.l0 kq a1 x5_1 l0 (l0.length : Int) x11_1 = some r) ∧ Aside0 (kq ≤ k) ∧ Aside0 (Kd.R (Kd.int .i64) 2 w' w.heap.size (fun _ => True) v5 x5_1) ∧ Aside0 (Below w.heap.size w w'))
 case atStart => exact ⟨(y638), (0), sz, H', ⟨Nat.le_refl _⟩, ⟨kdQ HO640⟩, ⟨beQ HB⟩⟩
 case round =>
  clear H'
  try clear p2
  obtain ⟨x5_1, x11_1, rfl, HA, HK1, HO_5, HB⟩ := hrel
  cases gk with
  | zero => exact absurd HA.out (by simp [impl_projected.l0])
  | succ k1 =>
   have H := HA.out; clear HA
   simp only [impl_projected.l0] at H
   by_cases c5 : x11_1 < (l0.length : Int)
   ·rw [if_pos c5] at H
    have c5b0 : decide (x11_1 < (l0.length : Int)) = true := decide_eq_true c5
    clear c5
    by_cases c6 : 0 ≤ x11_1
    ·rw [if_pos c6] at H
     have c6b0 : decide (0 ≤ x11_1) = true := decide_eq_true c6
     clear c6
     by_cases c7 : x11_1 < (l0.length : Int)
     ·rw [if_pos c7] at H
      have c7b0 : decide (x11_1 < (l0.length : Int)) = true := decide_eq_true c7
      clear c7; replace H := Option.bind_eq_some_iff.mp H; obtain ⟨t642, A80, H⟩ := H
      replace H : (if t642 = true then (if x5_1.length < 17592186044416 then (impl_projected.l0 k1 a1 (x5_1 ++ [rd l0 x11_1]) l0 (l0.length : Int) (wrap64 (x11_1 + 1))) else (none)) else (impl_projected.l0 k1 a1 x5_1 l0 (l0.length : Int) (wrap64 (x11_1 + 1)))) = some r := H
      have A8 := Aside0.mk A80; clear A80
      by_cases c9 : t642 = true
      ·subst c9
       have H1 : (if x5_1.length < 17592186044416 then (impl_projected.l0 k1 a1 (x5_1 ++ [rd l0 x11_1]) l0 (l0.length : Int) (wrap64 (x11_1 + 1))) else (none)) = some r := by rw [if_pos rfl] at H; exact H
       clear H; have H := H1; clear H1
       by_cases c10 : x5_1.length < 17592186044416
       ·rw [if_pos c10] at H
        have LMc10 := Aside0.mk c10; clear c10
        obtain ⟨y643, hy643⟩ : ∃ y_ : List Int, y_ = (x5_1 ++ [rd l0 x11_1]) := ⟨_, rfl⟩
        replace H : (impl_projected.l0 k1 a1 y643 l0 (l0.length : Int) (wrap64 (x11_1 + 1))) = some r := by first | (rw [hy643]; with_reducible exact H) | (have H2_ := (Option.bind_some _ _).symm.trans H; rw [hy643]; with_reducible exact H2_) | (have H2_ := (Option.bind_some _ _).symm.trans H; with_reducible exact H2_) | with_reducible exact H | (rw [hy643]; exact H) | exact H
        have Ny643 := Aside0.mk hy643; clear hy643
        have H' := Aside0.mk H
        clear H
        have p641 : 0 ≤ (x11_1 : Int) := of_decide_eq_true (by first | (with_reducible assumption) | assumption)
        have q641 : x11_1 < (l0.length : Int) := of_decide_eq_true (by first | (with_reducible assumption) | assumption)
        obtain ⟨ad641, e641, hx641_0⟩ := Kd.at_int HR0.out x11_1 p641 q641; cases e641; replace hx641_0 := (HB.out.cell (World.block_lt_of_cell? w _ hx641_0)).trans hx641_0; replace p641 := eq_true p641; replace q641 := eq_true q641
        go_wp2_with (first | ((with_reducible refine gate_callee (f := 87) rfl ?_); refine goesL_ (some 17) rfl rfl Tryd.func87 (by kernel_rfl) rfl #[.int .i64 a1, .int .i64 (rd l0 x11_1)] rfl lz ?_; (with_reducible refine (impl_has.calls a1 (rd l0 x11_1) true _ A8.out).mono ?_); rintro e w' ⟨rfl, ⟨nd, rfl⟩⟩; refine ⟨_, rfl, ?_⟩) | ((with_reducible refine gate_builtin (b := .append) (xs := #[.tmp 18, .tmp 20]) rfl ?_); at_builtin; refine Kd.R_append (Kd.int .i64) (w0 := w) w.heap.size rfl (.tmp 18) (.tmp 20) 24 2 (.int .i64 0) 8 rfl Tryd.underlying24 info2 rfl (by decide) (by omega) u5 x5_1 (rd l0 x11_1) [.int .i64 (rd l0 x11_1)] (fun _ => True) (fun _ => False) rfl rfl ?aP (fun _ hk => hk.elim) ?aF ?aO ?aB ?aS ?aL ?_; (case aP => exact rfl); (case aB => exact (beQ HB)); (case aF => exact (fun _ _ => trivial)); (case aO => exact (kdQ HO_5)); (case aS => exact (below_size (beQ HB))); (case aL => have := LMc10.out; omega); intro v644 w11 ho hb hg hat; rw [← Ny643.out] at ho; have n0_ := Aside0.mk (hb); have n1_ := Aside0.mk (ho); clear HB; clear HO_5; have HB := n0_; have HO645 := n1_; clear n0_ n1_; clear ho hb hg hat))
        go_roundg k1
        case measure => have := HK1.out; omega
        case rel => exact ⟨(y643), (wrap64 (x11_1 + 1)), sz, H', ⟨by have := HK1.out; omega⟩, ⟨kdQ HO645⟩, ⟨beQ HB⟩⟩
       ·rw [if_neg c10] at H
        exact absurd H (by simp)
      ·replace c9 := Bool.eq_false_iff.mpr c9
       subst c9
       have H1 : (impl_projected.l0 k1 a1 x5_1 l0 (l0.length : Int) (wrap64 (x11_1 + 1))) = some r := by rw [if_neg (show ¬ (false = true) by decide)] at H; exact H
       clear H; have H := H1; clear H1
       have H' := Aside0.mk H
       clear H
       have p641 : 0 ≤ (x11_1 : Int) := of_decide_eq_true (by first | (with_reducible assumption) | assumption)
       have q641 : x11_1 < (l0.length : Int) := of_decide_eq_true (by first | (with_reducible assumption) | assumption)
       obtain ⟨ad641, e641, hx641_0⟩ := Kd.at_int HR0.out x11_1 p641 q641; cases e641; replace hx641_0 := (HB.out.cell (World.block_lt_of_cell? w _ hx641_0)).trans hx641_0; replace p641 := eq_true p641; replace q641 := eq_true q641
       go_wp2_with (first | ((with_reducible refine gate_callee (f := 87) rfl ?_); refine goesL_ (some 17) rfl rfl Tryd.func87 (by kernel_rfl) rfl #[.int .i64 a1, .int .i64 (rd l0 x11_1)] rfl lz ?_; (with_reducible refine (impl_has.calls a1 (rd l0 x11_1) false _ A8.out).mono ?_); rintro e w' ⟨rfl, ⟨nd, rfl⟩⟩; refine ⟨_, rfl, ?_⟩))
       go_roundg k1
       case measure => have := HK1.out; omega
       case rel => exact ⟨(x5_1), (wrap64 (x11_1 + 1)), sz, H', ⟨by have := HK1.out; omega⟩, ⟨kdQ HO_5⟩, ⟨beQ HB⟩⟩
     ·rw [if_neg c7] at H
      exact absurd H (by simp)
    ·rw [if_neg c6] at H
     exact absurd H (by simp)
   ·rw [if_neg c5] at H
    have c5b0 : decide (x11_1 < (l0.length : Int)) = false := decide_eq_false c5
    clear c5
    obtain rfl := Option.some.inj H
    go_wp2
    go_ret
    exact ⟨_, rz, kdQ HO_5, beQ HB⟩
def impl_pairProjections.l0 : Nat → List Int → List (List Int) → List Int → Int → Int → Option ((List (List Int)))
 | 0, _, _, _, _, _ => none
 | k + 1, x1, x5, x10, x11, x12 => if x12 < x11 then (if 0 ≤ x12 then (if x12 < (x10.length : Int) then ((impl_projected.f k x1 (rd x10 x12)).bind fun t654 => (if x5.length < 5864062014805 then (impl_pairProjections.l0 k x1 (x5 ++ [t654]) x10 x11 (wrap64 (x12 + 1))) else (none))) else (none)) else (none)) else (some x5)
def impl_pairProjections.f (k : Nat) (a0_0 : Int) (l0_1 : List Int) (l1 : List Int) : Option ((List (List Int))) := (impl_pairsOf.f k a0_0 l0_1).bind fun t650 => (impl_pairProjections.l0 k l1 (([] : List (List Int))) t650 (t650.length : Int) 0)
set_option maxHeartbeats 8000000 in
set_option maxRecDepth 100000 in
theorem impl_pairProjections.calls (k : Nat) (a0_0 : Int) (A0_1 : Option Addr) (c0_1 : Nat) (l0_1 : List Int) (A1 : Option Addr) (c1 : Nat) (l1 : List Int) (r : List (List Int)) (w : World) (hr0_1 : Kd.C (Kd.int .i64) w A0_1 l0_1.length l0_1) (hc0_1 : l0_1.length ≤ c0_1) (hr1 : Kd.C (Kd.int .i64) w A1 l1.length l1) (hc1 : l1.length ≤ c1) (h : impl_pairProjections.f k a0_0 l0_1 l1 = some r) :
  Calls Tryd.prog 72 #[.agg #[.int .i64 a0_0, .slice A0_1 l0_1.length c0_1], .slice A1 l1.length c1] w fun e w' => ∃ v0_ : Value, e = .returned (v0_) ∧ Kd.S (Kd.slice 2 (Kd.int .i64)) 24 w' w.heap.size (fun _ => True) v0_ r ∧ Below w.heap.size w w' := by
 have hu26 := Tryd.underlying26; have HR0_1 := Aside0.mk hr0_1; have HC0_1 := Aside0.mk hc0_1; clear hr0_1 hc0_1; have HR1 := Aside0.mk hr1; have HC1 := Aside0.mk hc1; clear hr1 hc1; have HB := Aside0.mk (Below.refl w.heap.size w)
 have H : ((impl_pairsOf.f k a0_0 l0_1).bind fun t650 => (impl_pairProjections.l0 k l1 (([] : List (List Int))) t650 (t650.length : Int) 0)) = some r := h
 clear h
 obtain ⟨y647, hy647⟩ : ∃ y_ : List (List Int), y_ = (([] : List (List Int))) := ⟨_, rfl⟩
 replace H : ((impl_pairsOf.f k a0_0 l0_1).bind fun t650 => (impl_pairProjections.l0 k l1 y647 t650 (t650.length : Int) 0)) = some r := by first | (rw [hy647]; with_reducible exact H) | (have H2_ := (Option.bind_some _ _).symm.trans H; rw [hy647]; with_reducible exact H2_) | (have H2_ := (Option.bind_some _ _).symm.trans H; with_reducible exact H2_) | with_reducible exact H | (rw [hy647]; exact H) | exact H
 have Ny647 := Aside0.mk hy647; clear hy647; replace H := Option.bind_eq_some_iff.mp H; obtain ⟨t650, A30, H⟩ := H
 replace H : (impl_pairProjections.l0 k l1 y647 t650 (t650.length : Int) 0) = some r := H
 have A3 := Aside0.mk A30; clear A30
 have H' := Aside0.mk H
 clear H
 go_enter Tryd.func72, Tryd.ntmps72
 go_wp2_with (first | ((with_reducible refine gate_dst (N := 2) rfl ?_); refine box_event ?hg (N := 2) ?hd (cs := #[.int .i64 a0_0, .slice A0_1 l0_1.length c0_1]) (t := 26) ?hr ?_; (case hd => rfl); (case hg => rfl); (case hr => first | (go_simp; done) | (go_simp; rfl)); intro gb646 hg w4 hbox hb; have BK646 := Aside0.mk (hbox); have GW646 := Aside0.mk ((by rw [hg]; exact (below_size (beQ HB)) : w.heap.size ≤ gb646)); have GE646 := Aside0.mk ((by rw [hg]; exact (below_size (beQ HB)) : w.heap.size ≤ gb646)); replace HB := Aside0.mk (below_step (beQ HB) hb); clear hb hbox hg) | ((with_reducible refine gate_dst (N := 8) rfl ?_); refine Kd.S_lit (Kd.slice 2 (Kd.int .i64)) _ 24 ?hg (N := 8) ?hd (xs := ([] : List (List Int))) (inner := []) (ok := fun _ => True) (okp := fun _ => True) ?hr ?hp (fun _ hk => hk) trivial (Below.refl _ _) (Nat.le_refl _) (by simp) ?_; (case hd => rfl); (case hg => rfl); (case hr => first | (go_simp; done) | (go_simp; rfl)); (case hp => exact (Reps.none _ _)); intro v648 w5 ho6 hb hg_ hnew_; clear hg_ hnew_; (first | rw [← Ny647.out] at ho6 | (simp only [Int.reduceToNat] at ho6; rw [← Ny647.out] at ho6)); have HO649 := Aside0.mk (Kd.S_lower ho6 (below_size (beQ HB))); replace BK646 := bb BK646 hb; replace HB := Aside0.mk (below_step (beQ HB) hb); clear hb ho6; have hcz7_0 : w5.cell? ⟨gb646, 0, none⟩ = some (.int .i64 a0_0) := bc BK646 0; have hcz7_1 : w5.cell? ⟨gb646, 1, none⟩ = some (.slice A0_1 l0_1.length c0_1) := bc BK646 1; have hfz7_0 := blk_frozen BK646.out 0; have hfz7_1 := blk_frozen BK646.out 1) | ((with_reducible refine gate_callee (f := 82) rfl ?_); refine goesL_ (some 10) rfl rfl Tryd.func82 (by kernel_rfl) rfl #[.agg #[.int .i64 a0_0, .slice A0_1 l0_1.length c0_1]] rfl lz ?_; (with_reducible refine (impl_pairsOf.calls k a0_0 _ _ l0_1 t650 _ ?side1 ?side2 A3.out).mono ?_); (case side1 => have q_ := Aside0.mk (Kd.C_below HR0_1.out HB.out); exact cQ q_); (case side2 => exact HC0_1.out); rintro e w8 ⟨v651, rfl, ho0, hb⟩; refine ⟨_, rfl, ?_⟩; replace HO649 := Aside0.mk (Kd.S_elder' (by (with_reducible repeat (first | apply Kd.S_alloc | apply Kd.S_drewN | apply Kd.S_drew)); exact HO649.out) (Kd.R_base ho0) hb); have HO652 := Aside0.mk (Kd.R_lower ho0 (below_size (beQ HB))); replace BK646 := bb BK646 hb; replace HB := Aside0.mk (below_step (beQ HB) hb); (try clear hb); (try clear hb2); (try clear hk); (try clear hi); (try clear hgw_); (try clear ho0); obtain ⟨Ao9, co9, eo9⟩ := Kd.R_slice HO652.out; subst eo9))
 go_loopg [5, 12] k (fun kq v5 v12 w' => ∃ (x5_1 : List (List Int)) (x12_1 : Int), v12 = .int .i64 x12_1 ∧ Aside0 (impl_pairProjections.l0 kq l1 x5_1 t650 (t650.length : Int) x12_1 = some r) ∧ Aside0 (kq ≤ k) ∧ Aside0 (Kd.S (Kd.slice 2 (Kd.int .i64)) 24 w' w.heap.size (fun k_ => some k_ ≠ ((.slice Ao9 t650.length co9) : Value).ownBlock) v5 x5_1) ∧ Aside0 (Kd.R (Kd.int .i64) 2 w' w.heap.size (fun _ => True) (.slice Ao9 t650.length co9) t650) ∧ Aside0 (w'.heap[gb646]? = some (.cells #[.int .i64 a0_0, (.slice A0_1 l0_1.length c0_1)] 26 (0, 0))) ∧ Aside0 (Below w.heap.size w w'))
 case atStart => exact ⟨(y647), (0), sz, H', ⟨Nat.le_refl _⟩, ⟨by (with_reducible repeat (first | apply Kd.S_alloc | apply Kd.S_drewN | apply Kd.S_drew)); exact Kd.S_mono HO649.out (fun _ hk => hk.2)⟩, ⟨kdQ HO652⟩, ⟨blkQ BK646⟩, ⟨beQ HB⟩⟩
 case round =>
  clear H'
  try clear c1
  try clear p2
  try clear c7
  try clear c8
  try clear hcz7_0
  try clear hcz7_1
  try clear hfz7_0
  try clear hfz7_1
  obtain ⟨x5_1, x12_1, rfl, HA, HK1, HO_5, HO_10, BK646, HB⟩ := hrel
  cases gk with
  | zero => exact absurd HA.out (by simp [impl_pairProjections.l0])
  | succ k1 =>
   have H := HA.out; clear HA
   simp only [impl_pairProjections.l0] at H
   by_cases c10 : x12_1 < (t650.length : Int)
   ·rw [if_pos c10] at H
    have c10b0 : decide (x12_1 < (t650.length : Int)) = true := decide_eq_true c10
    clear c10
    by_cases c11 : 0 ≤ x12_1
    ·rw [if_pos c11] at H
     have c11b0 : decide (0 ≤ x12_1) = true := decide_eq_true c11
     clear c11
     by_cases c12 : x12_1 < (t650.length : Int)
     ·rw [if_pos c12] at H
      have c12b0 : decide (x12_1 < (t650.length : Int)) = true := decide_eq_true c12
      clear c12; replace H := Option.bind_eq_some_iff.mp H; obtain ⟨t654, A130, H⟩ := H
      replace H : (if x5_1.length < 5864062014805 then (impl_pairProjections.l0 k1 l1 (x5_1 ++ [t654]) t650 (t650.length : Int) (wrap64 (x12_1 + 1))) else (none)) = some r := H
      have A13 := Aside0.mk A130; clear A130
      by_cases c14 : x5_1.length < 5864062014805
      ·rw [if_pos c14] at H
       have LMc14 := Aside0.mk c14; clear c14
       obtain ⟨y657, hy657⟩ : ∃ y_ : List (List Int), y_ = (x5_1 ++ [t654]) := ⟨_, rfl⟩
       replace H : (impl_pairProjections.l0 k1 l1 y657 t650 (t650.length : Int) (wrap64 (x12_1 + 1))) = some r := by first | (rw [hy657]; with_reducible exact H) | (have H2_ := (Option.bind_some _ _).symm.trans H; rw [hy657]; with_reducible exact H2_) | (have H2_ := (Option.bind_some _ _).symm.trans H; with_reducible exact H2_) | with_reducible exact H | (rw [hy657]; exact H) | exact H
       have Ny657 := Aside0.mk hy657; clear hy657
       have H' := Aside0.mk H
       clear H
       have p653 : 0 ≤ (x12_1 : Int) := of_decide_eq_true (by first | (with_reducible assumption) | assumption)
       have q653 : x12_1 < (t650.length : Int) := of_decide_eq_true (by first | (with_reducible assumption) | assumption)
       obtain ⟨ad653, e653, hx653_0⟩ := Kd.at_int (Kd.R_reads' HO_10.out).2.2 x12_1 p653 q653; cases e653; replace p653 := eq_true p653; replace q653 := eq_true q653
       go_wp2_with (first | ((with_reducible refine gate_callee (f := 90) rfl ?_); refine goesL_ (some 19) rfl rfl Tryd.func90 (by kernel_rfl) rfl #[.slice A1 l1.length c1, .int .i64 (rd t650 x12_1)] rfl lz ?_; (with_reducible refine (impl_projected.calls k1 _ _ l1 (rd t650 x12_1) t654 _ ?side1 ?side2 A13.out).mono ?_); (case side1 => have q_ := Aside0.mk (Kd.C_below HR1.out HB.out); exact cQ q_); (case side2 => exact HC1.out); rintro e w15 ⟨v655, rfl, ho0, hb⟩; refine ⟨_, rfl, ?_⟩; replace HO_5 := Aside0.mk (Kd.S_elder' (by (with_reducible repeat (first | apply Kd.S_alloc | apply Kd.S_drewN | apply Kd.S_drew)); exact HO_5.out) (Kd.R_base ho0) hb); have HO656 := Aside0.mk (Kd.R_lower (Kd.R_new' ho0 (Kd.R_lt (kdQ HO_10))) (below_size (beQ HB))); replace HO_10 := Aside0.mk (Kd.R_elder' (kdQ HO_10) (Kd.R_base ho0) hb); replace BK646 := bb BK646 hb; replace HB := Aside0.mk (below_step (beQ HB) hb); (try clear hb); (try clear hb2); (try clear hk); (try clear hi); (try clear hgw_); (try clear ho0); obtain ⟨Ao17, co17, eo17⟩ := Kd.R_slice HO656.out; subst eo17) | ((with_reducible refine gate_builtin (b := .append) (xs := #[.tmp 16, .tmp 20]) rfl ?_); at_builtin; refine Kd.S_append (Kd.slice 2 (Kd.int .i64)) (w0 := w) w.heap.size rfl (.tmp 16) (.tmp 20) 42 24 (.slice none 0 0) 24 rfl Tryd.underlying42 info24 rfl (by decide) (by omega) u5 x5_1 t654 [.slice Ao17 t654.length co17] (fun k_ => some k_ ≠ (.slice (some ad653) t650.length co9 : Value).ownBlock) (fun k_ => some k_ = (.slice Ao17 t654.length co17 : Value).ownBlock) rfl rfl ?aP (fun k_ hk_ => ((Kd.R_mono (ok' := fun k_ => ((fun k_ => some k_ ≠ (.slice (some ad653) t650.length co9 : Value).ownBlock)) k_ ∧ some k_ ≠ (u5 : Value).ownBlock) (Kd.R_apart' (HO656.out) (Kd.S_typed HO_5.out) (by decide)) (fun k_ hk => ⟨hk.1.2, hk.2⟩))).1 k_ hk_.symm) ?aF ?aO ?aB ?aS ?aL ?_; (case aP => exact Kd.M_row (Kd.R_mono (Kd.R_tight rfl (Kd.R_mono (ok' := fun k_ => ((fun k_ => some k_ ≠ (.slice (some ad653) t650.length co9 : Value).ownBlock)) k_ ∧ some k_ ≠ (u5 : Value).ownBlock) (Kd.R_apart' (HO656.out) (Kd.S_typed HO_5.out) (by decide)) (fun k_ hk => ⟨hk.1.2, hk.2⟩))) (fun _ h_ => h_))); (case aB => exact (beQ HB)); (case aF => exact (fun k_ hk => Kd.fresh' (Kd.R_lt (kdQ HO_10)) k_ hk)); (case aO => exact (by (with_reducible repeat (first | apply Kd.S_alloc | apply Kd.S_drewN | apply Kd.S_drew)); exact Kd.S_mono HO_5.out (fun k_ hk => ⟨hk.1, fun e_ => hk.2 e_⟩))); (case aS => exact (below_size (beQ HB))); (case aL => have := LMc14.out; omega); intro v658 w16 ho hb hg hat; rw [← Ny657.out] at ho; have n0_ := Aside0.mk (Kd.R_over' (kdQ HO_10) (Kd.S_typed (by (with_reducible repeat (first | apply Kd.S_alloc | apply Kd.S_drewN | apply Kd.S_drew)); exact HO_5.out)) (by decide) hg); have n1_ := Aside0.mk (blk_grown (g := gb646) (o := .cells #[.int .i64 a0_0, .slice A0_1 l0_1.length c0_1] 26 (0, 0)) (blkQ BK646) hg (Kd.S_ne HO_5.out BK646.out (by decide))); have n2_ := Aside0.mk (hb); have n3_ := Aside0.mk (ho); clear HO_10; clear BK646; clear HB; clear HO_5; clear HO656; have HO_10 := n0_; have BK646 := n1_; have HB := n2_; have HO659 := n3_; clear n0_ n1_ n2_ n3_; clear ho hb hg hat))
       go_roundg k1
       case measure => have := HK1.out; omega
       case rel => exact ⟨(y657), (wrap64 (x12_1 + 1)), sz, H', ⟨by have := HK1.out; omega⟩, ⟨by (with_reducible repeat (first | apply Kd.S_alloc | apply Kd.S_drewN | apply Kd.S_drew)); exact HO659.out⟩, ⟨by (with_reducible repeat (first | apply Kd.R_alloc | apply Kd.R_drewN | apply Kd.R_drew)); exact Kd.R_mono HO_10.out (fun _ hk => trivial)⟩, ⟨blkQ BK646⟩, ⟨beQ HB⟩⟩
      ·rw [if_neg c14] at H
       exact absurd H (by simp)
     ·rw [if_neg c12] at H
      exact absurd H (by simp)
    ·rw [if_neg c11] at H
     exact absurd H (by simp)
   ·rw [if_neg c10] at H
    have c10b0 : decide (x12_1 < (t650.length : Int)) = false := decide_eq_false c10
    clear c10
    obtain rfl := Option.some.inj H
    go_wp2
    go_ret
    exact ⟨_, rz, by (with_reducible repeat (first | apply Kd.S_alloc | apply Kd.S_drewN | apply Kd.S_drew)); exact Kd.S_mono HO_5.out (fun _ hk => trivial), beQ HB⟩
def impl_PairProjections.f (k : Nat) (a0_0 : Int) (l0_1 : List Int) (l1 : List Int) : Option ((List (List Int)) × Int) := (impl_checkWords.f k a0_0 l0_1 (([l1] : List (List Int)))).bind fun t664 => (if t664 = 0 then ((impl_pairProjections.f k a0_0 l0_1 l1).bind fun t665 => (some (t665, 0))) else (some (([] : List (List Int)), t664)))
set_option maxHeartbeats 8000000 in
set_option maxRecDepth 100000 in
theorem impl_PairProjections.calls (k : Nat) (a0_0 : Int) (A0_1 : Option Addr) (c0_1 : Nat) (l0_1 : List Int) (P1_ : Nat → Prop) (A1 : Option Addr) (c1 : Nat) (l1 : List Int) (r1 : List (List Int)) (r2 : Int) (w : World) (hr0_1 : Kd.C (Kd.int .i64) w A0_1 l0_1.length l0_1) (hc0_1 : l0_1.length ≤ c0_1) (hs1 : Kd.V (Kd.int .i64) 2 w w.heap.size (fun k_ => P1_ k_) (.slice A1 l1.length c1) l1) (hT : TabW w) (h : impl_PairProjections.f k a0_0 l0_1 l1 = some (r1, r2)) :
  Calls Tryd.prog 24 #[.agg #[.int .i64 a0_0, .slice A0_1 l0_1.length c0_1], .slice A1 l1.length c1] w fun e w' => ∃ v0_ : Value, e = .returned (.tuple #[v0_, .int .i64 r2]) ∧ Kd.N (Kd.slice 2 (Kd.int .i64)) 24 w' w.heap.size (fun k_ => (P1_ k_ ∨ w.heap.size ≤ k_)) v0_ r1 ∧ Below w.heap.size w w' := by
 have hu26 := Tryd.underlying26; have HT := Aside0.mk hT; clear hT; have HR0_1 := Aside0.mk hr0_1; have HC0_1 := Aside0.mk hc0_1; clear hr0_1 hc0_1; have HO1 := Aside0.mk (show Kd.V (Kd.int .i64) 2 w w.heap.size (fun k_ => (P1_ k_ ∨ w.heap.size ≤ k_)) (.slice A1 l1.length c1) l1 from Kd.V_mono hs1 (fun k_ hk => .inl hk)); have HB := Aside0.mk (Below.refl w.heap.size w)
 have H : ((impl_checkWords.f k a0_0 l0_1 (([l1] : List (List Int)))).bind fun t664 => (if t664 = 0 then ((impl_pairProjections.f k a0_0 l0_1 l1).bind fun t665 => (some (t665, 0))) else (some (([] : List (List Int)), t664)))) = some (r1, r2) := h
 clear h
 obtain ⟨y661, hy661⟩ : ∃ y_ : List (List Int), y_ = (([l1] : List (List Int))) := ⟨_, rfl⟩
 replace H : ((impl_checkWords.f k a0_0 l0_1 y661).bind fun t664 => (if t664 = 0 then ((impl_pairProjections.f k a0_0 l0_1 l1).bind fun t665 => (some (t665, 0))) else (some (([] : List (List Int)), t664)))) = some (r1, r2) := by first | (rw [hy661]; with_reducible exact H) | (have H2_ := (Option.bind_some _ _).symm.trans H; rw [hy661]; with_reducible exact H2_) | (have H2_ := (Option.bind_some _ _).symm.trans H; with_reducible exact H2_) | with_reducible exact H | (rw [hy661]; exact H) | exact H
 have Ny661 := Aside0.mk hy661; clear hy661; replace H := Option.bind_eq_some_iff.mp H; obtain ⟨t664, A30, H⟩ := H
 replace H : (if t664 = 0 then ((impl_pairProjections.f k a0_0 l0_1 l1).bind fun t665 => (some (t665, 0))) else (some (([] : List (List Int)), t664))) = some (r1, r2) := H
 have A3 := Aside0.mk A30; clear A30
 by_cases c4 : t664 = 0
 ·rw [if_pos c4] at H
  have c4b0 : (t664 == 0) = true := beq_iff_eq.mpr c4
  have c4b1 : (t664 != 0) = false := bne_eq_false_iff_eq.mpr c4
  clear c4; replace H := Option.bind_eq_some_iff.mp H; obtain ⟨t665, A50, H⟩ := H
  replace H : (some (t665, 0)) = some (r1, r2) := H
  have A5 := Aside0.mk A50; clear A50
  simp only [Option.some.injEq, Prod.mk.injEq] at H
  obtain ⟨rfl, rfl⟩ := H
  go_enter Tryd.func24, Tryd.ntmps24
  go_wp2_with (first | ((with_reducible refine gate_dst (N := 2) rfl ?_); refine box_event ?hg (N := 2) ?hd (cs := #[.int .i64 a0_0, .slice A0_1 l0_1.length c0_1]) (t := 26) ?hr ?_; (case hd => rfl); (case hg => rfl); (case hr => first | (go_simp; done) | (go_simp; rfl)); intro gb660 hg w6 hbox hb; replace HO1 := Aside0.mk (Kd.V_below (Kd.V_elderB (by (with_reducible repeat (first | apply Kd.V_alloc | apply Kd.V_drewN | apply Kd.V_drew)); exact HO1.out) gb660 (Nat.le_of_eq hg.symm)) hb); have BK660 := Aside0.mk (hbox); have GW660 := Aside0.mk ((by rw [hg]; exact (below_size (beQ HB)) : w.heap.size ≤ gb660)); have GE660 := Aside0.mk ((by rw [hg]; exact (below_size (beQ HB)) : w.heap.size ≤ gb660)); replace HB := Aside0.mk (below_step (beQ HB) hb); clear hb hbox hg; have hcz7_0 : w6.cell? ⟨gb660, 0, none⟩ = some (.int .i64 a0_0) := bc BK660 0; have hcz7_1 : w6.cell? ⟨gb660, 1, none⟩ = some (.slice A0_1 l0_1.length c0_1) := bc BK660 1; have hfz7_0 := blk_frozen BK660.out 0; have hfz7_1 := blk_frozen BK660.out 1) | ((with_reducible refine gate_dst (N := 9) rfl ?_); refine Kd.N_lit (Kd.slice 2 (Kd.int .i64)) _ 24 ?hg (N' := 9) ?hd (xs := ([l1] : List (List Int))) (inner := [.slice A1 l1.length c1]) (ok := (fun k_ => (P1_ k_ ∨ w.heap.size ≤ k_) ∧ k_ ≠ gb660)) (okp := (fun k_ => (P1_ k_ ∨ w.heap.size ≤ k_) ∧ k_ ≠ gb660)) ?hr ?hp (fun _ hk => hk) ((show ∀ k_, w6.heap.size ≤ k_ → (fun k_ => (P1_ k_ ∨ w.heap.size ≤ k_) ∧ k_ ≠ gb660) k_ from fun k_ hk => ⟨(.inr (Nat.le_trans (below_size (beQ HB)) hk)), Kd.freshB (g := gb660) (o := .cells #[.int .i64 a0_0, .slice A0_1 l0_1.length c0_1] 26 (0, 0)) (blkQ BK660) k_ hk⟩) _ (Nat.le_refl _)) (Below.refl _ _) (Nat.le_refl _) (by simp) ?_; (case hd => rfl); (case hg => rfl); (case hr => first | (go_simp; done) | (go_simp; rfl)); (case hp => exact (Reps.one (show Kd.FK (Kd.slice 2 (Kd.int .i64)) _ _ l1 [.slice A1 l1.length c1] from (Kd.FK_slice_mk (Kd.V_reads' (Kd.V_mono (ok' := (fun k_ => (P1_ k_ ∨ w.heap.size ≤ k_) ∧ k_ ≠ gb660)) (HO1.out) (fun k_ hk => ⟨hk.1, hk.2⟩))).2.1 (Kd.V_F (Kd.V_mono (ok' := (fun k_ => (P1_ k_ ∨ w.heap.size ≤ k_) ∧ k_ ≠ gb660)) (HO1.out) (fun k_ hk => ⟨hk.1, hk.2⟩))))) (Reps.none _ _))); intro v662 w8 ho9 hb hg_ hnew_; clear hg_ hnew_; (first | rw [← Ny661.out] at ho9 | (simp only [Int.reduceToNat] at ho9; rw [← Ny661.out] at ho9)); replace HO1 := Aside0.mk (Kd.V_elder' (by (with_reducible repeat (first | apply Kd.V_alloc | apply Kd.V_drewN | apply Kd.V_drew)); exact HO1.out) (Kd.N_base ho9) hb); have HO663 := Aside0.mk (Kd.N_lower ho9 (below_size (beQ HB))); replace BK660 := bb BK660 hb; replace HB := Aside0.mk (below_step (beQ HB) hb); clear hb ho9; obtain ⟨Ao10, co10, eo10⟩ := Kd.N_slice HO663.out; subst eo10) | ((with_reducible refine gate_callee (f := 57) rfl ?_); refine goesL_ (some 10) rfl rfl Tryd.func57 (by kernel_rfl) rfl #[.agg #[.int .i64 a0_0, .slice A0_1 l0_1.length c0_1], .slice Ao10 y661.length co10] rfl lz ?_; (with_reducible refine (impl_checkWords.calls k a0_0 _ _ l0_1 _ _ y661 t664 _ ?side1 ?side2 ?side3 ?side4 ?side5 A3.out).mono ?_); (case side1 => have q_ := Aside0.mk (Kd.C_below HR0_1.out HB.out); exact cQ q_); (case side2 => exact HC0_1.out); (case side3 => have q_ := Aside0.mk (Kd.N_reads' HO663.out).2.2; exact cQ q_); (case side4 => exact (Kd.N_reads' HO663.out).2.1); (case side5 => exact TabW.below HT.out (beQ HB)); rintro e w11 ⟨rfl, hb⟩; refine ⟨_, rfl, ?_⟩; replace HO1 := Aside0.mk (Kd.V_below (by (with_reducible repeat (first | apply Kd.V_alloc | apply Kd.V_drewN | apply Kd.V_drew)); exact HO1.out) hb); replace HO663 := Aside0.mk (Kd.N_below (by (with_reducible repeat (first | apply Kd.N_alloc | apply Kd.N_drewN | apply Kd.N_drew)); exact HO663.out) hb); replace BK660 := bb BK660 hb; replace HB := Aside0.mk (below_step (beQ HB) hb); (try clear hb); (try clear hb2); (try clear hk); (try clear hi); (try clear hgw_); have hcz12_0 : w11.cell? ⟨gb660, 0, none⟩ = some (.int .i64 a0_0) := bc BK660 0; have hcz12_1 : w11.cell? ⟨gb660, 1, none⟩ = some (.slice A0_1 l0_1.length c0_1) := bc BK660 1; have hfz12_0 := blk_frozen BK660.out 0; have hfz12_1 := blk_frozen BK660.out 1) | ((with_reducible refine gate_callee (f := 72) rfl ?_); refine goesL_ (some 16) rfl rfl Tryd.func72 (by kernel_rfl) rfl #[.agg #[.int .i64 a0_0, .slice A0_1 l0_1.length c0_1], .slice A1 l1.length c1] rfl lz ?_; (with_reducible refine (impl_pairProjections.calls k a0_0 _ _ l0_1 _ _ l1 t665 _ ?side1 ?side2 ?side3 ?side4 A5.out).mono ?_); (case side1 => have q_ := Aside0.mk (Kd.C_below HR0_1.out HB.out); exact cQ q_); (case side2 => exact HC0_1.out); (case side3 => have q_ := Aside0.mk (Kd.V_reads' HO1.out).2.2; exact cQ q_); (case side4 => exact (Kd.V_reads' HO1.out).2.1); rintro e w13 ⟨v666, rfl, ho0, hb⟩; refine ⟨_, rfl, ?_⟩; replace HO1 := Aside0.mk (Kd.V_elder' (by (with_reducible repeat (first | apply Kd.V_alloc | apply Kd.V_drewN | apply Kd.V_drew)); exact HO1.out) (Kd.N_base (Kd.S_N ho0)) hb); have HO667 := Aside0.mk (Kd.N_lower (Kd.N_mono (ok' := fun k_ => (P1_ k_ ∨ w.heap.size ≤ k_) ∧ some k_ ≠ (.slice Ao10 y661.length co10 : Value).ownBlock ∧ k_ ≠ gb660) (Kd.S_N (Kd.S_bound ho0)) (fun k_ hk_ => ⟨(.inr (Nat.le_trans (below_size (beQ HB)) hk_.2.1)), (Kd.fresh' (Kd.N_lt (by (with_reducible repeat (first | apply Kd.N_alloc | apply Kd.N_drewN | apply Kd.N_drew)); exact HO663.out)) k_ hk_.2.1), (Kd.freshB (g := gb660) (o := .cells #[.int .i64 a0_0, .slice A0_1 l0_1.length c0_1] 26 (0, 0)) (blkQ BK660) k_ hk_.2.1)⟩)) (below_size (beQ HB))); replace HO663 := Aside0.mk (Kd.N_elder' (by (with_reducible repeat (first | apply Kd.N_alloc | apply Kd.N_drewN | apply Kd.N_drew)); exact HO663.out) (Kd.N_base (Kd.S_N ho0)) hb); replace BK660 := bb BK660 hb; replace HB := Aside0.mk (below_step (beQ HB) hb); (try clear hb); (try clear hb2); (try clear hk); (try clear hi); (try clear hgw_); (try clear ho0)))
  go_ret2
  exact ⟨_, rz, by (with_reducible repeat (first | apply Kd.N_alloc | apply Kd.N_drewN | apply Kd.N_drew)); exact Kd.N_mono HO667.out (fun _ hk => hk.1), beQ HB⟩
 ·rw [if_neg c4] at H
  have c4b0 : (t664 == 0) = false := beq_eq_false_iff_ne.mpr c4
  have c4b1 : (t664 != 0) = true := bne_iff_ne.mpr c4
  simp only [Option.some.injEq, Prod.mk.injEq] at H
  obtain ⟨rfl, rfl⟩ := H
  go_enter Tryd.func24, Tryd.ntmps24
  go_wp2_with (first | ((with_reducible refine gate_dst (N := 2) rfl ?_); refine box_event ?hg (N := 2) ?hd (cs := #[.int .i64 a0_0, .slice A0_1 l0_1.length c0_1]) (t := 26) ?hr ?_; (case hd => rfl); (case hg => rfl); (case hr => first | (go_simp; done) | (go_simp; rfl)); intro gb660 hg w14 hbox hb; replace HO1 := Aside0.mk (Kd.V_below (Kd.V_elderB (by (with_reducible repeat (first | apply Kd.V_alloc | apply Kd.V_drewN | apply Kd.V_drew)); exact HO1.out) gb660 (Nat.le_of_eq hg.symm)) hb); have BK660 := Aside0.mk (hbox); have GW660 := Aside0.mk ((by rw [hg]; exact (below_size (beQ HB)) : w.heap.size ≤ gb660)); have GE660 := Aside0.mk ((by rw [hg]; exact (below_size (beQ HB)) : w.heap.size ≤ gb660)); replace HB := Aside0.mk (below_step (beQ HB) hb); clear hb hbox hg; have hcz15_0 : w14.cell? ⟨gb660, 0, none⟩ = some (.int .i64 a0_0) := bc BK660 0; have hcz15_1 : w14.cell? ⟨gb660, 1, none⟩ = some (.slice A0_1 l0_1.length c0_1) := bc BK660 1; have hfz15_0 := blk_frozen BK660.out 0; have hfz15_1 := blk_frozen BK660.out 1) | ((with_reducible refine gate_dst (N := 9) rfl ?_); refine Kd.N_lit (Kd.slice 2 (Kd.int .i64)) _ 24 ?hg (N' := 9) ?hd (xs := ([l1] : List (List Int))) (inner := [.slice A1 l1.length c1]) (ok := (fun k_ => (P1_ k_ ∨ w.heap.size ≤ k_) ∧ k_ ≠ gb660)) (okp := (fun k_ => (P1_ k_ ∨ w.heap.size ≤ k_) ∧ k_ ≠ gb660)) ?hr ?hp (fun _ hk => hk) ((show ∀ k_, w14.heap.size ≤ k_ → (fun k_ => (P1_ k_ ∨ w.heap.size ≤ k_) ∧ k_ ≠ gb660) k_ from fun k_ hk => ⟨(.inr (Nat.le_trans (below_size (beQ HB)) hk)), Kd.freshB (g := gb660) (o := .cells #[.int .i64 a0_0, .slice A0_1 l0_1.length c0_1] 26 (0, 0)) (blkQ BK660) k_ hk⟩) _ (Nat.le_refl _)) (Below.refl _ _) (Nat.le_refl _) (by simp) ?_; (case hd => rfl); (case hg => rfl); (case hr => first | (go_simp; done) | (go_simp; rfl)); (case hp => exact (Reps.one (show Kd.FK (Kd.slice 2 (Kd.int .i64)) _ _ l1 [.slice A1 l1.length c1] from (Kd.FK_slice_mk (Kd.V_reads' (Kd.V_mono (ok' := (fun k_ => (P1_ k_ ∨ w.heap.size ≤ k_) ∧ k_ ≠ gb660)) (HO1.out) (fun k_ hk => ⟨hk.1, hk.2⟩))).2.1 (Kd.V_F (Kd.V_mono (ok' := (fun k_ => (P1_ k_ ∨ w.heap.size ≤ k_) ∧ k_ ≠ gb660)) (HO1.out) (fun k_ hk => ⟨hk.1, hk.2⟩))))) (Reps.none _ _))); intro v662 w16 ho17 hb hg_ hnew_; clear hg_ hnew_; (first | rw [← Ny661.out] at ho17 | (simp only [Int.reduceToNat] at ho17; rw [← Ny661.out] at ho17)); replace HO1 := Aside0.mk (Kd.V_elder' (by (with_reducible repeat (first | apply Kd.V_alloc | apply Kd.V_drewN | apply Kd.V_drew)); exact HO1.out) (Kd.N_base ho17) hb); have HO663 := Aside0.mk (Kd.N_lower ho17 (below_size (beQ HB))); replace BK660 := bb BK660 hb; replace HB := Aside0.mk (below_step (beQ HB) hb); clear hb ho17; obtain ⟨Ao18, co18, eo18⟩ := Kd.N_slice HO663.out; subst eo18) | ((with_reducible refine gate_callee (f := 57) rfl ?_); refine goesL_ (some 10) rfl rfl Tryd.func57 (by kernel_rfl) rfl #[.agg #[.int .i64 a0_0, .slice A0_1 l0_1.length c0_1], .slice Ao18 y661.length co18] rfl lz ?_; (with_reducible refine (impl_checkWords.calls k a0_0 _ _ l0_1 _ _ y661 t664 _ ?side1 ?side2 ?side3 ?side4 ?side5 A3.out).mono ?_); (case side1 => have q_ := Aside0.mk (Kd.C_below HR0_1.out HB.out); exact cQ q_); (case side2 => exact HC0_1.out); (case side3 => have q_ := Aside0.mk (Kd.N_reads' HO663.out).2.2; exact cQ q_); (case side4 => exact (Kd.N_reads' HO663.out).2.1); (case side5 => exact TabW.below HT.out (beQ HB)); rintro e w19 ⟨rfl, hb⟩; refine ⟨_, rfl, ?_⟩; replace HO1 := Aside0.mk (Kd.V_below (by (with_reducible repeat (first | apply Kd.V_alloc | apply Kd.V_drewN | apply Kd.V_drew)); exact HO1.out) hb); replace HO663 := Aside0.mk (Kd.N_below (by (with_reducible repeat (first | apply Kd.N_alloc | apply Kd.N_drewN | apply Kd.N_drew)); exact HO663.out) hb); replace BK660 := bb BK660 hb; replace HB := Aside0.mk (below_step (beQ HB) hb); (try clear hb); (try clear hb2); (try clear hk); (try clear hi); (try clear hgw_)))
  go_ret2
  exact ⟨_, rz, by first | exact Kd.S_nil _ _ _ _ _ | exact Kd.N_nil _ _ _ _ _ | exact Kd.V_nil _ _ _ _ _ | exact Kd.Q_nil _ _ _ _ _ | exact Kd.R_nil _ _ _ _ _, beQ HB⟩
def laws_likeRows5.l0 : Nat → List (List Int) → List (List Int) → Int → Option (Bool)
 | 0, _, _, _ => none
 | k + 1, x0, x1, x5 => if x5 < (x0.length : Int) then (if 0 ≤ x5 then (if x5 < (x1.length : Int) then ((laws_likeInts.f k (rd_L2 x0 x5) (rd_L2 x1 x5)).bind fun t670 => (if t670 = true then (laws_likeRows5.l0 k x0 x1 (wrap64 (x5 + 1))) else (some false))) else (none)) else (none)) else (some true)
def laws_likeRows5.f (k : Nat) (l0 : List (List Int)) (l1 : List (List Int)) : Option (Bool) := if (l0.length : Int) = (l1.length : Int) then (laws_likeRows5.l0 k l0 l1 0) else (some false)
set_option maxHeartbeats 8000000 in
set_option maxRecDepth 100000 in
theorem laws_likeRows5.calls (k : Nat) (A0 : Option Addr) (c0 : Nat) (l0 : List (List Int)) (A1 : Option Addr) (c1 : Nat) (l1 : List (List Int)) (r : Bool) (w : World) (hr0 : Kd.C (Kd.slice 2 (Kd.int .i64)) w A0 l0.length l0) (hc0 : l0.length ≤ c0) (hr1 : Kd.C (Kd.slice 2 (Kd.int .i64)) w A1 l1.length l1) (hc1 : l1.length ≤ c1) (h : laws_likeRows5.f k l0 l1 = some r) :
  Calls Tryd.prog 25 #[.slice A0 l0.length c0, .slice A1 l1.length c1] w fun e w' => e = .returned (.bool r) ∧ Drawn0 w w' := by
 have HR0 := Aside0.mk hr0; have HC0 := Aside0.mk hc0; clear hr0 hc0; have HR1 := Aside0.mk hr1; have HC1 := Aside0.mk hc1; clear hr1 hc1
 have H : (if (l0.length : Int) = (l1.length : Int) then (laws_likeRows5.l0 k l0 l1 0) else (some false)) = some r := h
 clear h
 by_cases c3 : (l0.length : Int) = (l1.length : Int)
 ·rw [if_pos c3] at H
  have c3b0 : ((l0.length : Int) == (l1.length : Int)) = true := beq_iff_eq.mpr c3
  have c3b1 : ((l0.length : Int) != (l1.length : Int)) = false := bne_eq_false_iff_eq.mpr c3
  have c3b2 : (l0.length == l1.length) = true := by first | simpa using c3 | (simp at c3 ⊢; omega)
  clear c3
  have H' := Aside0.mk H
  clear H
  go_enter Tryd.func25, Tryd.ntmps25
  go_wp2
  repeat (go_quiet (fail); try go_wp2)
  go_loopg [5] k (fun kq v5 w' => ∃ (x5_1 : Int), v5 = .int .i64 x5_1 ∧ Aside0 (laws_likeRows5.l0 kq l0 l1 x5_1 = some r) ∧ Aside0 (kq ≤ k) ∧ Drawn0 w w')
  case atStart => exact ⟨(0), sz, H', ⟨Nat.le_refl _⟩, by repeat (first | exact Drawn0.refl _ | apply Drawn0.step)⟩
  case round =>
   clear H'
   try clear c1
   try clear c2
   try clear p2
   try clear c3
   try clear c3b0
   try clear c3b1
   try clear c3b2
   obtain ⟨x5_1, rfl, HA, HK1, ⟨m1, rfl⟩⟩ := hrel
   cases gk with
   | zero => exact absurd HA.out (by simp [laws_likeRows5.l0])
   | succ k1 =>
    have H := HA.out; clear HA
    simp only [laws_likeRows5.l0] at H
    by_cases c4 : x5_1 < (l0.length : Int)
    ·rw [if_pos c4] at H
     have c4b0 : decide (x5_1 < (l0.length : Int)) = true := decide_eq_true c4
     clear c4
     by_cases c5 : 0 ≤ x5_1
     ·rw [if_pos c5] at H
      have c5b0 : decide (0 ≤ x5_1) = true := decide_eq_true c5
      clear c5
      by_cases c6 : x5_1 < (l1.length : Int)
      ·rw [if_pos c6] at H
       have c6b0 : decide (x5_1 < (l1.length : Int)) = true := decide_eq_true c6
       clear c6; replace H := Option.bind_eq_some_iff.mp H; obtain ⟨t670, A70, H⟩ := H
       replace H : (if t670 = true then (laws_likeRows5.l0 k1 l0 l1 (wrap64 (x5_1 + 1))) else (some false)) = some r := H
       have A7 := Aside0.mk A70; clear A70
       by_cases c8 : t670 = true
       ·subst c8
        have H1 : (laws_likeRows5.l0 k1 l0 l1 (wrap64 (x5_1 + 1))) = some r := by rw [if_pos rfl] at H; exact H
        clear H; have H := H1; clear H1
        have H' := Aside0.mk H
        clear H
        have p668 : 0 ≤ (x5_1 : Int) := of_decide_eq_true (by first | (with_reducible assumption) | assumption)
        have q668 : x5_1 < (l0.length : Int) := of_decide_eq_true (by first | (with_reducible assumption) | assumption)
        obtain ⟨ad668, A668_0, c668_0, e668, hx668_0, hl668_0, hi668_0⟩ := at_L2 HR0.out x5_1 p668 q668; cases e668; have HR668_0 := Aside0.mk hi668_0; have HC668_0 := Aside0.mk hl668_0; clear hi668_0 hl668_0; replace p668 := eq_true p668; replace q668 := eq_true q668
        have p669 : 0 ≤ (x5_1 : Int) := of_decide_eq_true (by first | (with_reducible assumption) | assumption)
        have q669 : x5_1 < (l1.length : Int) := of_decide_eq_true (by first | (with_reducible assumption) | assumption)
        obtain ⟨ad669, A669_0, c669_0, e669, hx669_0, hl669_0, hi669_0⟩ := at_L2 HR1.out x5_1 p669 q669; cases e669; have HR669_0 := Aside0.mk hi669_0; have HC669_0 := Aside0.mk hl669_0; clear hi669_0 hl669_0; replace p669 := eq_true p669; replace q669 := eq_true q669
        go_wp2_with (first | (go_at_call 13; (with_reducible refine (laws_likeInts.calls k1 _ _ (rd_L2 l0 x5_1) _ _ (rd_L2 l1 x5_1) true _ ?side1 ?side2 ?side3 ?side4 A7.out).mono ?_); (case side1 => have q_ := Aside0.mk HR668_0.out; exact cQ q_); (case side2 => exact HC668_0.out); (case side3 => have q_ := Aside0.mk HR669_0.out; exact cQ q_); (case side4 => exact HC669_0.out); rintro e w' ⟨rfl, ⟨nd, rfl⟩⟩; (try first | exact ⟨rfl, _, World.drewN_drewN _ _ _⟩ | exact ⟨rfl, _, Eq.trans (World.drewN_drewN _ _ _) (congrArg (World.drewN _) (Nat.add_assoc _ _ _))⟩)))
        repeat (go_quiet (first | (go_at_call 13; (with_reducible refine (laws_likeInts.calls k1 _ _ (rd_L2 l0 x5_1) _ _ (rd_L2 l1 x5_1) true _ ?side1 ?side2 ?side3 ?side4 A7.out).mono ?_); (case side1 => have q_ := Aside0.mk HR668_0.out; exact cQ q_); (case side2 => exact HC668_0.out); (case side3 => have q_ := Aside0.mk HR669_0.out; exact cQ q_); (case side4 => exact HC669_0.out); rintro e w' ⟨rfl, ⟨nd, rfl⟩⟩; (try first | exact ⟨rfl, _, World.drewN_drewN _ _ _⟩ | exact ⟨rfl, _, Eq.trans (World.drewN_drewN _ _ _) (congrArg (World.drewN _) (Nat.add_assoc _ _ _))⟩))); try go_wp2_with (first | (go_at_call 13; (with_reducible refine (laws_likeInts.calls k1 _ _ (rd_L2 l0 x5_1) _ _ (rd_L2 l1 x5_1) true _ ?side1 ?side2 ?side3 ?side4 A7.out).mono ?_); (case side1 => have q_ := Aside0.mk HR668_0.out; exact cQ q_); (case side2 => exact HC668_0.out); (case side3 => have q_ := Aside0.mk HR669_0.out; exact cQ q_); (case side4 => exact HC669_0.out); rintro e w' ⟨rfl, ⟨nd, rfl⟩⟩; (try first | exact ⟨rfl, _, World.drewN_drewN _ _ _⟩ | exact ⟨rfl, _, Eq.trans (World.drewN_drewN _ _ _) (congrArg (World.drewN _) (Nat.add_assoc _ _ _))⟩))))
        go_roundg k1
        case measure => have := HK1.out; omega
        case rel => exact ⟨(wrap64 (x5_1 + 1)), sz, H', ⟨by have := HK1.out; omega⟩, by repeat (first | exact Drawn0.refl _ | apply Drawn0.step)⟩
       ·replace c8 := Bool.eq_false_iff.mpr c8
        subst c8
        have H1 : (some false) = some r := by rw [if_neg (show ¬ (false = true) by decide)] at H; exact H
        clear H; have H := H1; clear H1
        obtain rfl := Option.some.inj H
        have p668 : 0 ≤ (x5_1 : Int) := of_decide_eq_true (by first | (with_reducible assumption) | assumption)
        have q668 : x5_1 < (l0.length : Int) := of_decide_eq_true (by first | (with_reducible assumption) | assumption)
        obtain ⟨ad668, A668_0, c668_0, e668, hx668_0, hl668_0, hi668_0⟩ := at_L2 HR0.out x5_1 p668 q668; cases e668; have HR668_0 := Aside0.mk hi668_0; have HC668_0 := Aside0.mk hl668_0; clear hi668_0 hl668_0; replace p668 := eq_true p668; replace q668 := eq_true q668
        have p669 : 0 ≤ (x5_1 : Int) := of_decide_eq_true (by first | (with_reducible assumption) | assumption)
        have q669 : x5_1 < (l1.length : Int) := of_decide_eq_true (by first | (with_reducible assumption) | assumption)
        obtain ⟨ad669, A669_0, c669_0, e669, hx669_0, hl669_0, hi669_0⟩ := at_L2 HR1.out x5_1 p669 q669; cases e669; have HR669_0 := Aside0.mk hi669_0; have HC669_0 := Aside0.mk hl669_0; clear hi669_0 hl669_0; replace p669 := eq_true p669; replace q669 := eq_true q669
        go_wp2_with (first | (go_at_call 13; (with_reducible refine (laws_likeInts.calls k1 _ _ (rd_L2 l0 x5_1) _ _ (rd_L2 l1 x5_1) false _ ?side1 ?side2 ?side3 ?side4 A7.out).mono ?_); (case side1 => have q_ := Aside0.mk HR668_0.out; exact cQ q_); (case side2 => exact HC668_0.out); (case side3 => have q_ := Aside0.mk HR669_0.out; exact cQ q_); (case side4 => exact HC669_0.out); rintro e w' ⟨rfl, ⟨nd, rfl⟩⟩; (try first | exact ⟨rfl, _, World.drewN_drewN _ _ _⟩ | exact ⟨rfl, _, Eq.trans (World.drewN_drewN _ _ _) (congrArg (World.drewN _) (Nat.add_assoc _ _ _))⟩)))
        repeat (go_quiet (first | (go_at_call 13; (with_reducible refine (laws_likeInts.calls k1 _ _ (rd_L2 l0 x5_1) _ _ (rd_L2 l1 x5_1) false _ ?side1 ?side2 ?side3 ?side4 A7.out).mono ?_); (case side1 => have q_ := Aside0.mk HR668_0.out; exact cQ q_); (case side2 => exact HC668_0.out); (case side3 => have q_ := Aside0.mk HR669_0.out; exact cQ q_); (case side4 => exact HC669_0.out); rintro e w' ⟨rfl, ⟨nd, rfl⟩⟩; (try first | exact ⟨rfl, _, World.drewN_drewN _ _ _⟩ | exact ⟨rfl, _, Eq.trans (World.drewN_drewN _ _ _) (congrArg (World.drewN _) (Nat.add_assoc _ _ _))⟩))); try go_wp2_with (first | (go_at_call 13; (with_reducible refine (laws_likeInts.calls k1 _ _ (rd_L2 l0 x5_1) _ _ (rd_L2 l1 x5_1) false _ ?side1 ?side2 ?side3 ?side4 A7.out).mono ?_); (case side1 => have q_ := Aside0.mk HR668_0.out; exact cQ q_); (case side2 => exact HC668_0.out); (case side3 => have q_ := Aside0.mk HR669_0.out; exact cQ q_); (case side4 => exact HC669_0.out); rintro e w' ⟨rfl, ⟨nd, rfl⟩⟩; (try first | exact ⟨rfl, _, World.drewN_drewN _ _ _⟩ | exact ⟨rfl, _, Eq.trans (World.drewN_drewN _ _ _) (congrArg (World.drewN _) (Nat.add_assoc _ _ _))⟩))))
        go_ret
        exact ⟨by first | rfl | (simp; done) | (simp [*]; done), by repeat (first | exact Drawn0.refl _ | apply Drawn0.step)⟩
      ·rw [if_neg c6] at H
       exact absurd H (by simp)
     ·rw [if_neg c5] at H
      exact absurd H (by simp)
    ·rw [if_neg c4] at H
     have c4b0 : decide (x5_1 < (l0.length : Int)) = false := decide_eq_false c4
     clear c4
     obtain rfl := Option.some.inj H
     go_wp2
     repeat (go_quiet (fail); try go_wp2)
     go_ret
     exact ⟨by first | rfl | (simp; done) | (simp [*]; done), by repeat (first | exact Drawn0.refl _ | apply Drawn0.step)⟩
 ·rw [if_neg c3] at H
  have c3b0 : ((l0.length : Int) == (l1.length : Int)) = false := beq_eq_false_iff_ne.mpr c3
  have c3b1 : ((l0.length : Int) != (l1.length : Int)) = true := bne_iff_ne.mpr c3
  have c3b2 : (l0.length == l1.length) = false := by first | simpa using c3 | (simp at c3 ⊢; omega)
  obtain rfl := Option.some.inj H
  go_enter Tryd.func25, Tryd.ntmps25
  go_wp2
  repeat (go_quiet (fail); try go_wp2)
  go_ret
  exact ⟨by first | rfl | (simp; done) | (simp [*]; done), by repeat (first | exact Drawn0.refl _ | apply Drawn0.step)⟩
end Go.Proofs.YtleeihpmniabhaaDoor.G
