/- How the program's functions compute, function by function: each is told by a plain Lean function of the same answers, under the condition that this one answers. Written by a program of this project over the seat's translation; Lean checks it. -/
import Derived.Test.YtclabhnloohccaaDoorG0
import Derived.Test.YtclabhnloohccaaDoorGQ00a
import Derived.Test.YtclabhnloohccaaDoorGQ00b
import Derived.Test.YtclabhnloohccaaDoorGQ00e
import Derived.Test.YtclabhnloohccaaDoorGQ01
import Derived.Test.YtclabhnloohccaaDoorGQ11b
import Derived.Test.YtclabhnloohccaaDoorGQ11c
namespace Go.Proofs.YtclabhnloohccaaDoor.G
open Go.RowKit Go.Proofs.YtclabhnloohccaaDoorW.PrintWords Go.Proofs.YtclabhnloohccaaDoorW.PrintLast Go.Proofs.YtclabhnloohccaaDoorW.PrintMore
attribute [local go_sem] max2_int min2_int max_two min_two max_three min_three max_four min_four   -- for this text's walks alone
set_option linter.unusedVariables false
set_option linter.unusedSimpArgs false

/-! ### laws_FnExactNeighboursOf: function 6 -/
/-- What the law's calls answer. -/
structure laws_FnExactNeighboursOf.Facts (k : Nat) (n : Int) (l l1 : List Int) (S : List (List Int)) (c m1 m2 m : Int) (x' y' : List Int) (G : List (List Int)) : Prop where
  toA : laws_toAlphabet.f k n l = some (n, l)
  toW : laws_toInt64S.f k l1 = some l1
  spec : spec_NeighboursOf.f k n l l1 = some (S, c)
  impl : impl_NeighboursOf.f k n l l1 = some (S, c)
  eqS : laws_eqInt64SS.f k S S = some true
  eqA : laws_eqAlphabet.f k n l n l = some true
  eqW : laws_eqInt64S.f k l1 l1 = some true
  markA : laws_markAlphabet.f k n l 1 = some (m1, x')
  markW : laws_markInt64S.f k l1 m1 = some (m2, y')
  pos2 : ¬ m2 < 0
  markS : laws_markInt64SS.f k S 1 = some (m, G)
  heldS : laws_heldInt64SS.f k G 1 = some m
  pos : ¬ m < 0
def laws_FnExactNeighboursOf.f (k : Nat) (a0_0 : Int) (l0_1 : List Int) (l1 : List Int) : Option Bool :=
  if (l1.length : Int) > 1048576 then some true else (laws_szAlphabet.f a0_0 l0_1 1048576).bind fun z => if z < 0 then some true else (spec_NeighboursOf.f k a0_0 l0_1 l1).bind fun s => (laws_markAlphabet.f k a0_0 l0_1 1).bind fun a => (laws_markInt64S.f k l1 a.1).bind fun b => (laws_markInt64SS.f k s.1 1).bind fun m => if laws_toAlphabet.f k a0_0 l0_1 = some (a0_0, l0_1) ∧ laws_toInt64S.f k l1 = some l1 ∧ impl_NeighboursOf.f k a0_0 l0_1 l1 = some s ∧ laws_eqInt64SS.f k s.1 s.1 = some true ∧ laws_eqAlphabet.f k a0_0 l0_1 a0_0 l0_1 = some true ∧ laws_eqInt64S.f k l1 l1 = some true ∧ ¬ b.1 < 0 ∧ laws_heldInt64SS.f k m.2 1 = some m.1 ∧ ¬ m.1 < 0 then some true else none
theorem ex_R {w W W' : World} {v : Value} {l : List Int} (ho : Kd.R (Kd.int .i64) 2 W' W.heap.size (fun _ => True) v l) (hw : Below w.heap.size w W) : Kd.R (Kd.int .i64) 2 W' w.heap.size (fun k => W.heap.size ≤ k ∧ k < W'.heap.size) v l :=
  Kd.R_lower (Kd.R_mono (Kd.R_bound ho) (fun _ h => ⟨h.2.1, h.2.2.1⟩)) (below_size hw)
theorem ex_S {w W W' : World} {v : Value} {l : List (List Int)} (ho : Kd.S (Kd.slice 2 (Kd.int .i64)) 22 W' W.heap.size (fun _ => True) v l) (hw : Below w.heap.size w W) : Kd.S (Kd.slice 2 (Kd.int .i64)) 22 W' w.heap.size (fun k => W.heap.size ≤ k ∧ k < W'.heap.size) v l :=
  Kd.S_lower (Kd.S_mono (Kd.S_bound ho) (fun _ h => ⟨h.2.1, h.2.2.1⟩)) (below_size hw)
theorem ex_put {W W2 : World} {g : Nat} {n : Int} {v : Value} (hb : Below W.heap.size W W2) (hg : g = W.heap.size) (hbox : W2.heap[g]? = some (.cells #[.int .i64 0, .slice none 0 0] 29 (0, 0))) :
    Aside0 (((W2.setCell ⟨g, 0, none⟩ (.int .i64 n)).setCell ⟨g, 1, none⟩ v).heap[g]? = some (.cells #[.int .i64 n, v] 29 (0, 0))) ∧ Below W.heap.size W ((W2.setCell ⟨g, 0, none⟩ (.int .i64 n)).setCell ⟨g, 1, none⟩ v) := by
  have hge : W.heap.size ≤ g := Nat.le_of_eq hg.symm
  exact ⟨⟨blk_put (cs := #[.int .i64 n, .slice none 0 0]) (blk_put hbox 0 _ rfl) 1 _ rfl⟩, below_set (below_set hb hge) hge⟩
theorem vQ {α : Type} {d : Kd α} {e base : Nat} {ok : Nat → Prop} {v : Value} {xs : List α} {W0 W : World} (_ : Aside0 (Kd.V d e W0 base ok v xs)) (h : Kd.V d e W base ok v xs := by (with_reducible repeat (first | apply Kd.V_alloc | apply Kd.V_drewN | apply Kd.V_drew)); exact Aside0.out (by assumption)) : Kd.V d e W base ok v xs := h
theorem sQ {α : Type} {d : Kd α} {e base : Nat} {ok : Nat → Prop} {v : Value} {xs : List α} {W0 W : World} (_ : Aside0 (Kd.S d e W0 base ok v xs)) (h : Kd.S d e W base ok v xs := by (with_reducible repeat (first | apply Kd.S_alloc | apply Kd.S_drewN | apply Kd.S_drew)); exact Aside0.out (by assumption)) : Kd.S d e W base ok v xs := h
set_option maxHeartbeats 8000000 in
set_option maxRecDepth 100000 in
theorem laws_FnExactNeighboursOf.main (k : Nat) (n : Int) (A : Option Addr) (c0 : Nat) (l : List Int) (A1 : Option Addr) (c1 : Nat) (l1 : List Int) (z : Int) (S : List (List Int)) (c m1 m2 m : Int) (x' y' : List Int) (G : List (List Int)) (w : World) (hr0 : Kd.C (Kd.int .i64) w A l.length l) (hc0 : l.length ≤ c0) (hr1 : Kd.C (Kd.int .i64) w A1 l1.length l1) (hc1 : l1.length ≤ c1) (hT : TabW w) (hw : ¬ (l1.length : Int) > 1048576) (hz : laws_szAlphabet.f n l 1048576 = some z) (hz0 : ¬ z < 0) (hF : laws_FnExactNeighboursOf.Facts k n l l1 S c m1 m2 m x' y' G) :
    Calls Tryd.prog 6 #[.agg #[.int .i64 n, .slice A l.length c0], .slice A1 l1.length c1] w fun e w' => e = .returned (.bool true) ∧ Below w.heap.size w w' := by
  have hu := Tryd.underlying29
  have hu2 := Tryd.underlying24
  have HT := Aside0.mk hT; have HR := Aside0.mk hr0; have HC := Aside0.mk hc0; have HR1 := Aside0.mk hr1; have HC1 := Aside0.mk hc1; have HZ := Aside0.mk hz; have HF := Aside0.mk hF
  clear hT hr0 hc0 hr1 hc1 hz hF
  have e1 : decide (1048576 < (l1.length : Int)) = false := decide_eq_false hw
  have e2 : decide (1048576 < l1.length) = false := decide_eq_false (by omega)
  have e3 : decide (z < 0) = false := decide_eq_false hz0
  clear hw hz0
  go_enter Tryd.func6, Tryd.ntmps6
  go_upto_region 7 with (first
    | ((with_reducible refine gate_dst (N := 2) rfl ?_); refine box_event ?hg (N := 2) ?hd (cs := #[.int .i64 n, .slice A l.length c0]) (t := 24) ?hr ?_; (case hd => rfl); (case hg => rfl); (case hr => first | (go_simp; done) | (go_simp; rfl)); intro g2 hg w1 hbox hb; have BX := Aside0.mk hbox; have HB := Aside0.mk hb; clear hbox hb hg; have x0 := bc BX 0; have x1 := bc BX 1)
    | (go_at_call 7; (with_reducible refine (laws_szAlphabet.calls n A c0 l 1048576 z _ ?s1 HC.out HZ.out).mono ?_); (case s1 => exact Kd.C_below HR.out HB.out); rintro e w2 ⟨rfl, hb⟩; replace HB := Aside0.mk (below_step HB.out hb); replace BX := bb BX hb; clear hb x0 x1; have x0 := bc BX 0; have x1 := bc BX 1))
  go_upto_region 8 with (first
    | (go_at_call 9; (with_reducible refine (laws_toAlphabet.calls k n A c0 l n l _ ?s2 HC.out HF.out.toA).mono ?_); (case s2 => exact Kd.C_below HR.out (beQ HB)); rintro e w3 ⟨v3, rfl, ho, hb⟩; obtain ⟨E1, d1, rfl⟩ := Kd.R_slice ho; have HA := Aside0.mk (Kd.R_reads' ho).2; replace HB := Aside0.mk (below_step (beQ HB) hb); replace BX := bb BX hb; clear ho hb x0 x1)
    | (go_at_call 10; (with_reducible refine (laws_toInt64S.calls k A1 c1 l1 l1 _ ?s3 HC1.out HF.out.toW).mono ?_); (case s3 => exact Kd.C_below HR1.out (beQ HB)); rintro e w4 ⟨v4, rfl, ho, hb⟩; obtain ⟨E2, d2, rfl⟩ := Kd.R_slice ho; have HA2 := Aside0.mk (Kd.R_reads' ho).2; replace HA := Aside0.mk (And.intro HA.out.1 (Kd.C_below HA.out.2 hb)); replace HB := Aside0.mk (below_step (beQ HB) hb); replace BX := bb BX hb; clear ho hb)
    | (go_at_call 26; (with_reducible refine (spec_NeighboursOf.calls k n E1 d1 l E2 d2 l1 S c _ ?s4 HA.out.1 ?s5 HA2.out.1 HF.out.spec).mono ?_); (case s4 => exact HA.out.2); (case s5 => exact HA2.out.2); rintro e w5 ⟨v5, rfl, ho, hb⟩; have HV := Aside0.mk (Kd.V_bound (ho)); have Z2 := Aside0.mk (blk_lt BX.out); have L5 := Aside0.mk hb.size; replace HB := Aside0.mk (below_step (beQ HB) hb); replace BX := bb BX hb; clear ho hb HA HA2; have x0 := bc BX 0; have x1 := bc BX 1))
  obtain ⟨A5, c5, rfl⟩ : ∃ A c, v5 = .slice A S.length c := by obtain ⟨A, c, h, _⟩ := HV.out; exact ⟨A, c, h⟩
  go_upto_region 9 with (first
    | (go_at_call 9; (with_reducible refine (laws_toAlphabet.calls k n A c0 l n l _ ?s6 HC.out HF.out.toA).mono ?_); (case s6 => exact Kd.C_below HR.out (beQ HB)); rintro e w6 ⟨v6, rfl, ho, hb⟩; obtain ⟨A6, c6, rfl⟩ := Kd.R_slice ho; have HX0 := Aside0.mk (ex_R ho HB.out); have L6 := Aside0.mk hb.size; replace HB := Aside0.mk (below_step (beQ HB) hb); replace BX := bb BX hb; replace HV := Aside0.mk (Kd.V_below (vQ HV) hb); clear ho hb x0 x1)
    | ((with_reducible refine gate_dst (N := 8) rfl ?_); refine box_event ?hg (N := 8) ?hd (cs := #[.int .i64 0, .slice none 0 0]) (t := 29) ?hr ?_; (case hd => rfl); (case hg => rfl); (case hr => first | (go_simp; done) | (go_simp; rfl)); intro g8 hg w7 hbox hb; have BP := ex_put (n := n) (v := .slice A6 l.length c6) hb hg hbox; have HP := BP.1; have HQ := Aside0.mk BP.2; have G8 := Aside0.mk hg; clear BP hg hb; have z0 : w7.cell? ⟨g8, 0, none⟩ = some (.int .i64 0) := (blk_cell hbox 0).trans rfl; have z1 : w7.cell? ⟨g8, 1, none⟩ = some (.slice none 0 0) := (blk_cell hbox 1).trans rfl; have z2 := blk_frozen hbox 0; have z3 := blk_frozen hbox 1; clear hbox))
  (try simp only [drewN_set])
  generalize (w7.setCell ⟨g8, 0, none⟩ (.int .i64 n)).setCell ⟨g8, 1, none⟩ (.slice A6 l.length c6) = w8 at HP HQ ⊢
  clear z0 z1 z2 z3
  have hb := HQ.out
  have BX8 := HP
  have L8 : Aside0 (w6.heap.size < w8.heap.size) := ⟨by rw [← G8.out]; exact blk_lt HP.out⟩
  replace HB := Aside0.mk (below_step (beQ HB) hb); replace BX := bb BX hb; replace HV := Aside0.mk (Kd.V_below (vQ HV) hb); replace HX0 := kb HX0 hb
  clear hb HP HQ
  go_upto_region 10 with (first
    | (go_at_call 10; (with_reducible refine (laws_toInt64S.calls k A1 c1 l1 l1 _ ?s7 HC1.out HF.out.toW).mono ?_); (case s7 => exact Kd.C_below HR1.out (beQ HB)); rintro e w9 ⟨v9, rfl, ho, hb⟩; obtain ⟨A9, c9, rfl⟩ := Kd.R_slice ho; have HX1 := Aside0.mk (ex_R ho HB.out); have L9 := Aside0.mk hb.size; replace HB := Aside0.mk (below_step (beQ HB) hb); replace BX := bb BX hb; replace BX8 := bb BX8 hb; replace HV := Aside0.mk (Kd.V_below (vQ HV) hb); replace HX0 := kb HX0 hb; clear ho hb; have x0 := bc BX8 0; have x1 := bc BX8 1))
  go_upto_region 11 with (first
    | (go_at_call 27; (with_reducible refine (impl_NeighboursOf.calls k n A6 c6 l (fun k => w8.heap.size ≤ k ∧ k < w9.heap.size) A9 c9 l1 S c _ ?s8 ?s9 ?s10 ?s11 HF.out.impl).mono ?_); (case s8 => exact (Kd.R_reads' HX0.out).2.2); (case s9 => exact (Kd.R_reads' HX0.out).2.1); (case s10 => exact Kd.R_V HX1.out); (case s11 => exact TabW.below HT.out HB.out); rintro e w10 ⟨v10, rfl, ho, hb⟩; obtain ⟨A10, c10, rfl⟩ := Kd.S_slice ho; have HG := Aside0.mk (ex_S ho HB.out); have L10 := Aside0.mk hb.size; replace HB := Aside0.mk (below_step (beQ HB) hb); replace BX := bb BX hb; replace BX8 := bb BX8 hb; replace HV := Aside0.mk (Kd.V_below (vQ HV) hb); replace HX0 := kb HX0 hb; replace HX1 := kb HX1 hb; clear ho hb x0 x1))
  go_upto_region 13 with (first
    | (go_at_call 12; (with_reducible refine (laws_eqInt64SS.calls k A10 c10 S A5 c5 S true _ ?s12 ?s13 ?s14 ?s15 HF.out.eqS).mono ?_); (case s12 => exact (Kd.S_reads' (sQ HG)).2.2); (case s13 => exact (Kd.S_reads' HG.out).2.1); (case s14 => exact (Kd.V_reads' (vQ HV)).2.2); (case s15 => exact (Kd.V_reads' HV.out).2.1); rintro e w11 ⟨rfl, hd⟩; have hb := hd.below; replace HB := Aside0.mk (below_step (beQ HB) hb); replace BX := bb BX hb; replace BX8 := bb BX8 hb; replace HV := Aside0.mk (Kd.V_below (vQ HV) hb); replace HX0 := kb HX0 hb; replace HX1 := kb HX1 hb; replace HG := Aside0.mk (Kd.S_below (sQ HG) hb); clear hb hd))
  have x0 : w11.cell? ⟨g8, 0, none⟩ = some (.int .i64 n) := bc BX8 0
  have x1 : w11.cell? ⟨g8, 1, none⟩ = some (.slice A6 l.length c6) := bc BX8 1
  have y0 : w11.cell? ⟨g2, 0, none⟩ = some (.int .i64 n) := bc BX 0
  have y1 : w11.cell? ⟨g2, 1, none⟩ = some (.slice A l.length c0) := bc BX 1
  go_region_held3 (fun w' => w'.cell? ⟨g8, 0, none⟩ = some (.int .i64 n) ∧ w'.cell? ⟨g8, 1, none⟩ = some (.slice A6 l.length c6) ∧ w'.cell? ⟨g2, 0, none⟩ = some (.int .i64 n) ∧ w'.cell? ⟨g2, 1, none⟩ = some (.slice A l.length c0))
    (first | go_keep | exact ⟨bc BX8 0, bc BX8 1, bc BX 0, bc BX 1⟩)
    (first
    | (go_at_call 9; (with_reducible refine (laws_toAlphabet.calls k n A c0 l n l _ ?s20 HC.out HF.out.toA).mono ?_); (case s20 => exact Kd.C_below HR.out (beQ HB)); rintro e w12 ⟨v12, rfl, ho, hb⟩; obtain ⟨A12, c12, rfl⟩ := Kd.R_slice ho; have HA := Aside0.mk (Kd.R_reads' ho).2; replace HB := Aside0.mk (below_step (beQ HB) hb); replace BX := bb BX hb; replace BX8 := bb BX8 hb; replace HV := Aside0.mk (Kd.V_below (vQ HV) hb); replace HX0 := kb HX0 hb; replace HX1 := kb HX1 hb; replace HG := Aside0.mk (Kd.S_below (sQ HG) hb); clear ho hb x0 x1 y0 y1)
    | (go_at_call 13; (with_reducible refine (laws_eqAlphabet.calls k n A6 c6 l n A12 c12 l true _ ?s21 ?s22 ?s23 HA.out.1 HF.out.eqA).mono ?_); (case s21 => exact (Kd.R_reads' (kdQ HX0)).2.2); (case s22 => exact (Kd.R_reads' HX0.out).2.1); (case s23 => exact HA.out.2); rintro e w13 ⟨rfl, hb⟩; replace HB := Aside0.mk (below_step (beQ HB) hb); replace BX := bb BX hb; replace BX8 := bb BX8 hb; replace HV := Aside0.mk (Kd.V_below (vQ HV) hb); replace HX0 := kb HX0 hb; replace HX1 := kb HX1 hb; replace HG := Aside0.mk (Kd.S_below (sQ HG) hb); clear hb HA))
  go_upto_region 18 with (first
    | (go_at_call 10; (with_reducible refine (laws_toInt64S.calls k A1 c1 l1 l1 _ ?s24 HC1.out HF.out.toW).mono ?_); (case s24 => exact Kd.C_below HR1.out (beQ HB)); rintro e w14 ⟨v14, rfl, ho, hb⟩; obtain ⟨A14, c14, rfl⟩ := Kd.R_slice ho; have HA := Aside0.mk (Kd.R_reads' ho).2; replace HB := Aside0.mk (below_step (beQ HB) hb); replace BX := bb BX hb; replace BX8 := bb BX8 hb; replace HV := Aside0.mk (Kd.V_below (vQ HV) hb); replace HX0 := kb HX0 hb; replace HX1 := kb HX1 hb; replace HG := Aside0.mk (Kd.S_below (sQ HG) hb); clear ho hb)
    | (go_at_call 14; (with_reducible refine (laws_eqInt64S.calls k A9 c9 l1 A14 c14 l1 true _ ?s25 ?s26 ?s27 HA.out.1 HF.out.eqW).mono ?_); (case s25 => exact (Kd.R_reads' (kdQ HX1)).2.2); (case s26 => exact (Kd.R_reads' HX1.out).2.1); (case s27 => exact HA.out.2); rintro e w15 ⟨rfl, hd⟩; have hb := hd.below; replace HB := Aside0.mk (below_step (beQ HB) hb); replace BX := bb BX hb; replace BX8 := bb BX8 hb; replace HV := Aside0.mk (Kd.V_below (vQ HV) hb); replace HX0 := kb HX0 hb; replace HX1 := kb HX1 hb; replace HG := Aside0.mk (Kd.S_below (sQ HG) hb); clear hb hd HA; have x0 := bc BX8 0; have x1 := bc BX8 1))
  go_upto_region 20 with (first
    | (go_at_call 15; (with_reducible refine (laws_markAlphabet.calls k n (fun k => w5.heap.size ≤ k ∧ k < w6.heap.size) _ l 1 m1 x' w _ HB.out HX0.out HF.out.markA).mono ?_); rintro e w16 ⟨rfl, _, hB, hK⟩; replace HB := Aside0.mk hB; have n2 : ¬ (w5.heap.size ≤ g2 ∧ g2 < w6.heap.size) := (by have := Z2.out; have := L5.out; omega); have n8 : ¬ (w5.heap.size ≤ g8 ∧ g8 < w6.heap.size) := (by have := G8.out; omega); replace BX := Aside0.mk (blk_kept BX.out hK n2); replace BX8 := Aside0.mk (blk_kept BX8.out hK n8); replace HV := Aside0.mk (Kd.V_kept HV.out hK (fun j hj hs => (by have := hj.2; have := hs.1; omega))); replace HX1 := Aside0.mk (Kd.R_kept HX1.out hK (fun j hj hs => (by have := hj.1; have := hs.2; have := L8.out; omega))); replace HG := Aside0.mk (Kd.S_kept HG.out hK (fun j hj hs => (by have := hj.1; have := hs.2; have := L8.out; have := L9.out; omega))); clear hB hK HX0 n2 n8 x0 x1)
    | (go_at_call 16; (with_reducible refine (laws_markInt64S.calls k (fun k => w8.heap.size ≤ k ∧ k < w9.heap.size) _ l1 m1 m2 y' w _ HB.out HX1.out HF.out.markW).mono ?_); rintro e w17 ⟨rfl, _, hB, hK⟩; replace HB := Aside0.mk hB; have n2 : ¬ (w8.heap.size ≤ g2 ∧ g2 < w9.heap.size) := (by have := Z2.out; have := L5.out; have := L6.out; have := L8.out; omega); replace BX := Aside0.mk (blk_kept BX.out hK n2); replace HV := Aside0.mk (Kd.V_kept HV.out hK (fun j hj hs => (by have := hj.2; have := hs.1; have := L6.out; have := L8.out; omega))); replace HG := Aside0.mk (Kd.S_kept HG.out hK (fun j hj hs => (by have := hj.1; have := hs.2; omega))); clear hB hK HX1 n2 BX8))
  have p2 : decide (m2 < 0) = false := decide_eq_false HF.out.pos2
  go_upto_region 23 with (first
    | (go_at_call 12; (with_reducible refine (laws_eqInt64SS.calls k A10 c10 S A5 c5 S true _ ?s28 ?s29 ?s30 ?s31 HF.out.eqS).mono ?_); (case s28 => exact (Kd.S_reads' (sQ HG)).2.2); (case s29 => exact (Kd.S_reads' HG.out).2.1); (case s30 => exact (Kd.V_reads' (vQ HV)).2.2); (case s31 => exact (Kd.V_reads' HV.out).2.1); rintro e w18 ⟨rfl, hd⟩; have hb := hd.below; replace HB := Aside0.mk (below_step (beQ HB) hb); replace BX := bb BX hb; replace HV := Aside0.mk (Kd.V_below (vQ HV) hb); replace HG := Aside0.mk (Kd.S_below (sQ HG) hb); clear hb hd))
  clear p2
  have p1 : decide (m < 0) = false := decide_eq_false HF.out.pos
  go_upto_region 24 with (first
    | (go_at_call 17; (with_reducible refine (laws_markInt64SS.calls k (fun k => w9.heap.size ≤ k ∧ k < w10.heap.size) _ S 1 m G w _ HB.out HG.out HF.out.markS).mono ?_); rintro e w19 ⟨rfl, ho, hB, hK⟩; have hn := (Kd.S_reads' ho).1; replace HB := Aside0.mk hB; have n2 : ¬ (w9.heap.size ≤ g2 ∧ g2 < w10.heap.size) := (by have := Z2.out; have := L5.out; have := L6.out; have := L8.out; have := L9.out; omega); replace BX := Aside0.mk (blk_kept BX.out hK n2); replace HV := Aside0.mk (Kd.V_kept HV.out hK (fun j hj hs => (by have := hj.2; have := hs.1; have := L6.out; have := L8.out; have := L9.out; omega))); replace HG := Aside0.mk ho; have HN := Aside0.mk hn; clear hB hK ho n2 hn))
  go_upto_region 30 with (first
    | (go_at_call 18; have hh := laws_heldInt64SS.calls k A10 c10 G 1 m w19 (Kd.S_reads' (sQ HG)).2.2 (by have := (Kd.S_reads' HG.out).2.1; have := HN.out; omega) HF.out.heldS; rw [← HN.out] at hh; (with_reducible refine hh.mono ?_); rintro e w20 ⟨rfl, hd⟩; have hb := hd.below; replace HB := Aside0.mk (below_step (beQ HB) hb); replace BX := bb BX hb; replace HV := Aside0.mk (Kd.V_below (vQ HV) hb); replace HG := Aside0.mk (Kd.S_below (sQ HG) hb); clear hb hd hh; have x0 := bc BX 0; have x1 := bc BX 1))
  go_upto_region 31 with (first
    | (go_at_call 9; (with_reducible refine (laws_toAlphabet.calls k n A c0 l n l _ ?s40 HC.out HF.out.toA).mono ?_); (case s40 => exact Kd.C_below HR.out (beQ HB)); rintro e w21 ⟨v21, rfl, ho, hb⟩; obtain ⟨E1, d1, rfl⟩ := Kd.R_slice ho; have HA := Aside0.mk (ex_R ho HB.out); replace HB := Aside0.mk (below_step (beQ HB) hb); replace BX := bb BX hb; replace HV := Aside0.mk (Kd.V_below (vQ HV) hb); replace HG := Aside0.mk (Kd.S_below (sQ HG) hb); clear ho hb x0 x1)
    | (go_at_call 10; (with_reducible refine (laws_toInt64S.calls k A1 c1 l1 l1 _ ?s41 HC1.out HF.out.toW).mono ?_); (case s41 => exact Kd.C_below HR1.out (beQ HB)); rintro e w22 ⟨v22, rfl, ho, hb⟩; obtain ⟨E2, d2, rfl⟩ := Kd.R_slice ho; have HA2 := Aside0.mk (ex_R ho HB.out); replace HA := kb HA hb; replace HB := Aside0.mk (below_step (beQ HB) hb); replace BX := bb BX hb; replace HV := Aside0.mk (Kd.V_below (vQ HV) hb); replace HG := Aside0.mk (Kd.S_below (sQ HG) hb); clear ho hb)
    | (go_at_call 27; (with_reducible refine (impl_NeighboursOf.calls k n E1 d1 l (fun k => w21.heap.size ≤ k ∧ k < w22.heap.size) E2 d2 l1 S c _ ?s42 ?s43 ?s44 ?s45 HF.out.impl).mono ?_); (case s42 => exact (Kd.R_reads' HA.out).2.2); (case s43 => exact (Kd.R_reads' HA.out).2.1); (case s44 => exact Kd.R_V HA2.out); (case s45 => exact TabW.below HT.out HB.out); rintro e w23 ⟨v23, rfl, ho, hb⟩; obtain ⟨A23, c23, rfl⟩ := Kd.S_slice ho; have HH := Aside0.mk (ex_S ho HB.out); replace HB := Aside0.mk (below_step (beQ HB) hb); replace BX := bb BX hb; replace HV := Aside0.mk (Kd.V_below (vQ HV) hb); replace HG := Aside0.mk (Kd.S_below (sQ HG) hb); clear ho hb HA HA2))
  go_upto_region 34 with (first
    | (go_at_call 12; (with_reducible refine (laws_eqInt64SS.calls k A23 c23 S A5 c5 S true _ ?s46 ?s47 ?s48 ?s49 HF.out.eqS).mono ?_); (case s46 => exact (Kd.S_reads' (sQ HH)).2.2); (case s47 => exact (Kd.S_reads' HH.out).2.1); (case s48 => exact (Kd.V_reads' (vQ HV)).2.2); (case s49 => exact (Kd.V_reads' HV.out).2.1); rintro e w24 ⟨rfl, hd⟩; have hb := hd.below; replace HB := Aside0.mk (below_step (beQ HB) hb); replace HV := Aside0.mk (Kd.V_below (vQ HV) hb); replace HG := Aside0.mk (Kd.S_below (sQ HG) hb); clear hb hd))
  go_wp2_with (first
    | (go_at_call 18; have hh := laws_heldInt64SS.calls k A10 c10 G 1 m w24 (Kd.S_reads' (sQ HG)).2.2 (by have := (Kd.S_reads' HG.out).2.1; have := HN.out; omega) HF.out.heldS; rw [← HN.out] at hh; (with_reducible refine hh.mono ?_); rintro e w25 ⟨rfl, hd⟩; have hb := hd.below; replace HB := Aside0.mk (below_step (beQ HB) hb); replace HG := Aside0.mk (Kd.S_below (sQ HG) hb); clear hb hd hh))
  go_ret
  exact ⟨rfl, HB.out⟩
set_option maxHeartbeats 4000000 in
set_option maxRecDepth 100000 in
theorem laws_FnExactNeighboursOf.calls (k : Nat) (a0_0 : Int) (A0_1 : Option Addr) (c0_1 : Nat) (l0_1 : List Int) (A1 : Option Addr) (c1 : Nat) (l1 : List Int) (r : Bool) (w : World) (hr0_1 : Kd.C (Kd.int .i64) w A0_1 l0_1.length l0_1) (hc0_1 : l0_1.length ≤ c0_1) (hr1 : Kd.C (Kd.int .i64) w A1 l1.length l1) (hc1 : l1.length ≤ c1) (hT : TabW w) (h : laws_FnExactNeighboursOf.f k a0_0 l0_1 l1 = some r) :
    Calls Tryd.prog 6 #[.agg #[.int .i64 a0_0, .slice A0_1 l0_1.length c0_1], .slice A1 l1.length c1] w fun e w' => e = .returned (.bool r) ∧ Below w.heap.size w w' := by
  unfold laws_FnExactNeighboursOf.f at h
  by_cases hw : (l1.length : Int) > 1048576
  · rw [if_pos hw] at h
    obtain rfl := Option.some.inj h
    have e1 : decide (1048576 < (l1.length : Int)) = true := decide_eq_true hw
    have e2 : decide (1048576 < l1.length) = true := decide_eq_true (by omega)
    clear hw h hr0_1 hc0_1 hr1 hc1 hT
    go_enter Tryd.func6, Tryd.ntmps6
    go_wp2_with ((with_reducible refine gate_dst (N := 2) rfl ?_); refine box_event ?hg (N := 2) ?hd (cs := #[.int .i64 a0_0, .slice A0_1 l0_1.length c0_1]) (t := 24) ?hr ?_; (case hd => rfl); (case hg => rfl); (case hr => first | (go_simp; done) | (go_simp; rfl)); intro g2 hg w1 hbox hb; have HB := Aside0.mk hb; clear hbox hb hg)
    go_ret
    exact ⟨rfl, HB.out⟩
  · rw [if_neg hw] at h
    replace h := Option.bind_eq_some_iff.mp h
    obtain ⟨z, hz, h⟩ := h
    by_cases hz0 : z < 0
    · rw [if_pos hz0] at h
      obtain rfl := Option.some.inj h
      have e1 : decide (1048576 < (l1.length : Int)) = false := decide_eq_false hw
      have e2 : decide (1048576 < l1.length) = false := decide_eq_false (by omega)
      have e3 : decide (z < 0) = true := decide_eq_true hz0
      have HR := Aside0.mk hr0_1; have HC := Aside0.mk hc0_1; have HZ := Aside0.mk hz
      have hu2 := Tryd.underlying24
      clear hw hz0 h hr0_1 hc0_1 hr1 hc1 hT hz
      go_enter Tryd.func6, Tryd.ntmps6
      go_wp2_with (first
        | ((with_reducible refine gate_dst (N := 2) rfl ?_); refine box_event ?hg (N := 2) ?hd (cs := #[.int .i64 a0_0, .slice A0_1 l0_1.length c0_1]) (t := 24) ?hr ?_; (case hd => rfl); (case hg => rfl); (case hr => first | (go_simp; done) | (go_simp; rfl)); intro g2 hg w1 hbox hb; have BX := Aside0.mk hbox; have HB := Aside0.mk hb; clear hbox hb hg; have x0 := bc BX 0; have x1 := bc BX 1)
        | (go_at_call 7; (with_reducible refine (laws_szAlphabet.calls a0_0 A0_1 c0_1 l0_1 1048576 z _ ?s1 HC.out HZ.out).mono ?_); (case s1 => exact Kd.C_below HR.out HB.out); rintro e w2 ⟨rfl, hb⟩; replace HB := Aside0.mk (below_step HB.out hb); clear hb x0 x1 BX))
      go_ret
      exact ⟨rfl, HB.out⟩
    · rw [if_neg hz0] at h
      replace h := Option.bind_eq_some_iff.mp h
      obtain ⟨⟨S, c⟩, h1, h⟩ := h
      replace h := Option.bind_eq_some_iff.mp h
      obtain ⟨⟨m1, x'⟩, h2, h⟩ := h
      replace h := Option.bind_eq_some_iff.mp h
      obtain ⟨⟨m2, y'⟩, h3, h⟩ := h
      replace h := Option.bind_eq_some_iff.mp h
      obtain ⟨⟨m, G⟩, h4, h⟩ := h
      split at h
      · rename_i hF
        obtain rfl := Option.some.inj h
        obtain ⟨f1, f2, f3, f4, f5, f6, f7, f8, f9⟩ := hF
        exact laws_FnExactNeighboursOf.main k a0_0 A0_1 c0_1 l0_1 A1 c1 l1 z S c m1 m2 m x' y' G w hr0_1 hc0_1 hr1 hc1 hT hw hz hz0 ⟨f1, f2, h1, f3, f4, f5, f6, h2, h3, f7, h4, f8, f9⟩
      · cases h
/-- More rounds, the same answer. -/
theorem laws_FnExactNeighboursOf.mono : ∀ a0 a1 a2 k, LeO (laws_FnExactNeighboursOf.f k a0 a1 a2) (laws_FnExactNeighboursOf.f (k + 1) a0 a1 a2) := by
  intro a0 a1 a2 k r h
  unfold laws_FnExactNeighboursOf.f at h ⊢
  split at h
  · rename_i hw; rw [if_pos hw]; exact h
  · rename_i hw; rw [if_neg hw]
    replace h := Option.bind_eq_some_iff.mp h
    obtain ⟨z, hz, h⟩ := h
    rw [hz, Option.bind_some]
    split at h
    · rename_i h0; rw [if_pos h0]; exact h
    · rename_i h0; rw [if_neg h0]
      replace h := Option.bind_eq_some_iff.mp h
      obtain ⟨s, h1, h⟩ := h
      replace h := Option.bind_eq_some_iff.mp h
      obtain ⟨a, h2, h⟩ := h
      replace h := Option.bind_eq_some_iff.mp h
      obtain ⟨b, h3, h⟩ := h
      replace h := Option.bind_eq_some_iff.mp h
      obtain ⟨m, h4, h⟩ := h
      rw [spec_NeighboursOf.mono _ _ _ k _ h1, Option.bind_some, laws_markAlphabet.mono _ _ _ k _ h2, Option.bind_some, laws_markInt64S.mono _ _ k _ h3, Option.bind_some, laws_markInt64SS.mono _ _ k _ h4, Option.bind_some]
      split at h
      · rename_i hF
        obtain ⟨f1, f2, f3, f4, f5, f6, f7, f8, f9⟩ := hF
        rw [if_pos ⟨laws_toAlphabet.mono _ _ k _ f1, laws_toInt64S.mono _ k _ f2, impl_NeighboursOf.mono _ _ _ k _ f3, laws_eqInt64SS.mono _ _ k _ f4, laws_eqAlphabet.mono _ _ _ _ k _ f5, laws_eqInt64S.mono _ _ k _ f6, f7, laws_heldInt64SS.mono _ _ k _ f8, f9⟩]
        exact h
      · cases h

end Go.Proofs.YtclabhnloohccaaDoor.G
