/- How the program's functions compute, function by function: each is told by a plain Lean function of the same answers, under the condition that this one answers. Written by a program of this project over the seat's translation; Lean checks it. -/
import Derived.Test.YtdbdlhjhacbjoaaDoorG0
import Derived.Test.YtdbdlhjhacbjoaaDoorGQ03
import Derived.Test.YtdbdlhjhacbjoaaDoorGQ04
import Derived.Test.YtdbdlhjhacbjoaaDoorGQ06
import Derived.Test.YtdbdlhjhacbjoaaDoorGQ09
import Derived.Test.YtdbdlhjhacbjoaaDoorGQ16a
namespace Go.Proofs.YtdbdlhjhacbjoaaDoor.G
open Go.RowKit Go.Proofs.YtdbdlhjhacbjoaaDoorW.PrintWords Go.Proofs.YtdbdlhjhacbjoaaDoorW.PrintLast Go.Proofs.YtdbdlhjhacbjoaaDoorW.PrintMore
attribute [local go_sem] max2_int min2_int max_two min_two max_three min_three max_four min_four   -- for this text's walks alone
set_option linter.unusedVariables false
set_option linter.unusedSimpArgs false

/-! ### spec_ComponentsOf: function 30 -/
mutual
def spec_ComponentsOf.l0 : Nat → List Int → List Int → List Int → Int → Option (List Int × Int)
 | 0, _, _, _, _ => none
 | k + 1, x0, x4, x5, x6 => if x6 < (x4.length : Int) then (if 0 ≤ x6 then (if x6 < (x5.length : Int) then (spec_ComponentsOf.l0 k x0 (x4.set (x6 : Int).toNat (Go.bits .or .i64 (rd x4 x6) (rd x5 x6))) x5 (wrap64 (x6 + 1))) else (none)) else (none)) else (spec_ComponentsOf.l1 k x0 x4 (([] : List Int)) 0 0)
def spec_ComponentsOf.l1 : Nat → List Int → List Int → List Int → Int → Int → Option (List Int × Int)
 | 0, _, _, _, _, _ => none
 | k + 1, x0, x4, x7, x8, x9 => if x9 < (x0.length : Int) then ((spec_l01Bit.f x8 x9).bind fun t367 => (if t367 = true then (spec_ComponentsOf.l1 k x0 x4 x7 x8 (wrap64 (x9 + 1))) else ((spec_l01Reach.f k x4 x9).bind fun t368 => (if x7.length < 17592186044416 then ((some (x7 ++ [t368] : List Int)).bind fun y369 => (if 0 ≤ (wrap64 ((y369.length : Int) - 1)) then (if (wrap64 ((y369.length : Int) - 1)) < (y369.length : Int) then (spec_ComponentsOf.l1 k x0 x4 y369 (Go.bits .or .i64 x8 (rd y369 (wrap64 ((y369.length : Int) - 1)))) (wrap64 (x9 + 1))) else (none)) else (none))) else (none))))) else (some (x7, 0))
end
def spec_ComponentsOf.f (k : Nat) (l0 : List Int) : Option (List Int × Int) := (spec_IsRelation.f k l0).bind fun t354 => (if t354 = true then ((spec_l01Own.f l0).bind fun t355 => ((spec_l01Converse.f k l0).bind fun t358 => (spec_ComponentsOf.l0 k l0 t355 t358 0))) else (some (([] : List Int), 1)))
theorem spec_ComponentsOf.mono_l : ∀ k, (∀ y0 y1 y2 y3, LeO (spec_ComponentsOf.l0 k y0 y1 y2 y3) (spec_ComponentsOf.l0 (k + 1) y0 y1 y2 y3)) ∧ (∀ y0 y1 y2 y3 y4, LeO (spec_ComponentsOf.l1 k y0 y1 y2 y3 y4) (spec_ComponentsOf.l1 (k + 1) y0 y1 y2 y3 y4))
 | 0 => ⟨fun _ _ _ _ r h => by simp [spec_ComponentsOf.l0] at h, fun _ _ _ _ _ r h => by simp [spec_ComponentsOf.l1] at h⟩
 | k + 1 => by
  obtain ⟨ih0, ih1⟩ := spec_ComponentsOf.mono_l k
  refine ⟨?_, ?_⟩
  ·intro y0 y1 y2 y3
   unfold spec_ComponentsOf.l0
   repeat' first
   | (with_reducible exact ih0 _ _ _ _)
   | (with_reducible exact ih1 _ _ _ _ _)
   | (with_reducible exact spec_IsRelation.mono _ _)
   | (with_reducible exact spec_l01Converse.mono _ _)
   | (with_reducible exact spec_l01Reach.mono _ _ _)
   | (with_reducible exact LeO.refl _)
   | (with_reducible exact LeO.none _)
   | (with_reducible refine LeO.ite ?_ ?_)
   | (with_reducible refine LeO.bind ?_ (fun _ => ?_))
   | exact ih0 _ _ _ _
   | exact ih1 _ _ _ _ _
   | exact spec_IsRelation.mono _ _
   | exact spec_l01Converse.mono _ _
   | exact spec_l01Reach.mono _ _ _
   | exact LeO.none _
   | refine LeO.ite ?_ ?_
   | refine LeO.bind ?_ (fun _ => ?_)
  ·intro y0 y1 y2 y3 y4
   unfold spec_ComponentsOf.l1
   repeat' first
   | (with_reducible exact ih0 _ _ _ _)
   | (with_reducible exact ih1 _ _ _ _ _)
   | (with_reducible exact spec_IsRelation.mono _ _)
   | (with_reducible exact spec_l01Converse.mono _ _)
   | (with_reducible exact spec_l01Reach.mono _ _ _)
   | (with_reducible exact LeO.refl _)
   | (with_reducible exact LeO.none _)
   | (with_reducible refine LeO.ite ?_ ?_)
   | (with_reducible refine LeO.bind ?_ (fun _ => ?_))
   | exact ih0 _ _ _ _
   | exact ih1 _ _ _ _ _
   | exact spec_IsRelation.mono _ _
   | exact spec_l01Converse.mono _ _
   | exact spec_l01Reach.mono _ _ _
   | exact LeO.none _
   | refine LeO.ite ?_ ?_
   | refine LeO.bind ?_ (fun _ => ?_)
theorem spec_ComponentsOf.mono : ∀ a0 k, LeO (spec_ComponentsOf.f k a0) (spec_ComponentsOf.f (k + 1) a0) := by
 intro a0 k
 obtain ⟨ih0, ih1⟩ := spec_ComponentsOf.mono_l k
 unfold spec_ComponentsOf.f
 repeat' first
   | (with_reducible exact ih0 _ _ _ _)
   | (with_reducible exact ih1 _ _ _ _ _)
   | (with_reducible exact spec_IsRelation.mono _ _)
   | (with_reducible exact spec_l01Converse.mono _ _)
   | (with_reducible exact spec_l01Reach.mono _ _ _)
   | (with_reducible exact LeO.refl _)
   | (with_reducible exact LeO.none _)
   | (with_reducible refine LeO.ite ?_ ?_)
   | (with_reducible refine LeO.bind ?_ (fun _ => ?_))
   | exact ih0 _ _ _ _
   | exact ih1 _ _ _ _ _
   | exact spec_IsRelation.mono _ _
   | exact spec_l01Converse.mono _ _
   | exact spec_l01Reach.mono _ _ _
   | exact LeO.none _
   | refine LeO.ite ?_ ?_
   | refine LeO.bind ?_ (fun _ => ?_)
def spec_ComponentsOf.T7 : Bool × List (List Nat × List Nat) := (true, [([], []), ([], []), ([], []), ([], []), ([2, 3], [2, 3]), ([4], [4]), ([], []), ([], []), ([6, 7], [6, 7]), ([8], [8]), ([5, 9], [5, 9]), ([0, 1, 0, 1, 2, 3, 4, 5, 6, 7, 8, 9, 10], [0, 1]), ([11, 10, 0, 1, 2, 3, 4, 5, 6, 7, 8, 9, 10], [10, 11])])
def spec_ComponentsOf.B7 : List Nat := [0, 0, 0, 0, 12, 28, 0, 0, 192, 448, 1020, 2047, 4095]
theorem spec_ComponentsOf.tab7 : rtab .any (opsOf Tryd.f30 7) = spec_ComponentsOf.T7 := by kernel_rfl
theorem spec_ComponentsOf.bits7 : waitsOk spec_ComponentsOf.T7.2 spec_ComponentsOf.B7 = true := by kernel_rfl
set_option maxHeartbeats 8000000 in
set_option maxRecDepth 100000 in
theorem spec_ComponentsOf.calls (k : Nat) (A0 : Option Addr) (c0 : Nat) (l0 : List Int) (r1 : List Int) (r2 : Int) (w : World) (hr0 : Kd.C (Kd.int .i64) w A0 l0.length l0) (hc0 : l0.length ≤ c0) (h : spec_ComponentsOf.f k l0 = some (r1, r2)) :
  Calls Tryd.prog 30 #[.slice A0 l0.length c0] w fun e w' => ∃ v0_ : Value, e = .returned (.tuple #[v0_, .int .i64 r2]) ∧ Kd.R (Kd.int .i64) 2 w' w.heap.size (fun _ => True) v0_ r1 ∧ Below w.heap.size w w' := by
 have HR0 := Aside0.mk hr0; have HC0 := Aside0.mk hc0; clear hr0 hc0; have HB := Aside0.mk (Below.refl w.heap.size w)
 have H : ((spec_IsRelation.f k l0).bind fun t354 => (if t354 = true then ((spec_l01Own.f l0).bind fun t355 => ((spec_l01Converse.f k l0).bind fun t358 => (spec_ComponentsOf.l0 k l0 t355 t358 0))) else (some (([] : List Int), 1)))) = some (r1, r2) := h
 clear h; replace H := Option.bind_eq_some_iff.mp H; obtain ⟨t354, A20, H⟩ := H
 replace H : (if t354 = true then ((spec_l01Own.f l0).bind fun t355 => ((spec_l01Converse.f k l0).bind fun t358 => (spec_ComponentsOf.l0 k l0 t355 t358 0))) else (some (([] : List Int), 1))) = some (r1, r2) := H
 have A2 := Aside0.mk A20; clear A20
 by_cases c3 : t354 = true
 ·subst c3
  have H1 : ((spec_l01Own.f l0).bind fun t355 => ((spec_l01Converse.f k l0).bind fun t358 => (spec_ComponentsOf.l0 k l0 t355 t358 0))) = some (r1, r2) := by rw [if_pos rfl] at H; exact H
  clear H; have H := H1; clear H1; replace H := Option.bind_eq_some_iff.mp H; obtain ⟨t355, A40, H⟩ := H
  replace H : ((spec_l01Converse.f k l0).bind fun t358 => (spec_ComponentsOf.l0 k l0 t355 t358 0)) = some (r1, r2) := H
  have A4 := Aside0.mk A40; clear A40; replace H := Option.bind_eq_some_iff.mp H; obtain ⟨t358, A50, H⟩ := H
  replace H : (spec_ComponentsOf.l0 k l0 t355 t358 0) = some (r1, r2) := H
  have A5 := Aside0.mk A50; clear A50
  have H' := Aside0.mk H
  clear H
  go_enter Tryd.func30, Tryd.ntmps30
  go_wp2_with (first | ((with_reducible refine gate_callee (f := 52) rfl ?_); refine goesL_ (some 11) rfl rfl Tryd.func52 (by kernel_rfl) rfl #[.slice A0 l0.length c0] rfl lz ?_; (with_reducible refine (spec_IsRelation.calls k _ _ l0 true _ ?side1 ?side2 A2.out).mono ?_); (case side1 => have q_ := Aside0.mk HR0.out; exact cQ q_); (case side2 => exact HC0.out); rintro e w' ⟨rfl, ⟨nd, rfl⟩⟩; refine ⟨_, rfl, ?_⟩) | ((with_reducible refine gate_callee (f := 62) rfl ?_); refine goesL_ (some 14) rfl rfl Tryd.func62 (by kernel_rfl) rfl #[.slice A0 l0.length c0] rfl lz ?_; (with_reducible refine (spec_l01Own.calls _ _ l0 t355 _ ?side1 ?side2 A4.out).mono ?_); (case side1 => have q_ := Aside0.mk HR0.out; exact cQ q_); (case side2 => exact HC0.out); rintro e w6 ⟨v356, rfl, ho0, hb⟩; refine ⟨_, rfl, ?_⟩; have HO357 := Aside0.mk (Kd.R_lower ho0 (below_size (beQ HB))); replace HB := Aside0.mk (below_step (beQ HB) hb); (try clear hb); (try clear hb2); (try clear hk); (try clear hi); (try clear ho0)) | ((with_reducible refine gate_callee (f := 63) rfl ?_); refine goesL_ (some 16) rfl rfl Tryd.func63 (by kernel_rfl) rfl #[.slice A0 l0.length c0] rfl lz ?_; (with_reducible refine (spec_l01Converse.calls k _ _ l0 t358 _ ?side1 ?side2 A5.out).mono ?_); (case side1 => have q_ := Aside0.mk (Kd.C_below HR0.out HB.out); exact cQ q_); (case side2 => exact HC0.out); rintro e w7 ⟨v359, rfl, ho0, hb⟩; refine ⟨_, rfl, ?_⟩; have HO360 := Aside0.mk (Kd.R_lower (Kd.R_new' ho0 (Kd.R_lt (kdQ HO357))) (below_size (beQ HB))); replace HO357 := Aside0.mk (Kd.R_elder' (kdQ HO357) (Kd.R_base ho0) hb); replace HB := Aside0.mk (below_step (beQ HB) hb); (try clear hb); (try clear hb2); (try clear hk); (try clear hi); (try clear ho0)))
  go_loopg [6] k (fun kq v6 w' => ∃ (x4_1 : List Int) (x6_1 : Int), v6 = .int .i64 x6_1 ∧ Aside0 (spec_ComponentsOf.l0 kq l0 x4_1 t358 x6_1 = some (r1, r2)) ∧ Aside0 (kq ≤ k) ∧ Aside0 (Kd.R (Kd.int .i64) 2 w' w.heap.size (fun k_ => some k_ ≠ (v359 : Value).ownBlock) v356 x4_1) ∧ Aside0 (Kd.R (Kd.int .i64) 2 w' w.heap.size (fun k_ => some k_ ≠ (v356 : Value).ownBlock) v359 t358) ∧ Aside0 (Below w.heap.size w w'))
  case atStart => exact ⟨(t355), (0), sz, H', ⟨Nat.le_refl _⟩, ⟨by (with_reducible repeat (first | apply Kd.R_alloc | apply Kd.R_drewN | apply Kd.R_drew)); exact Kd.R_mono HO357.out (fun _ hk => hk.2)⟩, ⟨by (with_reducible repeat (first | apply Kd.R_alloc | apply Kd.R_drewN | apply Kd.R_drew)); exact Kd.R_mono HO360.out (fun _ hk => hk.2)⟩, ⟨beQ HB⟩⟩
  case round =>
   clear H'
   try clear p2
   try clear c3
   try clear c5
   try clear c6
   obtain ⟨x4_1, x6_1, rfl, HA, HK1, HO_4, HO_5, HB⟩ := hrel
   cases gk with
   | zero => exact absurd HA.out (by simp [spec_ComponentsOf.l0])
   | succ k1 =>
    have H := HA.out; clear HA
    simp only [spec_ComponentsOf.l0] at H
    by_cases c8 : x6_1 < (x4_1.length : Int)
    ·rw [if_pos c8] at H
     have c8b0 : decide (x6_1 < (x4_1.length : Int)) = true := decide_eq_true c8
     clear c8
     by_cases c9 : 0 ≤ x6_1
     ·rw [if_pos c9] at H
      have c9b0 : decide (0 ≤ x6_1) = true := decide_eq_true c9
      clear c9
      by_cases c10 : x6_1 < (t358.length : Int)
      ·rw [if_pos c10] at H
       have c10b0 : decide (x6_1 < (t358.length : Int)) = true := decide_eq_true c10
       clear c10
       obtain ⟨y363, hy363⟩ : ∃ y_ : List Int, y_ = (x4_1.set (x6_1 : Int).toNat (Go.bits .or .i64 (rd x4_1 x6_1) (rd t358 x6_1))) := ⟨_, rfl⟩
       replace H : (spec_ComponentsOf.l0 k1 l0 y363 t358 (wrap64 (x6_1 + 1))) = some (r1, r2) := by first | (rw [hy363]; with_reducible exact H) | (have H2_ := (Option.bind_some _ _).symm.trans H; rw [hy363]; with_reducible exact H2_) | (have H2_ := (Option.bind_some _ _).symm.trans H; with_reducible exact H2_) | with_reducible exact H | (rw [hy363]; exact H) | exact H
       have Ny363 := Aside0.mk hy363; clear hy363
       have H' := Aside0.mk H
       clear H; obtain ⟨Ao12, co12, eo12⟩ := Kd.R_slice HO_4.out; subst eo12
       try go_wp2
       replace HO_4 := Aside0.mk (Kd.R_drew HO_4.out); replace HO_5 := Aside0.mk (Kd.R_drew HO_5.out); replace HB := Aside0.mk (below_drew1 HB.out)
       have p361 : 0 ≤ (x6_1 : Int) := of_decide_eq_true (by first | (with_reducible assumption) | assumption)
       have q361 : x6_1 < (x4_1.length : Int) := of_decide_eq_true (by first | (with_reducible assumption) | assumption)
       obtain ⟨ad361, e361, hx361_0⟩ := Kd.at_int (Kd.R_reads' HO_4.out).2.2 x6_1 p361 q361; cases e361; replace p361 := eq_true p361; replace q361 := eq_true q361; obtain ⟨Ao14, co14, eo14⟩ := Kd.R_slice HO_5.out
       (first | subst eo14 | (injection eo14 with f1_ f2_ f3_; have f4_ := f1_.symm; have f5_ := f3_.symm; clear f1_ f2_ f3_; subst f4_; subst f5_))
       have p362 : 0 ≤ (x6_1 : Int) := of_decide_eq_true (by first | (with_reducible assumption) | assumption)
       have q362 : x6_1 < (t358.length : Int) := of_decide_eq_true (by first | (with_reducible assumption) | assumption)
       obtain ⟨ad362, e362, hx362_0⟩ := Kd.at_int (Kd.R_reads' HO_5.out).2.2 x6_1 p362 q362; cases e362; replace p362 := eq_true p362; replace q362 := eq_true q362
       have p11 : 0 ≤ (x6_1 : Int) := of_decide_eq_true (by first | (with_reducible assumption) | assumption)
       have q11 : (x6_1 : Int) < ((x4_1.length : Int) : Int) := of_decide_eq_true (by first | (with_reducible assumption) | assumption)
       obtain ⟨go11, co11, eo11, gb11, gl11, cl11, HG11⟩ := Kd.R_form HO_4.out (by omega)
       (first | cases eo11 | (injection eo11 with ea_ en_ ec_; (first | subst ea_ | (injection ea_ with ea_; subst ea_)); subst ec_; clear en_))
       have GB11 := Aside0.mk gb11; have GG11 := Aside0.mk HG11; clear gb11 gl11 HG11
       (first | simp only [add_plain] at hx361_0 | skip)
       obtain ⟨hx11_0, hf11_0⟩ := Kd.R_celln 0 HO_4.out (x6_1 : Int) p11 q11; replace p11 := eq_true p11; replace q11 := eq_true q11; have HP15 := Kd.R_putn HO_4.out (x6_1 : Int) (Go.bits .or .i64 (rd x4_1 x6_1) (rd t358 x6_1)); rw [← Ny363.out] at HP15; have HQ15 := Aside0.mk HP15; clear HP15
       refine start_ (n := 13) (S := fun w' => w'.cell? ⟨go11, (x6_1).toNat, none⟩ = some (.int .i64 (rd x4_1 x6_1)) ∧ w'.cell? (ad362.add (x6_1).toNat) = some (.int .i64 (rd t358 x6_1))) (ds := [12]) #[false, false, false, false, false, false, false, false, false, false, false, false, false] (by kernel_rfl) rfl rfl ⟨hx361_0, hx362_0⟩ (fun hHeld => ?_); refine with_tabW spec_ComponentsOf.tab7 spec_ComponentsOf.bits7 (fun HT_ HW_ => ?_)
       generalize wr.drew = w13 at HO_4 HO_5 HB GG11 HQ15 hf11_0 hx11_0 hx361_0 hx362_0 hHeld ⊢
       refine pure_ (i := 0) (N := some 23) (v := ?_) (a' := ?_) #[true, false, false, false, false, false, false, false, false, false, false, false, false] rfl rfl (any_of HT_.out (by kernel_rfl)) (fun _ _ _ h => h) (Or.inl ⟨by rfl, ?_⟩) ?_ ?_
       rotate_left
       ·intro w'
        go_simp
        with_reducible rfl
       rotate_left
       ·simp only [Act.put, s1, s2, s3, i64_w, i32_w]
        rfl
       refine pure_ (i := 1) (N := some 24) (v := ?_) (a' := ?_) #[true, true, false, false, false, false, false, false, false, false, false, false, false] rfl rfl (any_of HT_.out (by kernel_rfl)) (fun _ _ _ h => h) (Or.inl ⟨by rfl, ?_⟩) ?_ ?_
       rotate_left
       ·intro w'
        go_simp
        with_reducible rfl
       rotate_left
       ·simp only [Act.put, s1, s2, s3, i64_w, i32_w]
        rfl
       refine pure_ (i := 2) (N := some 25) (v := ?_) (a' := ?_) #[true, true, true, false, false, false, false, false, false, false, false, false, false] rfl rfl (any_of HT_.out (by kernel_rfl)) (fun _ _ _ h => h) (Or.inl ⟨by rfl, ?_⟩) ?_ ?_
       rotate_left
       ·intro w'
        go_simp
        with_reducible rfl
       rotate_left
       ·simp only [Act.put, s1, s2, s3, i64_w, i32_w]
        rfl
       refine pure_ (i := 3) (N := some 26) (v := ?_) (a' := ?_) #[true, true, true, true, false, false, false, false, false, false, false, false, false] rfl rfl (any_of HT_.out (by kernel_rfl)) (fun _ _ _ h => h) (Or.inl ⟨by rfl, ?_⟩) ?_ ?_
       rotate_left
       ·intro w'
        go_simp
        with_reducible rfl
       rotate_left
       ·simp only [Act.put, s1, s2, s3, i64_w, i32_w]
        rfl
       refine pure_ (i := 4) (N := some 27) (v := ?_) (a' := ?_) #[true, true, true, true, true, false, false, false, false, false, false, false, false] rfl rfl (any_of HT_.out (by kernel_rfl)) (fun _ _ _ h => h) (Or.inl ⟨by rfl, ?_⟩) ?_ ?_
       rotate_left
       ·intro w'
        go_simp
        with_reducible rfl
       rotate_left
       ·simp only [Act.put, s1, s2, s3, i64_w, i32_w]
        rfl
       refine pure_ (i := 6) (N := some 29) (v := ?_) (a' := ?_) #[true, true, true, true, true, false, true, false, false, false, false, false, false] rfl rfl (any_of HT_.out (by kernel_rfl)) (fun _ _ _ h => h) (Or.inl ⟨by rfl, ?_⟩) ?_ ?_
       rotate_left
       ·intro w'
        go_simp
        with_reducible rfl
       rotate_left
       ·simp only [Act.put, s1, s2, s3, i64_w, i32_w]
        rfl
       refine pure_ (i := 7) (N := some 30) (v := ?_) (a' := ?_) #[true, true, true, true, true, false, true, true, false, false, false, false, false] rfl rfl (any_of HT_.out (by kernel_rfl)) (fun _ _ _ h => h) (Or.inl ⟨by rfl, ?_⟩) ?_ ?_
       rotate_left
       ·intro w'
        go_simp
        with_reducible rfl
       rotate_left
       ·simp only [Act.put, s1, s2, s3, i64_w, i32_w]
        rfl
       refine pure_ (i := 8) (N := some 31) (v := ?_) (a' := ?_) #[true, true, true, true, true, false, true, true, true, false, false, false, false] rfl rfl (any_of HT_.out (by kernel_rfl)) (fun _ _ _ h => h) (Or.inl ⟨by rfl, ?_⟩) ?_ ?_
       rotate_left
       ·intro w'
        go_simp
        with_reducible rfl
       rotate_left
       ·simp only [Act.put, s1, s2, s3, i64_w, i32_w]
        rfl
       refine take_ (i := 5) (N := some 28) (v := ?_) (a' := ?_) #[true, true, true, true, true, true, true, true, true, false, false, false, false] rfl rfl (take_ofW HT_.out HW_.out (by kernel_rfl)) (fun _ _ _ h => h) (Or.inl ⟨by rfl, ?_⟩) hHeld ?_ ?_
       rotate_left
       ·rintro w' ⟨s0, s1⟩
        go_simp
        with_reducible rfl
       rotate_left
       ·simp only [Act.put, s1, s2, s3, i64_w, i32_w]
        rfl
       refine take_ (i := 9) (N := some 32) (v := ?_) (a' := ?_) #[true, true, true, true, true, true, true, true, true, true, false, false, false] rfl rfl (take_ofW HT_.out HW_.out (by kernel_rfl)) (fun _ _ _ h => h) (Or.inl ⟨by rfl, ?_⟩) hHeld ?_ ?_
       rotate_left
       ·rintro w' ⟨s0, s1⟩
        go_simp
        with_reducible rfl
       rotate_left
       ·simp only [Act.put, s1, s2, s3, i64_w, i32_w]
        rfl
       refine pure_ (i := 10) (N := some 33) (v := ?_) (a' := ?_) #[true, true, true, true, true, true, true, true, true, true, true, false, false] rfl rfl (any_of HT_.out (by kernel_rfl)) (fun _ _ _ h => h) (Or.inl ⟨by rfl, ?_⟩) ?_ ?_
       rotate_left
       ·intro w'
        go_simp
        with_reducible rfl
       rotate_left
       ·simp only [Act.put, s1, s2, s3, i64_w, i32_w]
        rfl
       refine pure_ (i := 11) (N := some 34) (v := ?_) (a' := ?_) #[true, true, true, true, true, true, true, true, true, true, true, true, false] rfl rfl (any_of HT_.out (by kernel_rfl)) (fun _ _ _ h => h) (Or.inl ⟨by rfl, ?_⟩) ?_ ?_
       rotate_left
       ·intro w'
        go_simp
        with_reducible rfl
       rotate_left
       ·simp only [Act.put, s1, s2, s3, i64_w, i32_w]
        rfl
       refine last_ (i := 12) (N := none) #[true, true, true, true, true, true, true, true, true, true, true, true, true] rfl rfl (one_of HT_.out (by kernel_rfl)) (by decide) (fun K hK => ?_)
       refine skip_ (w1 := ?_) (by rfl) rfl ?_ ?_
       rotate_left
       ·go_simp
        rfl
       refine hK.out _ _ ?_
       clear hK K
       refine done_ (done_of HT_.out (by kernel_rfl)) ?_
       try go_wp2
       go_roundg k1
       case measure => have := HK1.out; omega
       case rel => exact ⟨(y363), (wrap64 (x6_1 + 1)), sz, H', ⟨by have := HK1.out; omega⟩, ⟨by (with_reducible repeat (first | apply Kd.R_alloc | apply Kd.R_drewN | apply Kd.R_drew)); exact HQ15.out⟩, ⟨by (with_reducible repeat (first | apply Kd.R_alloc | apply Kd.R_drewN | apply Kd.R_drew)); exact Kd.R_mono (Kd.R_far (p := ⟨go11, (x6_1 : Int).toNat, none⟩) (Kd.R_mono HO_5.out (fun k_ hk => (⟨hk, fun e_ => hk (by rw [e_]; rfl)⟩ : _ ∧ k_ ≠ go11))) (fun _ hk => hk.2) (.int .i64 (Go.bits .or .i64 (rd x4_1 x6_1) (rd t358 x6_1)))) (fun _ hk => hk.1)⟩, ⟨by repeat (first | (with_reducible first | exact HB.out | apply below_alloc | apply pw_below_drewN | apply below_drew1 | refine below_set ?_ GB11.out) | exact HB.out)⟩⟩
      ·rw [if_neg c10] at H
       exact absurd H (by simp)
     ·rw [if_neg c9] at H
      exact absurd H (by simp)
    ·rw [if_neg c8] at H
     have c8b0 : decide (x6_1 < (x4_1.length : Int)) = false := decide_eq_false c8
     clear c8
     obtain ⟨y364, hy364⟩ : ∃ y_ : List Int, y_ = (([] : List Int)) := ⟨_, rfl⟩
     replace H : (spec_ComponentsOf.l1 k1 l0 x4_1 y364 0 0) = some (r1, r2) := by first | (rw [hy364]; with_reducible exact H) | (have H2_ := (Option.bind_some _ _).symm.trans H; rw [hy364]; with_reducible exact H2_) | (have H2_ := (Option.bind_some _ _).symm.trans H; with_reducible exact H2_) | with_reducible exact H | (rw [hy364]; exact H) | exact H
     have Ny364 := Aside0.mk hy364; clear hy364
     have H' := Aside0.mk H
     clear H; obtain ⟨Ao16, co16, eo16⟩ := Kd.R_slice HO_4.out; subst eo16
     go_wp2_with (first | ((with_reducible refine gate_dst (N := 35) rfl ?_); refine Kd.R_lit (Kd.int .i64) _ 2 ?hg (N := 35) ?hd (xs := ([] : List Int)) (inner := []) (ok := fun _ => True) (okp := fun _ => True) ?hr ?hp (fun _ hk => hk) trivial (Below.refl _ _) (Nat.le_refl _) (by simp) ?_; (case hd => rfl); (case hg => rfl); (case hr => first | (go_simp; done) | (go_simp; rfl)); (case hp => exact (Reps.none _ _)); intro v365 w17 ho18 hb hg_ hnew_; clear hg_ hnew_; (first | rw [← Ny364.out] at ho18 | (simp only [Int.reduceToNat] at ho18; rw [← Ny364.out] at ho18)); have HO366 := Aside0.mk (Kd.R_lower (Kd.R_new' (Kd.R_new' ho18 (Kd.R_lt (kdQ HO_4))) (Kd.R_lt (kdQ HO_5))) (below_size (beQ HB))); replace HO_4 := Aside0.mk (Kd.R_elder' (kdQ HO_4) (Kd.R_base ho18) hb); replace HO_5 := Aside0.mk (Kd.R_elder' (kdQ HO_5) (Kd.R_base ho18) hb); replace HB := Aside0.mk (below_step (beQ HB) hb); clear hb ho18))
     go_loopg [7, 8, 9] k1 (fun kq v7 v8 v9 w' => ∃ (x7_2 : List Int) (x8_2 : Int) (x9_2 : Int), v8 = .int .i64 x8_2 ∧ v9 = .int .i64 x9_2 ∧ Aside0 (spec_ComponentsOf.l1 kq l0 x4_1 x7_2 x8_2 x9_2 = some (r1, r2)) ∧ Aside0 (kq ≤ k1) ∧ Aside0 (Kd.R (Kd.int .i64) 2 w' w.heap.size (fun k_ => some k_ ≠ (v7 : Value).ownBlock) (.slice Ao16 x4_1.length co16) x4_1) ∧ Aside0 (Kd.R (Kd.int .i64) 2 w' w.heap.size (fun k_ => some k_ ≠ ((.slice Ao16 x4_1.length co16) : Value).ownBlock) v7 x7_2) ∧ Aside0 (Below w.heap.size w w'))
     case atStart => exact ⟨(y364), (0), (0), sz, sz, H', ⟨Nat.le_refl _⟩, ⟨by (with_reducible repeat (first | apply Kd.R_alloc | apply Kd.R_drewN | apply Kd.R_drew)); exact Kd.R_mono HO_4.out (fun _ hk => hk.2)⟩, ⟨by (with_reducible repeat (first | apply Kd.R_alloc | apply Kd.R_drewN | apply Kd.R_drew)); exact Kd.R_mono HO366.out (fun _ hk => hk.1.2)⟩, ⟨beQ HB⟩⟩
     case round =>
      clear H'
      try clear c1
      try clear p1
      try clear q1
      try clear hx1
      try clear hf1
      try clear p2
      try clear c3
      try clear p3
      try clear q3
      try clear hx3
      try clear c5
      try clear c6
      try clear p6
      try clear c8
      try clear c8b0
      try clear c9
      try clear c9b0
      try clear c10
      try clear c10b0
      try clear p11
      try clear q11
      try clear hx11
      try clear hf11
      try clear hx11_0
      try clear hx361_0
      try clear hx362_0
      try clear p11
      try clear p2
      try clear p361
      try clear p362
      try clear q11
      try clear q361
      try clear q362
      obtain ⟨x7_2, x8_2, x9_2, rfl, rfl, HA, HK2, HO_4, HO_7, HB⟩ := hrel
      cases gk with
      | zero => exact absurd HA.out (by simp [spec_ComponentsOf.l1])
      | succ k2 =>
       have H := HA.out; clear HA
       simp only [spec_ComponentsOf.l1] at H
       by_cases c19 : x9_2 < (l0.length : Int)
       ·rw [if_pos c19] at H
        have c19b0 : decide (x9_2 < (l0.length : Int)) = true := decide_eq_true c19
        clear c19; replace H := Option.bind_eq_some_iff.mp H; obtain ⟨t367, A200, H⟩ := H
        replace H : (if t367 = true then (spec_ComponentsOf.l1 k2 l0 x4_1 x7_2 x8_2 (wrap64 (x9_2 + 1))) else ((spec_l01Reach.f k2 x4_1 x9_2).bind fun t368 => (if x7_2.length < 17592186044416 then ((some (x7_2 ++ [t368] : List Int)).bind fun y369 => (if 0 ≤ (wrap64 ((y369.length : Int) - 1)) then (if (wrap64 ((y369.length : Int) - 1)) < (y369.length : Int) then (spec_ComponentsOf.l1 k2 l0 x4_1 y369 (Go.bits .or .i64 x8_2 (rd y369 (wrap64 ((y369.length : Int) - 1)))) (wrap64 (x9_2 + 1))) else (none)) else (none))) else (none)))) = some (r1, r2) := H
        have A20 := Aside0.mk A200; clear A200
        by_cases c21 : t367 = true
        ·subst c21
         have H1 : (spec_ComponentsOf.l1 k2 l0 x4_1 x7_2 x8_2 (wrap64 (x9_2 + 1))) = some (r1, r2) := by rw [if_pos rfl] at H; exact H
         clear H; have H := H1; clear H1
         have H' := Aside0.mk H
         clear H
         go_wp2_with (first | ((with_reducible refine gate_callee (f := 53) rfl ?_); refine goesL_ (some 44) rfl rfl Tryd.func53 (by kernel_rfl) rfl #[.int .i64 x8_2, .int .i64 x9_2] rfl lz ?_; (with_reducible refine (spec_l01Bit.calls x8_2 x9_2 true _ A20.out).mono ?_); rintro e w' ⟨rfl, ⟨nd, rfl⟩⟩; refine ⟨_, rfl, ?_⟩))
         go_roundg k2
         case measure => have := HK1.out; have := HK2.out; omega
         case rel => exact ⟨(x7_2), (x8_2), (wrap64 (x9_2 + 1)), sz, sz, H', ⟨by have := HK1.out; have := HK2.out; omega⟩, ⟨kdQ HO_4⟩, ⟨kdQ HO_7⟩, ⟨beQ HB⟩⟩
        ·replace c21 := Bool.eq_false_iff.mpr c21
         subst c21
         have H1 : ((spec_l01Reach.f k2 x4_1 x9_2).bind fun t368 => (if x7_2.length < 17592186044416 then ((some (x7_2 ++ [t368] : List Int)).bind fun y369 => (if 0 ≤ (wrap64 ((y369.length : Int) - 1)) then (if (wrap64 ((y369.length : Int) - 1)) < (y369.length : Int) then (spec_ComponentsOf.l1 k2 l0 x4_1 y369 (Go.bits .or .i64 x8_2 (rd y369 (wrap64 ((y369.length : Int) - 1)))) (wrap64 (x9_2 + 1))) else (none)) else (none))) else (none))) = some (r1, r2) := by rw [if_neg (show ¬ (false = true) by decide)] at H; exact H
         clear H; have H := H1; clear H1; replace H := Option.bind_eq_some_iff.mp H; obtain ⟨t368, A220, H⟩ := H
         replace H : (if x7_2.length < 17592186044416 then ((some (x7_2 ++ [t368] : List Int)).bind fun y369 => (if 0 ≤ (wrap64 ((y369.length : Int) - 1)) then (if (wrap64 ((y369.length : Int) - 1)) < (y369.length : Int) then (spec_ComponentsOf.l1 k2 l0 x4_1 y369 (Go.bits .or .i64 x8_2 (rd y369 (wrap64 ((y369.length : Int) - 1)))) (wrap64 (x9_2 + 1))) else (none)) else (none))) else (none)) = some (r1, r2) := H
         have A22 := Aside0.mk A220; clear A220
         by_cases c23 : x7_2.length < 17592186044416
         ·rw [if_pos c23] at H
          have LMc23 := Aside0.mk c23; clear c23
          obtain ⟨y369, hy369⟩ : ∃ y_ : List Int, y_ = (x7_2 ++ [t368]) := ⟨_, rfl⟩
          replace H : (if 0 ≤ (wrap64 ((y369.length : Int) - 1)) then (if (wrap64 ((y369.length : Int) - 1)) < (y369.length : Int) then (spec_ComponentsOf.l1 k2 l0 x4_1 y369 (Go.bits .or .i64 x8_2 (rd y369 (wrap64 ((y369.length : Int) - 1)))) (wrap64 (x9_2 + 1))) else (none)) else (none)) = some (r1, r2) := by first | (rw [hy369]; with_reducible exact H) | (have H2_ := (Option.bind_some _ _).symm.trans H; rw [hy369]; with_reducible exact H2_) | (have H2_ := (Option.bind_some _ _).symm.trans H; with_reducible exact H2_) | with_reducible exact H | (rw [hy369]; exact H) | exact H
          have Ny369 := Aside0.mk hy369; clear hy369
          obtain ⟨ji24, hji24⟩ : ∃ j_ : Int, (wrap64 ((y369.length : Int) - 1)) = j_ := ⟨_, rfl⟩
          replace H : (if 0 ≤ (ji24) then (if (ji24) < (y369.length : Int) then (spec_ComponentsOf.l1 k2 l0 x4_1 y369 (Go.bits .or .i64 x8_2 (rd y369 (ji24))) (wrap64 (x9_2 + 1))) else (none)) else (none)) = some (r1, r2) := by first | (rw [hji24] at H; exact H) | (simp only [hji24] at H ⊢; exact H)
          (try rw [hji24] at A20)
          (try rw [hji24] at A22)
          have hji24w : (IntKind.i64.wrap ((y369.length : Int) - 1)) = ji24 := (i64_w _).trans hji24
          by_cases c25 : 0 ≤ (ji24)
          ·rw [if_pos c25] at H
           have c25b0 : decide (0 ≤ (ji24)) = true := decide_eq_true c25
           clear c25
           by_cases c26 : (ji24) < (y369.length : Int)
           ·rw [if_pos c26] at H
            have c26b0 : decide ((ji24) < (y369.length : Int)) = true := decide_eq_true c26
            clear c26
            have H' := Aside0.mk H
            clear H
            go_wp2_with (first | ((with_reducible refine gate_callee (f := 53) rfl ?_); refine goesL_ (some 44) rfl rfl Tryd.func53 (by kernel_rfl) rfl #[.int .i64 x8_2, .int .i64 x9_2] rfl lz ?_; (with_reducible refine (spec_l01Bit.calls x8_2 x9_2 false _ A20.out).mono ?_); rintro e w' ⟨rfl, ⟨nd, rfl⟩⟩; refine ⟨_, rfl, ?_⟩) | ((with_reducible refine gate_callee (f := 64) rfl ?_); refine goesL_ (some 49) rfl rfl Tryd.func64 (by kernel_rfl) rfl #[.slice Ao16 x4_1.length co16, .int .i64 x9_2] rfl lz ?_; (with_reducible refine (spec_l01Reach.calls k2 _ _ x4_1 x9_2 t368 _ ?side1 ?side2 A22.out).mono ?_); (case side1 => have q_ := Aside0.mk (Kd.R_reads' HO_4.out).2.2; exact cQ q_); (case side2 => exact (Kd.R_reads' HO_4.out).2.1); rintro e w' ⟨rfl, ⟨nd, rfl⟩⟩; refine ⟨_, rfl, ?_⟩) | ((with_reducible refine gate_builtin (b := .append) (xs := #[.tmp 46, .tmp 50]) rfl ?_); at_builtin; refine Kd.R_append (Kd.int .i64) (w0 := w) w.heap.size rfl (.tmp 46) (.tmp 50) 28 2 (.int .i64 0) 8 rfl Tryd.underlying28 info2 rfl (by decide) (by omega) u7 x7_2 t368 [.int .i64 t368] (fun k_ => some k_ ≠ (.slice Ao16 x4_1.length co16 : Value).ownBlock) (fun _ => False) rfl rfl ?aP (fun _ hk => hk.elim) ?aF ?aO ?aB ?aS ?aL ?_; (case aP => exact rfl); (case aB => exact (beQ HB)); (case aF => exact (fun k_ hk => Kd.fresh' (Kd.R_lt (kdQ HO_4)) k_ hk)); (case aO => exact (kdQ HO_7)); (case aS => exact (below_size (beQ HB))); (case aL => have := LMc23.out; omega); intro v370 w27 ho hb hg hat; rw [← Ny369.out] at ho; have n0_ := Aside0.mk (Kd.R_after (ok := (fun _ => True)) (by (with_reducible repeat (first | apply Kd.R_alloc | apply Kd.R_drewN | apply Kd.R_drew)); exact Kd.R_mono HO_4.out (fun _ hk => ⟨trivial, hk⟩)) hg hat); have n1_ := Aside0.mk (hb); have n2_ := Aside0.mk (ho); clear HO_4; clear HB; clear HO_7; have HO_4 := n0_; have HB := n1_; have HO371 := n2_; clear n0_ n1_ n2_; clear ho hb hg hat; obtain ⟨Ao28, co28, eo28⟩ := Kd.R_slice HO371.out; subst eo28; have p372 : 0 ≤ ((ji24) : Int) := of_decide_eq_true (by first | (with_reducible assumption) | assumption); have q372 : (ji24) < (y369.length : Int) := of_decide_eq_true (by first | (with_reducible assumption) | assumption); obtain ⟨ad372, e372, hx372_0⟩ := Kd.at_int (Kd.R_reads' HO371.out).2.2 (ji24) p372 q372; cases e372; replace p372 := eq_true p372; replace q372 := eq_true q372))
            go_roundg k2
            case measure => have := HK1.out; have := HK2.out; omega
            case rel => exact ⟨(y369), (Go.bits .or .i64 x8_2 (rd y369 (ji24))), (wrap64 (x9_2 + 1)), (by first | rfl | (simp; done) | (simp only [← hji24] <;> (first | rfl | simp)) | (simp [*]; done)), sz, H', ⟨by have := HK1.out; have := HK2.out; omega⟩, ⟨by (with_reducible repeat (first | apply Kd.R_alloc | apply Kd.R_drewN | apply Kd.R_drew)); exact Kd.R_mono HO_4.out (fun _ hk => hk.2)⟩, ⟨kdQ HO371⟩, ⟨beQ HB⟩⟩
           ·rw [if_neg c26] at H
            exact absurd H (by simp)
          ·rw [if_neg c25] at H
           exact absurd H (by simp)
         ·rw [if_neg c23] at H
          exact absurd H (by simp)
       ·rw [if_neg c19] at H
        have c19b0 : decide (x9_2 < (l0.length : Int)) = false := decide_eq_false c19
        clear c19
        simp only [Option.some.injEq, Prod.mk.injEq] at H
        obtain ⟨rfl, rfl⟩ := H
        go_wp2
        go_ret2
        exact ⟨_, rz, by (with_reducible repeat (first | apply Kd.R_alloc | apply Kd.R_drewN | apply Kd.R_drew)); exact Kd.R_mono HO_7.out (fun _ hk => trivial), beQ HB⟩
 ·replace c3 := Bool.eq_false_iff.mpr c3
  subst c3
  have H1 : (some (([] : List Int), 1)) = some (r1, r2) := by rw [if_neg (show ¬ (false = true) by decide)] at H; exact H
  clear H; have H := H1; clear H1
  simp only [Option.some.injEq, Prod.mk.injEq] at H
  obtain ⟨rfl, rfl⟩ := H
  go_enter Tryd.func30, Tryd.ntmps30
  go_wp2_with (first | ((with_reducible refine gate_callee (f := 52) rfl ?_); refine goesL_ (some 11) rfl rfl Tryd.func52 (by kernel_rfl) rfl #[.slice A0 l0.length c0] rfl lz ?_; (with_reducible refine (spec_IsRelation.calls k _ _ l0 false _ ?side1 ?side2 A2.out).mono ?_); (case side1 => have q_ := Aside0.mk HR0.out; exact cQ q_); (case side2 => exact HC0.out); rintro e w' ⟨rfl, ⟨nd, rfl⟩⟩; refine ⟨_, rfl, ?_⟩))
  go_ret2
  exact ⟨_, rz, by first | exact Kd.R_nil _ _ _ _ _ | exact Kd.N_nil _ _ _ _ _ | exact Kd.V_nil _ _ _ _ _ | exact Kd.Q_nil _ _ _ _ _ | exact Kd.S_nil _ _ _ _ _, beQ HB⟩

/-! ### impl_components: function 65 -/
mutual
def impl_components.l0 : Nat → List Int → List Int → Int → Int → Option (List Int)
 | 0, _, _, _, _ => none
 | k + 1, x3, x12, x13, x14 => if x14 < x13 then (if 0 ≤ x14 then (if x14 < (x12.length : Int) then (if x14 < (x3.length : Int) then (impl_components.l0 k (x3.set (x14 : Int).toNat (Go.bits .or .i64 (rd x3 x14) (rd x12 x14))) x12 x13 (wrap64 (x14 + 1))) else (none)) else (none)) else (none)) else ((impl_closure.f k x3).bind fun t382 => (impl_components.l1 k (([] : List Int)) 0 t382 (t382.length : Int) 0))
def impl_components.l1 : Nat → List Int → Int → List Int → Int → Int → Option (List Int)
 | 0, _, _, _, _, _ => none
 | k + 1, x6, x7, x29, x30, x31 => if x31 < x30 then (if 0 ≤ x31 then (if x31 < (x29.length : Int) then ((impl_has.f x7 x31).bind fun t386 => (if t386 = true then (impl_components.l1 k x6 x7 x29 x30 (wrap64 (x31 + 1))) else (if x6.length < 17592186044416 then (impl_components.l1 k (x6 ++ [rd x29 x31]) (Go.bits .or .i64 x7 (rd x29 x31)) x29 x30 (wrap64 (x31 + 1))) else (none)))) else (none)) else (none)) else (some x6)
end
def impl_components.f (k : Nat) (l0 : List Int) : Option (List Int) := (impl_converse.f k l0).bind fun t373 => (impl_components.l0 k t373 l0 (l0.length : Int) 0)
theorem impl_components.mono_l : ∀ k, (∀ y0 y1 y2 y3, LeO (impl_components.l0 k y0 y1 y2 y3) (impl_components.l0 (k + 1) y0 y1 y2 y3)) ∧ (∀ y0 y1 y2 y3 y4, LeO (impl_components.l1 k y0 y1 y2 y3 y4) (impl_components.l1 (k + 1) y0 y1 y2 y3 y4))
 | 0 => ⟨fun _ _ _ _ r h => by simp [impl_components.l0] at h, fun _ _ _ _ _ r h => by simp [impl_components.l1] at h⟩
 | k + 1 => by
  obtain ⟨ih0, ih1⟩ := impl_components.mono_l k
  refine ⟨?_, ?_⟩
  ·intro y0 y1 y2 y3
   unfold impl_components.l0
   repeat' first
   | (with_reducible exact ih0 _ _ _ _)
   | (with_reducible exact ih1 _ _ _ _ _)
   | (with_reducible exact impl_closure.mono _ _)
   | (with_reducible exact impl_converse.mono _ _)
   | (with_reducible exact LeO.refl _)
   | (with_reducible exact LeO.none _)
   | (with_reducible refine LeO.ite ?_ ?_)
   | (with_reducible refine LeO.bind ?_ (fun _ => ?_))
   | exact ih0 _ _ _ _
   | exact ih1 _ _ _ _ _
   | exact impl_closure.mono _ _
   | exact impl_converse.mono _ _
   | exact LeO.none _
   | refine LeO.ite ?_ ?_
   | refine LeO.bind ?_ (fun _ => ?_)
  ·intro y0 y1 y2 y3 y4
   unfold impl_components.l1
   repeat' first
   | (with_reducible exact ih0 _ _ _ _)
   | (with_reducible exact ih1 _ _ _ _ _)
   | (with_reducible exact impl_closure.mono _ _)
   | (with_reducible exact impl_converse.mono _ _)
   | (with_reducible exact LeO.refl _)
   | (with_reducible exact LeO.none _)
   | (with_reducible refine LeO.ite ?_ ?_)
   | (with_reducible refine LeO.bind ?_ (fun _ => ?_))
   | exact ih0 _ _ _ _
   | exact ih1 _ _ _ _ _
   | exact impl_closure.mono _ _
   | exact impl_converse.mono _ _
   | exact LeO.none _
   | refine LeO.ite ?_ ?_
   | refine LeO.bind ?_ (fun _ => ?_)
theorem impl_components.mono : ∀ a0 k, LeO (impl_components.f k a0) (impl_components.f (k + 1) a0) := by
 intro a0 k
 obtain ⟨ih0, ih1⟩ := impl_components.mono_l k
 unfold impl_components.f
 repeat' first
   | (with_reducible exact ih0 _ _ _ _)
   | (with_reducible exact ih1 _ _ _ _ _)
   | (with_reducible exact impl_closure.mono _ _)
   | (with_reducible exact impl_converse.mono _ _)
   | (with_reducible exact LeO.refl _)
   | (with_reducible exact LeO.none _)
   | (with_reducible refine LeO.ite ?_ ?_)
   | (with_reducible refine LeO.bind ?_ (fun _ => ?_))
   | exact ih0 _ _ _ _
   | exact ih1 _ _ _ _ _
   | exact impl_closure.mono _ _
   | exact impl_converse.mono _ _
   | exact LeO.none _
   | refine LeO.ite ?_ ?_
   | refine LeO.bind ?_ (fun _ => ?_)
set_option maxHeartbeats 8000000 in
set_option maxRecDepth 100000 in
theorem impl_components.calls (k : Nat) (A0 : Option Addr) (c0 : Nat) (l0 : List Int) (r : List Int) (w : World) (hr0 : Kd.C (Kd.int .i64) w A0 l0.length l0) (hc0 : l0.length ≤ c0) (hT : TabW w) (h : impl_components.f k l0 = some r) :
  Calls Tryd.prog 65 #[.slice A0 l0.length c0] w fun e w' => ∃ v0_ : Value, e = .returned (v0_) ∧ Kd.R (Kd.int .i64) 2 w' w.heap.size (fun _ => True) v0_ r ∧ Below w.heap.size w w' := by
 have HT := Aside0.mk hT; clear hT; have HR0 := Aside0.mk hr0; have HC0 := Aside0.mk hc0; clear hr0 hc0; have HB := Aside0.mk (Below.refl w.heap.size w)
 have H : ((impl_converse.f k l0).bind fun t373 => (impl_components.l0 k t373 l0 (l0.length : Int) 0)) = some r := h
 clear h; replace H := Option.bind_eq_some_iff.mp H; obtain ⟨t373, A20, H⟩ := H
 replace H : (impl_components.l0 k t373 l0 (l0.length : Int) 0) = some r := H
 have A2 := Aside0.mk A20; clear A20
 have H' := Aside0.mk H
 clear H
 go_enter Tryd.func65, Tryd.ntmps65
 go_wp2_with (first | ((with_reducible refine gate_callee (f := 57) rfl ?_); refine goesL_ (some 11) rfl rfl Tryd.func57 (by kernel_rfl) rfl #[.slice A0 l0.length c0] rfl lz ?_; (with_reducible refine (impl_converse.calls k _ _ l0 t373 _ ?side1 ?side2 ?side3 A2.out).mono ?_); (case side1 => have q_ := Aside0.mk HR0.out; exact cQ q_); (case side2 => exact HC0.out); (case side3 => exact TabW.below HT.out (beQ HB)); rintro e w3 ⟨v374, rfl, ho0, hb⟩; refine ⟨_, rfl, ?_⟩; have HO375 := Aside0.mk (Kd.R_lower ho0 (below_size (beQ HB))); replace HB := Aside0.mk (below_step (beQ HB) hb); (try clear hb); (try clear hb2); (try clear hk); (try clear hi); (try clear ho0)))
 go_loopg [14] k (fun kq v14 w' => ∃ (x3_1 : List Int) (x14_1 : Int), v14 = .int .i64 x14_1 ∧ Aside0 (impl_components.l0 kq x3_1 l0 (l0.length : Int) x14_1 = some r) ∧ Aside0 (kq ≤ k) ∧ Aside0 (Kd.R (Kd.int .i64) 2 w' w.heap.size (fun _ => True) v374 x3_1) ∧ Aside0 (Below w.heap.size w w'))
 case atStart => exact ⟨(t373), (0), sz, H', ⟨Nat.le_refl _⟩, ⟨kdQ HO375⟩, ⟨beQ HB⟩⟩
 case round =>
  clear H'
  try clear p2
  obtain ⟨x3_1, x14_1, rfl, HA, HK1, HO_3, HB⟩ := hrel
  cases gk with
  | zero => exact absurd HA.out (by simp [impl_components.l0])
  | succ k1 =>
   have H := HA.out; clear HA
   simp only [impl_components.l0] at H
   by_cases c4 : x14_1 < (l0.length : Int)
   ·rw [if_pos c4] at H
    have c4b0 : decide (x14_1 < (l0.length : Int)) = true := decide_eq_true c4
    clear c4
    by_cases c5 : 0 ≤ x14_1
    ·rw [if_pos c5] at H
     have c5b0 : decide (0 ≤ x14_1) = true := decide_eq_true c5
     clear c5
     by_cases c6 : x14_1 < (l0.length : Int)
     ·rw [if_pos c6] at H
      have c6b0 : decide (x14_1 < (l0.length : Int)) = true := decide_eq_true c6
      clear c6
      by_cases c7 : x14_1 < (x3_1.length : Int)
      ·rw [if_pos c7] at H
       have c7b0 : decide (x14_1 < (x3_1.length : Int)) = true := decide_eq_true c7
       clear c7
       obtain ⟨y378, hy378⟩ : ∃ y_ : List Int, y_ = (x3_1.set (x14_1 : Int).toNat (Go.bits .or .i64 (rd x3_1 x14_1) (rd l0 x14_1))) := ⟨_, rfl⟩
       replace H : (impl_components.l0 k1 y378 l0 (l0.length : Int) (wrap64 (x14_1 + 1))) = some r := by first | (rw [hy378]; with_reducible exact H) | (have H2_ := (Option.bind_some _ _).symm.trans H; rw [hy378]; with_reducible exact H2_) | (have H2_ := (Option.bind_some _ _).symm.trans H; with_reducible exact H2_) | with_reducible exact H | (rw [hy378]; exact H) | exact H
       have Ny378 := Aside0.mk hy378; clear hy378
       have H' := Aside0.mk H
       clear H
       have p376 : 0 ≤ (x14_1 : Int) := of_decide_eq_true (by first | (with_reducible assumption) | assumption)
       have q376 : x14_1 < (l0.length : Int) := of_decide_eq_true (by first | (with_reducible assumption) | assumption)
       obtain ⟨ad376, e376, hx376_0⟩ := Kd.at_int HR0.out x14_1 p376 q376; cases e376; replace hx376_0 := (HB.out.cell (World.block_lt_of_cell? w _ hx376_0)).trans hx376_0; replace p376 := eq_true p376; replace q376 := eq_true q376; obtain ⟨Ao9, co9, eo9⟩ := Kd.R_slice HO_3.out; subst eo9
       have p377 : 0 ≤ (x14_1 : Int) := of_decide_eq_true (by first | (with_reducible assumption) | assumption)
       have q377 : x14_1 < (x3_1.length : Int) := of_decide_eq_true (by first | (with_reducible assumption) | assumption)
       obtain ⟨ad377, e377, hx377_0⟩ := Kd.at_int (Kd.R_reads' HO_3.out).2.2 x14_1 p377 q377; cases e377; replace p377 := eq_true p377; replace q377 := eq_true q377
       have p8 : 0 ≤ (x14_1 : Int) := of_decide_eq_true (by first | (with_reducible assumption) | assumption)
       have q8 : (x14_1 : Int) < ((x3_1.length : Int) : Int) := of_decide_eq_true (by first | (with_reducible assumption) | assumption)
       obtain ⟨go8, co8, eo8, gb8, gl8, cl8, HG8⟩ := Kd.R_form HO_3.out (by omega)
       (first | cases eo8 | (injection eo8 with ea_ en_ ec_; (first | subst ea_ | (injection ea_ with ea_; subst ea_)); subst ec_; clear en_))
       have GB8 := Aside0.mk gb8; have GG8 := Aside0.mk HG8; clear gb8 gl8 HG8
       (first | simp only [add_plain] at hx377_0 | skip)
       obtain ⟨hx8_0, hf8_0⟩ := Kd.R_celln 0 HO_3.out (x14_1 : Int) p8 q8; replace p8 := eq_true p8; replace q8 := eq_true q8; have HP10 := Kd.R_putg HO_3.out (x14_1 : Int) (Go.bits .or .i64 (rd x3_1 x14_1) (rd l0 x14_1))
       go_wp2_with (first | ((with_reducible refine gate_store (t := 2) (p := 25) rfl ?_); refine store_event (t := 2) (p := 25) (v := ?vo_w11) (w1 := (wr.setCell ⟨go8, (x14_1 : Int).toNat, none⟩ (.int .i64 (Go.bits .or .i64 (rd x3_1 x14_1) (rd l0 x14_1))))) ?hg ?ho ?hn ?hr ?_; (case ho => rfl); (case hg => rfl); (case hn => rfl); (case hr => first | (go_simp; done) | (go_simp; rfl)); intro w11 hw; have hg : wr.grownBy w11 (some go8) := (by rw [hw]; exact HP10.2); have hp_ : Kd.R (Kd.int .i64) 2 w11 w.heap.size (fun _ => True) (.slice (some ⟨go8, 0, none⟩) x3_1.length co9) y378 := (by rw [hw, Ny378.out]; exact HP10.1); clear HP10; replace HO_3 := Aside0.mk (hp_); replace HB := Aside0.mk ((by rw [hw]; exact below_set (HB.out) GB8.out : Below w.heap.size w w11)); clear hg hw hp_))
       go_roundg k1
       case measure => have := HK1.out; omega
       case rel => exact ⟨(y378), (wrap64 (x14_1 + 1)), sz, H', ⟨by have := HK1.out; omega⟩, ⟨kdQ HO_3⟩, ⟨beQ HB⟩⟩
      ·rw [if_neg c7] at H
       exact absurd H (by simp)
     ·rw [if_neg c6] at H
      exact absurd H (by simp)
    ·rw [if_neg c5] at H
     exact absurd H (by simp)
   ·rw [if_neg c4] at H
    have c4b0 : decide (x14_1 < (l0.length : Int)) = false := decide_eq_false c4
    clear c4
    obtain ⟨y379, hy379⟩ : ∃ y_ : List Int, y_ = (([] : List Int)) := ⟨_, rfl⟩
    replace H : ((impl_closure.f k1 x3_1).bind fun t382 => (impl_components.l1 k1 y379 0 t382 (t382.length : Int) 0)) = some r := by first | (rw [hy379]; with_reducible exact H) | (have H2_ := (Option.bind_some _ _).symm.trans H; rw [hy379]; with_reducible exact H2_) | (have H2_ := (Option.bind_some _ _).symm.trans H; with_reducible exact H2_) | with_reducible exact H | (rw [hy379]; exact H) | exact H
    have Ny379 := Aside0.mk hy379; clear hy379; replace H := Option.bind_eq_some_iff.mp H; obtain ⟨t382, A120, H⟩ := H
    replace H : (impl_components.l1 k1 y379 0 t382 (t382.length : Int) 0) = some r := H
    have A12 := Aside0.mk A120; clear A120
    have H' := Aside0.mk H
    clear H
    go_wp2_with (first | ((with_reducible refine gate_dst (N := 27) rfl ?_); refine Kd.R_lit (Kd.int .i64) _ 2 ?hg (N := 27) ?hd (xs := ([] : List Int)) (inner := []) (ok := fun _ => True) (okp := fun _ => True) ?hr ?hp (fun _ hk => hk) trivial (Below.refl _ _) (Nat.le_refl _) (by simp) ?_; (case hd => rfl); (case hg => rfl); (case hr => first | (go_simp; done) | (go_simp; rfl)); (case hp => exact (Reps.none _ _)); intro v380 w13 ho14 hb hg_ hnew_; clear hg_ hnew_; (first | rw [← Ny379.out] at ho14 | (simp only [Int.reduceToNat] at ho14; rw [← Ny379.out] at ho14)); have HO381 := Aside0.mk (Kd.R_lower (Kd.R_new' ho14 (Kd.R_lt (kdQ HO_3))) (below_size (beQ HB))); replace HO_3 := Aside0.mk (Kd.R_elder' (kdQ HO_3) (Kd.R_base ho14) hb); replace HB := Aside0.mk (below_step (beQ HB) hb); clear hb ho14; obtain ⟨Ao15, co15, eo15⟩ := Kd.R_slice HO_3.out; subst eo15) | ((with_reducible refine gate_callee (f := 56) rfl ?_); refine goesL_ (some 29) rfl rfl Tryd.func56 (by kernel_rfl) rfl #[.slice Ao15 x3_1.length co15] rfl lz ?_; (with_reducible refine (impl_closure.calls k1 _ _ x3_1 t382 _ ?side1 ?side2 A12.out).mono ?_); (case side1 => have q_ := Aside0.mk (Kd.R_reads' HO_3.out).2.2; exact cQ q_); (case side2 => exact (Kd.R_reads' HO_3.out).2.1); rintro e w16 ⟨v383, rfl, ho0, hb⟩; refine ⟨_, rfl, ?_⟩; have HO384 := Aside0.mk (Kd.R_lower (Kd.R_new' (Kd.R_new' ho0 (Kd.R_lt (kdQ HO_3))) (Kd.R_lt (kdQ HO381))) (below_size (beQ HB))); replace HO_3 := Aside0.mk (Kd.R_elder' (kdQ HO_3) (Kd.R_base ho0) hb); replace HO381 := Aside0.mk (Kd.R_elder' (kdQ HO381) (Kd.R_base ho0) hb); replace HB := Aside0.mk (below_step (beQ HB) hb); (try clear hb); (try clear hb2); (try clear hk); (try clear hi); (try clear ho0); obtain ⟨Ao17, co17, eo17⟩ := Kd.R_slice HO384.out; subst eo17))
    go_loopg [6, 7, 31] k1 (fun kq v6 v7 v31 w' => ∃ (x6_2 : List Int) (x7_2 : Int) (x31_2 : Int), v7 = .int .i64 x7_2 ∧ v31 = .int .i64 x31_2 ∧ Aside0 (impl_components.l1 kq x6_2 x7_2 t382 (t382.length : Int) x31_2 = some r) ∧ Aside0 (kq ≤ k1) ∧ Aside0 (Kd.R (Kd.int .i64) 2 w' w.heap.size (fun k_ => some k_ ≠ ((.slice Ao17 t382.length co17) : Value).ownBlock) v6 x6_2) ∧ Aside0 (Kd.R (Kd.int .i64) 2 w' w.heap.size (fun k_ => some k_ ≠ (v6 : Value).ownBlock) (.slice Ao17 t382.length co17) t382) ∧ Aside0 (Below w.heap.size w w'))
    case atStart => exact ⟨(y379), (0), (0), sz, sz, H', ⟨Nat.le_refl _⟩, ⟨by (with_reducible repeat (first | apply Kd.R_alloc | apply Kd.R_drewN | apply Kd.R_drew)); exact Kd.R_mono HO381.out (fun _ hk => hk.2)⟩, ⟨by (with_reducible repeat (first | apply Kd.R_alloc | apply Kd.R_drewN | apply Kd.R_drew)); exact Kd.R_mono HO384.out (fun _ hk => hk.2)⟩, ⟨beQ HB⟩⟩
    case round =>
     clear H'
     try clear p2
     try clear p3
     try clear q3
     try clear hx3
     try clear c4
     try clear c4b0
     try clear c5
     try clear c5b0
     try clear c6
     try clear c6b0
     try clear p6
     try clear c7
     try clear c7b0
     try clear p8
     try clear q8
     try clear hx8
     try clear hf8
     try clear hx376_0
     try clear hx377_0
     try clear hx8_0
     try clear p2
     try clear p376
     try clear p377
     try clear p8
     try clear q376
     try clear q377
     try clear q8
     obtain ⟨x6_2, x7_2, x31_2, rfl, rfl, HA, HK2, HO_6, HO_29, HB⟩ := hrel
     cases gk with
     | zero => exact absurd HA.out (by simp [impl_components.l1])
     | succ k2 =>
      have H := HA.out; clear HA
      simp only [impl_components.l1] at H
      by_cases c18 : x31_2 < (t382.length : Int)
      ·rw [if_pos c18] at H
       have c18b0 : decide (x31_2 < (t382.length : Int)) = true := decide_eq_true c18
       clear c18
       by_cases c19 : 0 ≤ x31_2
       ·rw [if_pos c19] at H
        have c19b0 : decide (0 ≤ x31_2) = true := decide_eq_true c19
        clear c19
        by_cases c20 : x31_2 < (t382.length : Int)
        ·rw [if_pos c20] at H
         have c20b0 : decide (x31_2 < (t382.length : Int)) = true := decide_eq_true c20
         clear c20; replace H := Option.bind_eq_some_iff.mp H; obtain ⟨t386, A210, H⟩ := H
         replace H : (if t386 = true then (impl_components.l1 k2 x6_2 x7_2 t382 (t382.length : Int) (wrap64 (x31_2 + 1))) else (if x6_2.length < 17592186044416 then (impl_components.l1 k2 (x6_2 ++ [rd t382 x31_2]) (Go.bits .or .i64 x7_2 (rd t382 x31_2)) t382 (t382.length : Int) (wrap64 (x31_2 + 1))) else (none))) = some r := H
         have A21 := Aside0.mk A210; clear A210
         by_cases c22 : t386 = true
         ·subst c22
          have H1 : (impl_components.l1 k2 x6_2 x7_2 t382 (t382.length : Int) (wrap64 (x31_2 + 1))) = some r := by rw [if_pos rfl] at H; exact H
          clear H; have H := H1; clear H1
          have H' := Aside0.mk H
          clear H
          have p385 : 0 ≤ (x31_2 : Int) := of_decide_eq_true (by first | (with_reducible assumption) | assumption)
          have q385 : x31_2 < (t382.length : Int) := of_decide_eq_true (by first | (with_reducible assumption) | assumption)
          obtain ⟨ad385, e385, hx385_0⟩ := Kd.at_int (Kd.R_reads' HO_29.out).2.2 x31_2 p385 q385; cases e385; replace p385 := eq_true p385; replace q385 := eq_true q385
          go_wp2_with (first | ((with_reducible refine gate_callee (f := 86) rfl ?_); refine goesL_ (some 38) rfl rfl Tryd.func86 (by kernel_rfl) rfl #[.int .i64 x7_2, .int .i64 x31_2] rfl lz ?_; (with_reducible refine (impl_has.calls x7_2 x31_2 true _ A21.out).mono ?_); rintro e w' ⟨rfl, ⟨nd, rfl⟩⟩; refine ⟨_, rfl, ?_⟩))
          go_roundg k2
          case measure => have := HK1.out; have := HK2.out; omega
          case rel => exact ⟨(x6_2), (x7_2), (wrap64 (x31_2 + 1)), sz, sz, H', ⟨by have := HK1.out; have := HK2.out; omega⟩, ⟨kdQ HO_6⟩, ⟨kdQ HO_29⟩, ⟨beQ HB⟩⟩
         ·replace c22 := Bool.eq_false_iff.mpr c22
          subst c22
          have H1 : (if x6_2.length < 17592186044416 then (impl_components.l1 k2 (x6_2 ++ [rd t382 x31_2]) (Go.bits .or .i64 x7_2 (rd t382 x31_2)) t382 (t382.length : Int) (wrap64 (x31_2 + 1))) else (none)) = some r := by rw [if_neg (show ¬ (false = true) by decide)] at H; exact H
          clear H; have H := H1; clear H1
          by_cases c23 : x6_2.length < 17592186044416
          ·rw [if_pos c23] at H
           have LMc23 := Aside0.mk c23; clear c23
           obtain ⟨y387, hy387⟩ : ∃ y_ : List Int, y_ = (x6_2 ++ [rd t382 x31_2]) := ⟨_, rfl⟩
           replace H : (impl_components.l1 k2 y387 (Go.bits .or .i64 x7_2 (rd t382 x31_2)) t382 (t382.length : Int) (wrap64 (x31_2 + 1))) = some r := by first | (rw [hy387]; with_reducible exact H) | (have H2_ := (Option.bind_some _ _).symm.trans H; rw [hy387]; with_reducible exact H2_) | (have H2_ := (Option.bind_some _ _).symm.trans H; with_reducible exact H2_) | with_reducible exact H | (rw [hy387]; exact H) | exact H
           have Ny387 := Aside0.mk hy387; clear hy387
           have H' := Aside0.mk H
           clear H
           have p385 : 0 ≤ (x31_2 : Int) := of_decide_eq_true (by first | (with_reducible assumption) | assumption)
           have q385 : x31_2 < (t382.length : Int) := of_decide_eq_true (by first | (with_reducible assumption) | assumption)
           obtain ⟨ad385, e385, hx385_0⟩ := Kd.at_int (Kd.R_reads' HO_29.out).2.2 x31_2 p385 q385; cases e385; replace p385 := eq_true p385; replace q385 := eq_true q385
           go_wp2_with (first | ((with_reducible refine gate_callee (f := 86) rfl ?_); refine goesL_ (some 38) rfl rfl Tryd.func86 (by kernel_rfl) rfl #[.int .i64 x7_2, .int .i64 x31_2] rfl lz ?_; (with_reducible refine (impl_has.calls x7_2 x31_2 false _ A21.out).mono ?_); rintro e w' ⟨rfl, ⟨nd, rfl⟩⟩; refine ⟨_, rfl, ?_⟩) | ((with_reducible refine gate_builtin (b := .append) (xs := #[.tmp 40, .tmp 42]) rfl ?_); at_builtin; refine Kd.R_append (Kd.int .i64) (w0 := w) w.heap.size rfl (.tmp 40) (.tmp 42) 28 2 (.int .i64 0) 8 rfl Tryd.underlying28 info2 rfl (by decide) (by omega) u6 x6_2 (rd t382 x31_2) [.int .i64 (rd t382 x31_2)] (fun k_ => some k_ ≠ (.slice (some ad385) t382.length co17 : Value).ownBlock) (fun _ => False) rfl rfl ?aP (fun _ hk => hk.elim) ?aF ?aO ?aB ?aS ?aL ?_; (case aP => exact rfl); (case aB => exact (beQ HB)); (case aF => exact (fun k_ hk => Kd.fresh' (Kd.R_lt (kdQ HO_29)) k_ hk)); (case aO => exact (kdQ HO_6)); (case aS => exact (below_size (beQ HB))); (case aL => have := LMc23.out; omega); intro v388 w24 ho hb hg hat; rw [← Ny387.out] at ho; have n0_ := Aside0.mk (Kd.R_after (ok := (fun _ => True)) (by (with_reducible repeat (first | apply Kd.R_alloc | apply Kd.R_drewN | apply Kd.R_drew)); exact Kd.R_mono HO_29.out (fun _ hk => ⟨trivial, hk⟩)) hg hat); have n1_ := Aside0.mk (hb); have n2_ := Aside0.mk (ho); clear HO_29; clear HB; clear HO_6; have HO_29 := n0_; have HB := n1_; have HO389 := n2_; clear n0_ n1_ n2_; clear ho hb hg hat))
           go_roundg k2
           case measure => have := HK1.out; have := HK2.out; omega
           case rel => exact ⟨(y387), (Go.bits .or .i64 x7_2 (rd t382 x31_2)), (wrap64 (x31_2 + 1)), sz, sz, H', ⟨by have := HK1.out; have := HK2.out; omega⟩, ⟨kdQ HO389⟩, ⟨by (with_reducible repeat (first | apply Kd.R_alloc | apply Kd.R_drewN | apply Kd.R_drew)); exact Kd.R_mono HO_29.out (fun _ hk => hk.2)⟩, ⟨beQ HB⟩⟩
          ·rw [if_neg c23] at H
           exact absurd H (by simp)
        ·rw [if_neg c20] at H
         exact absurd H (by simp)
       ·rw [if_neg c19] at H
        exact absurd H (by simp)
      ·rw [if_neg c18] at H
       have c18b0 : decide (x31_2 < (t382.length : Int)) = false := decide_eq_false c18
       clear c18
       obtain rfl := Option.some.inj H
       go_wp2
       go_ret
       exact ⟨_, rz, by (with_reducible repeat (first | apply Kd.R_alloc | apply Kd.R_drewN | apply Kd.R_drew)); exact Kd.R_mono HO_6.out (fun _ hk => trivial), beQ HB⟩

end Go.Proofs.YtdbdlhjhacbjoaaDoor.G
