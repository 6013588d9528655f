/- How the program's functions compute, function by function: each is told by a plain Lean function of the same answers, under the condition that this one answers. Written by a program of this project over the seat's translation; Lean checks it. -/
import Derived.Test.YtlpodkpnoopnnaaDoorG0
import Derived.Test.YtlpodkpnoopnnaaDoorGQ01a
import Derived.Test.YtlpodkpnoopnnaaDoorGQ01b
import Derived.Test.YtlpodkpnoopnnaaDoorGQ02
import Derived.Test.YtlpodkpnoopnnaaDoorGQ06
import Derived.Test.YtlpodkpnoopnnaaDoorGQ16
import Derived.Test.YtlpodkpnoopnnaaDoorGQ18
import Derived.Test.YtlpodkpnoopnnaaDoorGQ22
import Derived.Test.YtlpodkpnoopnnaaDoorGQ24
namespace Go.Proofs.YtlpodkpnoopnnaaDoor.G
open Go.RowKit Go.Proofs.YtlpodkpnoopnnaaDoorW.PrintWords Go.Proofs.YtlpodkpnoopnnaaDoorW.PrintLast Go.Proofs.YtlpodkpnoopnnaaDoorW.PrintMore
attribute [local go_sem] max2_int min2_int max_two min_two max_three min_three max_four min_four   -- for this text's walks alone
set_option linter.unusedVariables false
set_option linter.unusedSimpArgs false

/-! ### spec_ProjectionOf: function 42 -/
mutual
def spec_ProjectionOf.j0 : Nat → List Int → Int → Int → Bool → Int → List Int → Option (List Int × Int)
 | 0, _, _, _, _, _, _ => none
 | k + 1, x1, x2, x8, x22, x911000, x911001 => if x22 = true then (spec_ProjectionOf.j1 k x1 x2 2 x911000 x911001) else (spec_ProjectionOf.j1 k x1 x2 x8 x911000 x911001)
def spec_ProjectionOf.j1 : Nat → List Int → Int → Int → Int → List Int → Option (List Int × Int)
 | 0, _, _, _, _, _ => none
 | k + 1, x1, x2, x8, x911000, x911001 => if x8 = 0 then ((spec_l03Project.f k x1 x2).bind fun t914 => ((spec_l03Normal.f k x911000 x911001 t914).bind fun t917 => (some (t917, 0)))) else (some (([] : List Int), x8))
end
def spec_ProjectionOf.f (k : Nat) (a0_0 : Int) (l0_1 : List Int) (l1 : List Int) (a2 : Int) : Option (List Int × Int) := (spec_l03Code.f k a0_0 l0_1 l1 l1).bind fun t911 => (if t911 = 0 then ((spec_l01Full.f a0_0).bind fun t912 => ((spec_l01In.f a2 0 t912).bind fun t913 => (spec_ProjectionOf.j0 k l1 a2 t911 (!t913) a0_0 l0_1))) else (spec_ProjectionOf.j0 k l1 a2 t911 false a0_0 l0_1))
theorem spec_ProjectionOf.mono_l : ∀ k, (∀ y0 y1 y2 y3 y4 y5, LeO (spec_ProjectionOf.j0 k y0 y1 y2 y3 y4 y5) (spec_ProjectionOf.j0 (k + 1) y0 y1 y2 y3 y4 y5)) ∧ (∀ y0 y1 y2 y3 y4, LeO (spec_ProjectionOf.j1 k y0 y1 y2 y3 y4) (spec_ProjectionOf.j1 (k + 1) y0 y1 y2 y3 y4))
 | 0 => ⟨fun _ _ _ _ _ _ r h => by simp [spec_ProjectionOf.j0] at h, fun _ _ _ _ _ r h => by simp [spec_ProjectionOf.j1] at h⟩
 | k + 1 => by
  obtain ⟨ih0, ih1⟩ := spec_ProjectionOf.mono_l k
  refine ⟨?_, ?_⟩
  ·intro y0 y1 y2 y3 y4 y5
   unfold spec_ProjectionOf.j0
   repeat' first
   | (with_reducible exact ih0 _ _ _ _ _ _)
   | (with_reducible exact ih1 _ _ _ _ _)
   | (with_reducible exact spec_l03Code.mono _ _ _ _ _)
   | (with_reducible exact spec_l03Normal.mono _ _ _ _)
   | (with_reducible exact spec_l03Project.mono _ _ _)
   | (with_reducible exact LeO.refl _)
   | (with_reducible exact LeO.none _)
   | (with_reducible refine LeO.ite ?_ ?_)
   | (with_reducible refine LeO.bind ?_ (fun _ => ?_))
   | exact ih0 _ _ _ _ _ _
   | exact ih1 _ _ _ _ _
   | exact spec_l03Code.mono _ _ _ _ _
   | exact spec_l03Normal.mono _ _ _ _
   | exact spec_l03Project.mono _ _ _
   | exact LeO.none _
   | refine LeO.ite ?_ ?_
   | refine LeO.bind ?_ (fun _ => ?_)
  ·intro y0 y1 y2 y3 y4
   unfold spec_ProjectionOf.j1
   repeat' first
   | (with_reducible exact ih0 _ _ _ _ _ _)
   | (with_reducible exact ih1 _ _ _ _ _)
   | (with_reducible exact spec_l03Code.mono _ _ _ _ _)
   | (with_reducible exact spec_l03Normal.mono _ _ _ _)
   | (with_reducible exact spec_l03Project.mono _ _ _)
   | (with_reducible exact LeO.refl _)
   | (with_reducible exact LeO.none _)
   | (with_reducible refine LeO.ite ?_ ?_)
   | (with_reducible refine LeO.bind ?_ (fun _ => ?_))
   | exact ih0 _ _ _ _ _ _
   | exact ih1 _ _ _ _ _
   | exact spec_l03Code.mono _ _ _ _ _
   | exact spec_l03Normal.mono _ _ _ _
   | exact spec_l03Project.mono _ _ _
   | exact LeO.none _
   | refine LeO.ite ?_ ?_
   | refine LeO.bind ?_ (fun _ => ?_)
theorem spec_ProjectionOf.mono : ∀ a0 a1 a2 a3 k, LeO (spec_ProjectionOf.f k a0 a1 a2 a3) (spec_ProjectionOf.f (k + 1) a0 a1 a2 a3) := by
 intro a0 a1 a2 a3 k
 obtain ⟨ih0, ih1⟩ := spec_ProjectionOf.mono_l k
 unfold spec_ProjectionOf.f
 repeat' first
   | (with_reducible exact ih0 _ _ _ _ _ _)
   | (with_reducible exact ih1 _ _ _ _ _)
   | (with_reducible exact spec_l03Code.mono _ _ _ _ _)
   | (with_reducible exact spec_l03Normal.mono _ _ _ _)
   | (with_reducible exact spec_l03Project.mono _ _ _)
   | (with_reducible exact LeO.refl _)
   | (with_reducible exact LeO.none _)
   | (with_reducible refine LeO.ite ?_ ?_)
   | (with_reducible refine LeO.bind ?_ (fun _ => ?_))
   | exact ih0 _ _ _ _ _ _
   | exact ih1 _ _ _ _ _
   | exact spec_l03Code.mono _ _ _ _ _
   | exact spec_l03Normal.mono _ _ _ _
   | exact spec_l03Project.mono _ _ _
   | exact LeO.none _
   | refine LeO.ite ?_ ?_
   | refine LeO.bind ?_ (fun _ => ?_)
set_option maxHeartbeats 8000000 in
set_option maxRecDepth 100000 in
theorem spec_ProjectionOf.calls (k : Nat) (a0_0 : Int) (A0_1 : Option Addr) (c0_1 : Nat) (l0_1 : List Int) (A1 : Option Addr) (c1 : Nat) (l1 : List Int) (a2 : Int) (r1 : List Int) (r2 : Int) (w : World) (hr0_1 : Kd.C (Kd.int .i64) w A0_1 l0_1.length l0_1) (hc0_1 : l0_1.length ≤ c0_1) (hr1 : Kd.C (Kd.int .i64) w A1 l1.length l1) (hc1 : l1.length ≤ c1) (h : spec_ProjectionOf.f k a0_0 l0_1 l1 a2 = some (r1, r2)) :
  Calls Tryd.prog 42 #[.agg #[.int .i64 a0_0, .slice A0_1 l0_1.length c0_1], .slice A1 l1.length c1, .int .i64 a2] w fun e w' => ∃ v0_ : Value, e = .returned (.tuple #[v0_, .int .i64 r2]) ∧ Kd.R (Kd.int .i64) 2 w' w.heap.size (fun _ => True) v0_ r1 ∧ Below w.heap.size w w' := by
 have hu28 := Tryd.underlying28; have HR0_1 := Aside0.mk hr0_1; have HC0_1 := Aside0.mk hc0_1; clear hr0_1 hc0_1; have HR1 := Aside0.mk hr1; have HC1 := Aside0.mk hc1; clear hr1 hc1; have HB := Aside0.mk (Below.refl w.heap.size w)
 have H : ((spec_l03Code.f k a0_0 l0_1 l1 l1).bind fun t911 => (if t911 = 0 then ((spec_l01Full.f a0_0).bind fun t912 => ((spec_l01In.f a2 0 t912).bind fun t913 => (spec_ProjectionOf.j0 k l1 a2 t911 (!t913) a0_0 l0_1))) else (spec_ProjectionOf.j0 k l1 a2 t911 false a0_0 l0_1))) = some (r1, r2) := h
 clear h; replace H := Option.bind_eq_some_iff.mp H; obtain ⟨t911, A40, H⟩ := H
 replace H : (if t911 = 0 then ((spec_l01Full.f a0_0).bind fun t912 => ((spec_l01In.f a2 0 t912).bind fun t913 => (spec_ProjectionOf.j0 k l1 a2 t911 (!t913) a0_0 l0_1))) else (spec_ProjectionOf.j0 k l1 a2 t911 false a0_0 l0_1)) = some (r1, r2) := H
 have A4 := Aside0.mk A40; clear A40; have HC5 := Aside0.mk H; clear H
 go_enter Tryd.func42, Tryd.ntmps42
 go_upto_region 2 with (first | ((with_reducible refine gate_dst (N := 3) rfl ?_); refine box_event ?hg (N := 3) ?hd (cs := #[.int .i64 a0_0, .slice A0_1 l0_1.length c0_1]) (t := 28) ?hr ?_; (case hd => rfl); (case hg => rfl); (case hr => first | (go_simp; done) | (go_simp; rfl)); intro gb910 hg w6 hbox hb; have BK910 := Aside0.mk (hbox); have GW910 := Aside0.mk ((by rw [hg]; exact (below_size (beQ HB)) : w.heap.size ≤ gb910)); have GE910 := Aside0.mk ((by rw [hg]; exact (below_size (beQ HB)) : w.heap.size ≤ gb910)); replace HB := Aside0.mk (below_step (beQ HB) hb); clear hb hbox hg; have hcz7_0 : w6.cell? ⟨gb910, 0, none⟩ = some (.int .i64 a0_0) := bc BK910 0; have hcz7_1 : w6.cell? ⟨gb910, 1, none⟩ = some (.slice A0_1 l0_1.length c0_1) := bc BK910 1; have hfz7_0 := blk_frozen BK910.out 0; have hfz7_1 := blk_frozen BK910.out 1) | ((with_reducible refine gate_callee (f := 51) rfl ?_); refine goesL_ (some 12) rfl rfl Tryd.func51 (by kernel_rfl) rfl #[.agg #[.int .i64 a0_0, .slice A0_1 l0_1.length c0_1], .slice A1 l1.length c1, .slice A1 l1.length c1] rfl lz ?_; (with_reducible refine (spec_l03Code.calls k a0_0 _ _ l0_1 _ _ l1 _ _ l1 t911 _ ?side1 ?side2 ?side3 ?side4 ?side5 ?side6 A4.out).mono ?_); (case side1 => have q_ := Aside0.mk (Kd.C_below HR0_1.out HB.out); exact cQ q_); (case side2 => exact HC0_1.out); (case side3 => have q_ := Aside0.mk (Kd.C_below HR1.out HB.out); exact cQ q_); (case side4 => exact HC1.out); (case side5 => have q_ := Aside0.mk (Kd.C_below HR1.out HB.out); exact cQ q_); (case side6 => exact HC1.out); rintro e w8 ⟨rfl, hb⟩; refine ⟨_, rfl, ?_⟩; replace BK910 := bb BK910 hb; replace HB := Aside0.mk (below_step (beQ HB) hb); (try clear hb); (try clear hb2); (try clear hk); (try clear hi)))
 (try simp only [Act.put, List.setIfInBounds_toArray, List.set_cons_zero, List.set_cons_succ])
 go_cut [22] (fun v22 wc => ∃ (kq : Nat) (x22_4 : Bool), v22 = .bool x22_4 ∧ Aside0 (spec_ProjectionOf.j0 kq l1 a2 t911 x22_4 a0_0 l0_1 = some (r1, r2)) ∧ Aside0 (kq ≤ k) ∧ Aside0 (wc.heap[gb910]? = some (.cells #[.int .i64 a0_0, (.slice A0_1 l0_1.length c0_1)] 28 (0, 0))) ∧ Aside0 (Below w.heap.size w wc))
 case first =>
  have H := HC5.out; clear HC5
  by_cases c9 : t911 = 0
  ·rw [if_pos c9] at H
   have c9b0 : (t911 == 0) = true := beq_iff_eq.mpr c9
   have c9b1 : (t911 != 0) = false := bne_eq_false_iff_eq.mpr c9
   clear c9
   (first | rw [c9b0] | (simp only [i64_w, i32_w]; rw [c9b0]) | skip)
   replace H := Option.bind_eq_some_iff.mp H; obtain ⟨t912, A100, H⟩ := H
   replace H : ((spec_l01In.f a2 0 t912).bind fun t913 => (spec_ProjectionOf.j0 k l1 a2 t911 (!t913) a0_0 l0_1)) = some (r1, r2) := H
   have A10 := Aside0.mk A100; clear A100; replace H := Option.bind_eq_some_iff.mp H; obtain ⟨t913, A110, H⟩ := H
   replace H : (spec_ProjectionOf.j0 k l1 a2 t911 (!t913) a0_0 l0_1) = some (r1, r2) := H
   have A11 := Aside0.mk A110; clear A110
   have H' := Aside0.mk H
   clear H
   have hcz12_0 : w8.cell? ⟨gb910, 0, none⟩ = some (.int .i64 a0_0) := bc BK910 0
   have hcz12_1 : w8.cell? ⟨gb910, 1, none⟩ = some (.slice A0_1 l0_1.length c0_1) := bc BK910 1
   have hfz12_0 := blk_frozen BK910.out 0; have hfz12_1 := blk_frozen BK910.out 1
   go_wp2_with (first | (go_at_call 78; (with_reducible refine (spec_l01Full.calls a0_0 t912 _ A10.out).mono ?_); rintro e w' ⟨rfl, ⟨nd, rfl⟩⟩) | (go_at_call 77; (with_reducible refine (spec_l01In.calls a2 0 t912 t913 _ A11.out).mono ?_); rintro e w' ⟨rfl, ⟨nd, rfl⟩⟩))
   go_meet
   case rel => exact ⟨_, (!t913), sz, H', ⟨by first | omega | exact Nat.le_refl _⟩, ⟨blkQ BK910⟩, ⟨beQ HB⟩⟩
  ·rw [if_neg c9] at H
   have c9b0 : (t911 == 0) = false := beq_eq_false_iff_ne.mpr c9
   have c9b1 : (t911 != 0) = true := bne_iff_ne.mpr c9
   (first | rw [c9b0] | (simp only [i64_w, i32_w]; rw [c9b0]) | skip)
   have H' := Aside0.mk H
   clear H
   go_wp2
   go_meet
   case rel => exact ⟨_, (false), sz, H', ⟨by first | omega | exact Nat.le_refl _⟩, ⟨blkQ BK910⟩, ⟨beQ HB⟩⟩
 case rest =>
  clear HC5
  try clear c1
  try clear p2
  try clear c4
  try clear c5
  try clear c9
  try clear c9b0
  try clear c9b1
  try clear hcz12_0
  try clear hcz12_1
  try clear hcz7_0
  try clear hcz7_1
  try clear hfz12_0
  try clear hfz12_1
  try clear hfz7_0
  try clear hfz7_1
  obtain ⟨kq, x22_4, rfl, HA, HJ4, BK910, HB⟩ := hcut
  cases kq with
  | zero => exact absurd HA.out (by simp [spec_ProjectionOf.j0])
  | succ kj4 =>
   have H := HA.out; clear HA
   simp only [spec_ProjectionOf.j0] at H
   have HC13 := Aside0.mk H; clear H
   go_upto_if 22 with (fail)
   go_cut [8] (fun v8 wc => ∃ (kq : Nat) (x8_12 : Int), v8 = .int .i64 x8_12 ∧ Aside0 (spec_ProjectionOf.j1 kq l1 a2 x8_12 a0_0 l0_1 = some (r1, r2)) ∧ Aside0 (kq ≤ kj4) ∧ Aside0 (wc.heap[gb910]? = some (.cells #[.int .i64 a0_0, (.slice A0_1 l0_1.length c0_1)] 28 (0, 0))) ∧ Aside0 (Below w.heap.size w wc))
   case first =>
    have H := HC13.out; clear HC13
    by_cases c14 : x22_4 = true
    ·subst c14
     have H1 : (spec_ProjectionOf.j1 kj4 l1 a2 2 a0_0 l0_1) = some (r1, r2) := by rw [if_pos rfl] at H; exact H
     clear H; have H := H1; clear H1
     have H' := Aside0.mk H
     clear H
     go_wp2
     go_meet
     case rel => exact ⟨_, (2), sz, H', ⟨by have := HJ4.out; first | omega | exact Nat.le_refl _⟩, ⟨blkQ BK910⟩, ⟨beQ HB⟩⟩
    ·replace c14 := Bool.eq_false_iff.mpr c14
     subst c14
     have H1 : (spec_ProjectionOf.j1 kj4 l1 a2 t911 a0_0 l0_1) = some (r1, r2) := by rw [if_neg (show ¬ (false = true) by decide)] at H; exact H
     clear H; have H := H1; clear H1
     have H' := Aside0.mk H
     clear H
     go_wp2
     go_meet
     case rel => exact ⟨_, (t911), sz, H', ⟨by have := HJ4.out; first | omega | exact Nat.le_refl _⟩, ⟨blkQ BK910⟩, ⟨beQ HB⟩⟩
   case rest =>
    clear HC13
    try clear c1
    try clear p2
    try clear c4
    try clear c5
    try clear c9
    try clear c9b0
    try clear c9b1
    try clear c14
    try clear hcz12_0
    try clear hcz12_1
    try clear hcz7_0
    try clear hcz7_1
    try clear hfz12_0
    try clear hfz12_1
    try clear hfz7_0
    try clear hfz7_1
    try clear p2
    obtain ⟨kq, x8_12, rfl, HA, HJ12, BK910, HB⟩ := hcut
    cases kq with
    | zero => exact absurd HA.out (by simp [spec_ProjectionOf.j1])
    | succ kj12 =>
     have H := HA.out; clear HA
     simp only [spec_ProjectionOf.j1] at H
     by_cases c15 : x8_12 = 0
     ·rw [if_pos c15] at H
      have c15b0 : (x8_12 == 0) = true := beq_iff_eq.mpr c15
      have c15b1 : (x8_12 != 0) = false := bne_eq_false_iff_eq.mpr c15
      clear c15; replace H := Option.bind_eq_some_iff.mp H; obtain ⟨t914, A160, H⟩ := H
      replace H : ((spec_l03Normal.f kj12 a0_0 l0_1 t914).bind fun t917 => (some (t917, 0))) = some (r1, r2) := H
      have A16 := Aside0.mk A160; clear A160; replace H := Option.bind_eq_some_iff.mp H; obtain ⟨t917, A170, H⟩ := H
      replace H : (some (t917, 0)) = some (r1, r2) := H
      have A17 := Aside0.mk A170; clear A170
      simp only [Option.some.injEq, Prod.mk.injEq] at H
      obtain ⟨rfl, rfl⟩ := H
      try go_wp2
      replace BK910 := Aside0.mk (blk_drew BK910.out); replace HB := Aside0.mk (below_drew1 HB.out)
      refine start_ (n := 7) (S := fun w' => w'.cell? ⟨gb910, 0, none⟩ = some (.int .i64 a0_0) ∧ w'.cell? ⟨gb910, 1, none⟩ = some (.slice A0_1 l0_1.length c0_1)) (ds := []) #[false, false, false, false, false, false, false] (by kernel_rfl) rfl rfl ⟨bc BK910 0, bc BK910 1⟩ (fun hHeld => ?_)
      generalize wc.drew = w18 at BK910 HB hHeld ⊢
      refine pure_ (i := 1) (N := some 27) (v := ?_) (a' := ?_) #[false, true, false, false, false, false, false] rfl rfl (by kernel_rfl) (fun _ _ _ h => h) (Or.inl ⟨by rfl, ?_⟩) ?_ ?_
      rotate_left
      ·intro w'
       go_simp
       with_reducible rfl
      rotate_left
      ·simp only [Act.put, s1, s2, s3, i64_w, i32_w]
       rfl
      refine pure_ (i := 2) (N := some 28) (v := ?_) (a' := ?_) #[false, true, true, false, false, false, false] rfl rfl (by kernel_rfl) (fun _ _ _ h => h) (Or.inl ⟨by rfl, ?_⟩) ?_ ?_
      rotate_left
      ·intro w'
       go_simp
       with_reducible rfl
      rotate_left
      ·simp only [Act.put, s1, s2, s3, i64_w, i32_w]
       rfl
      refine take_ (i := 0) (N := some 26) (v := ?_) (a' := ?_) #[true, true, true, false, false, false, false] rfl rfl (by kernel_rfl) (fun _ _ _ h => h) (Or.inl ⟨by rfl, ?_⟩) hHeld ?_ ?_
      rotate_left
      ·rintro w' ⟨s0, s1⟩
       go_simp
       with_reducible rfl
      rotate_left
      ·simp only [Act.put, s1, s2, s3, i64_w, i32_w]
       rfl
      refine one_ (i := 3) (N := some 29) #[true, true, true, true, false, false, false] rfl rfl (by kernel_rfl) (by decide) (fun K hK => ?_)
      refine goes_ Tryd.func79 (by kernel_rfl) rfl #[.slice A1 l1.length c1, .int .i64 a2] (by rfl) rfl rfl lz ?_
      with_reducible refine (spec_l03Project.calls kj12 _ _ l1 a2 t914 _ ?side1 ?side2 A16.out).mono ?_
      (case side1 => have q_ := Aside0.mk (Kd.C_below HR1.out HB.out); exact cQ q_)
      (case side2 => exact HC1.out)
      rintro e w19 ⟨v915, rfl, ho0, hb⟩
      refine ⟨_, rfl, ?_⟩
      have HO916 := Aside0.mk (Kd.R_lower ho0 (below_size (beQ HB))); replace BK910 := bb BK910 hb; replace HB := Aside0.mk (below_step (beQ HB) hb)
      (try clear hb)
      (try clear hb2)
      (try clear hk)
      (try clear hi)
      (try clear ho0)
      obtain ⟨Ao20, co20, eo20⟩ := Kd.R_slice HO916.out
      (first | subst eo20 | (injection eo20 with f1_ f2_ f3_; have f4_ := f1_.symm; have f5_ := f3_.symm; clear f1_ f2_ f3_; subst f4_; subst f5_))
      refine hK.out _ _ ⟨bc BK910 0, bc BK910 1⟩ (fun hHeld => ?_)
      clear hK K
      refine norm_ (a' := ?_) ?_ ?_
      rotate_left
      ·show Act.put _ (some 29) _ = _
       simp only [Act.put, s1, s2, s3, i64_w, i32_w]
       rfl
      refine one_ (i := 4) (N := some 30) #[true, true, true, true, true, false, false] rfl rfl (by kernel_rfl) (by decide) (fun K hK => ?_)
      refine goes_ Tryd.func71 (by kernel_rfl) rfl #[.agg #[.int .i64 a0_0, .slice A0_1 l0_1.length c0_1], .slice Ao20 t914.length co20] (by rfl) rfl rfl lz ?_
      with_reducible refine (spec_l03Normal.calls kj12 a0_0 _ _ l0_1 _ _ t914 t917 _ ?side1 ?side2 ?side3 ?side4 A17.out).mono ?_
      (case side1 => have q_ := Aside0.mk (Kd.C_below HR0_1.out HB.out); exact cQ q_)
      (case side2 => exact HC0_1.out)
      (case side3 => have q_ := Aside0.mk (Kd.R_reads' HO916.out).2.2; exact cQ q_)
      (case side4 => exact (Kd.R_reads' HO916.out).2.1)
      rintro e w21 ⟨v918, rfl, ho0, hb⟩
      refine ⟨_, rfl, ?_⟩
      have HO919 := Aside0.mk (Kd.R_lower (Kd.R_new' ho0 (Kd.R_lt (kdQ HO916))) (below_size (beQ HB))); replace HO916 := Aside0.mk (Kd.R_elder' (kdQ HO916) (Kd.R_base ho0) hb); replace BK910 := bb BK910 hb; replace HB := Aside0.mk (below_step (beQ HB) hb)
      (try clear hb)
      (try clear hb2)
      (try clear hk)
      (try clear hi)
      (try clear ho0)
      refine hK.out _ _ ⟨bc BK910 0, bc BK910 1⟩ (fun hHeld => ?_)
      clear hK K
      refine norm_ (a' := ?_) ?_ ?_
      rotate_left
      ·show Act.put _ (some 30) _ = _
       simp only [Act.put, s1, s2, s3, i64_w, i32_w]
       rfl
      refine pure_ (i := 5) (N := some 6) (v := ?_) (a' := ?_) #[true, true, true, true, true, true, false] rfl rfl (by kernel_rfl) (fun _ _ _ h => h) (Or.inl ⟨by rfl, ?_⟩) ?_ ?_
      rotate_left
      ·intro w'
       go_simp
       with_reducible rfl
      rotate_left
      ·simp only [Act.put, s1, s2, s3, i64_w, i32_w]
       rfl
      refine pure_ (i := 6) (N := some 7) (v := ?_) (a' := ?_) #[true, true, true, true, true, true, true] rfl rfl (by kernel_rfl) (fun _ _ _ h => h) (Or.inl ⟨by rfl, ?_⟩) ?_ ?_
      rotate_left
      ·intro w'
       go_simp
       with_reducible rfl
      rotate_left
      ·simp only [Act.put, s1, s2, s3, i64_w, i32_w]
       rfl
      refine done_ (by kernel_rfl) ?_
      try go_wp2
      go_ret2
      exact ⟨_, rz, by (with_reducible repeat (first | apply Kd.R_alloc | apply Kd.R_drewN | apply Kd.R_drew)); exact Kd.R_mono HO919.out (fun _ hk => trivial), beQ HB⟩
     ·rw [if_neg c15] at H
      have c15b0 : (x8_12 == 0) = false := beq_eq_false_iff_ne.mpr c15
      have c15b1 : (x8_12 != 0) = true := bne_iff_ne.mpr c15
      simp only [Option.some.injEq, Prod.mk.injEq] at H
      obtain ⟨rfl, rfl⟩ := H
      go_wp2
      go_ret2
      exact ⟨_, rz, by first | exact Kd.R_nil _ _ _ _ _ | exact Kd.N_nil _ _ _ _ _ | exact Kd.V_nil _ _ _ _ _ | exact Kd.Q_nil _ _ _ _ _ | exact Kd.S_nil _ _ _ _ _, beQ HB⟩

/-! ### impl_IsMask: function 80 -/
def impl_IsMask.f (a0 : Int) (a1 : Int) : Option (Bool) := (impl_inRange.f a1 0 24).bind fun t920 => (if t920 = true then ((impl_one.f a1).bind fun t921 => ((impl_inRange.f a0 0 (wrap64 (t921 - 1))).bind fun t922 => (some t922))) else (some false))
set_option maxHeartbeats 8000000 in
set_option maxRecDepth 100000 in
theorem impl_IsMask.calls (a0 : Int) (a1 : Int) (r : Bool) (w : World) (h : impl_IsMask.f a0 a1 = some r) :
  Calls Tryd.prog 80 #[.int .i64 a0, .int .i64 a1] w fun e w' => e = .returned (.bool r) ∧ Drawn0 w w' := by
 have H : ((impl_inRange.f a1 0 24).bind fun t920 => (if t920 = true then ((impl_one.f a1).bind fun t921 => ((impl_inRange.f a0 0 (wrap64 (t921 - 1))).bind fun t922 => (some t922))) else (some false))) = some r := h
 clear h; replace H := Option.bind_eq_some_iff.mp H; obtain ⟨t920, A30, H⟩ := H
 replace H : (if t920 = true then ((impl_one.f a1).bind fun t921 => ((impl_inRange.f a0 0 (wrap64 (t921 - 1))).bind fun t922 => (some t922))) else (some false)) = some r := H
 have A3 := Aside0.mk A30; clear A30
 by_cases c4 : t920 = true
 ·subst c4
  have H1 : ((impl_one.f a1).bind fun t921 => ((impl_inRange.f a0 0 (wrap64 (t921 - 1))).bind fun t922 => (some t922))) = some r := by rw [if_pos rfl] at H; exact H
  clear H; have H := H1; clear H1; replace H := Option.bind_eq_some_iff.mp H; obtain ⟨t921, A50, H⟩ := H
  replace H : ((impl_inRange.f a0 0 (wrap64 (t921 - 1))).bind fun t922 => (some t922)) = some r := H
  have A5 := Aside0.mk A50; clear A50; replace H := Option.bind_eq_some_iff.mp H; obtain ⟨t922, A60, H⟩ := H
  replace H : (some t922) = some r := H
  have A6 := Aside0.mk A60; clear A60
  obtain rfl := Option.some.inj H
  go_enter Tryd.func80, Tryd.ntmps80
  go_wp2_with (first | ((with_reducible refine gate_callee (f := 95) rfl ?_); refine goesL_ (some 6) rfl rfl Tryd.func95 (by kernel_rfl) rfl #[.int .i64 a1, .int .i64 0, .int .i64 24] rfl lz ?_; (with_reducible refine (impl_inRange.calls a1 0 24 true _ A3.out).mono ?_); rintro e w' ⟨rfl, ⟨nd, rfl⟩⟩; refine ⟨_, rfl, ?_⟩) | (go_at_call 90; (with_reducible refine (impl_one.calls a1 t921 _ A5.out).mono ?_); rintro e w' ⟨rfl, ⟨nd, rfl⟩⟩) | (go_at_call 95; (with_reducible refine (impl_inRange.calls a0 0 (wrap64 (t921 - 1)) t922 _ A6.out).mono ?_); rintro e w' ⟨rfl, ⟨nd, rfl⟩⟩))
  go_ret
  exact ⟨by first | rfl | (simp; done) | (simp [*]; done), by repeat (first | exact Drawn0.refl _ | apply Drawn0.step)⟩
 ·replace c4 := Bool.eq_false_iff.mpr c4
  subst c4
  have H1 : (some false) = some r := by rw [if_neg (show ¬ (false = true) by decide)] at H; exact H
  clear H; have H := H1; clear H1
  obtain rfl := Option.some.inj H
  go_enter Tryd.func80, Tryd.ntmps80
  go_wp2_with (first | ((with_reducible refine gate_callee (f := 95) rfl ?_); refine goesL_ (some 6) rfl rfl Tryd.func95 (by kernel_rfl) rfl #[.int .i64 a1, .int .i64 0, .int .i64 24] rfl lz ?_; (with_reducible refine (impl_inRange.calls a1 0 24 false _ A3.out).mono ?_); rintro e w' ⟨rfl, ⟨nd, rfl⟩⟩; refine ⟨_, rfl, ?_⟩))
  go_ret
  exact ⟨by first | rfl | (simp; done) | (simp [*]; done), by repeat (first | exact Drawn0.refl _ | apply Drawn0.step)⟩

/-! ### impl_ProjectionOf: function 43 -/
def impl_ProjectionOf.f (k : Nat) (a0_0 : Int) (l0_1 : List Int) (l1 : List Int) (a2 : Int) : Option (List Int × Int) := (impl_checkWords.f k a0_0 l0_1 (([l1] : List (List Int)))).bind fun t927 => (if t927 = 0 then ((impl_IsMask.f a2 a0_0).bind fun t928 => (if t928 = true then ((impl_projected.f k l1 a2).bind fun t929 => ((impl_ties_normal.f k l0_1 t929).bind fun t932 => (some (t932, 0)))) else (some (([] : List Int), 2)))) else (some (([] : List Int), t927)))
theorem impl_ProjectionOf.mono : ∀ a0 a1 a2 a3 k, LeO (impl_ProjectionOf.f k a0 a1 a2 a3) (impl_ProjectionOf.f (k + 1) a0 a1 a2 a3) := by
 intro a0 a1 a2 a3 k
 unfold impl_ProjectionOf.f
 repeat' first
   | (with_reducible exact impl_checkWords.mono _ _ _ _)
   | (with_reducible exact impl_projected.mono _ _ _)
   | (with_reducible exact impl_ties_normal.mono _ _ _)
   | (with_reducible exact LeO.refl _)
   | (with_reducible exact LeO.none _)
   | (with_reducible refine LeO.ite ?_ ?_)
   | (with_reducible refine LeO.bind ?_ (fun _ => ?_))
   | exact impl_checkWords.mono _ _ _ _
   | exact impl_projected.mono _ _ _
   | exact impl_ties_normal.mono _ _ _
   | exact LeO.none _
   | refine LeO.ite ?_ ?_
   | refine LeO.bind ?_ (fun _ => ?_)
set_option maxHeartbeats 8000000 in
set_option maxRecDepth 100000 in
theorem impl_ProjectionOf.calls (k : Nat) (a0_0 : Int) (A0_1 : Option Addr) (c0_1 : Nat) (l0_1 : List Int) (P1_ : Nat → Prop) (A1 : Option Addr) (c1 : Nat) (l1 : List Int) (a2 : Int) (r1 : List Int) (r2 : Int) (w : World) (hr0_1 : Kd.C (Kd.int .i64) w A0_1 l0_1.length l0_1) (hc0_1 : l0_1.length ≤ c0_1) (hs1 : Kd.V (Kd.int .i64) 2 w w.heap.size (fun k_ => P1_ k_) (.slice A1 l1.length c1) l1) (hT : TabW w) (h : impl_ProjectionOf.f k a0_0 l0_1 l1 a2 = some (r1, r2)) :
  Calls Tryd.prog 43 #[.agg #[.int .i64 a0_0, .slice A0_1 l0_1.length c0_1], .slice A1 l1.length c1, .int .i64 a2] w fun e w' => ∃ v0_ : Value, e = .returned (.tuple #[v0_, .int .i64 r2]) ∧ Kd.R (Kd.int .i64) 2 w' w.heap.size (fun k_ => (w.heap.size ≤ k_)) v0_ r1 ∧ Below w.heap.size w w' := by
 have hu28 := Tryd.underlying28; have HT := Aside0.mk hT; clear hT; have HR0_1 := Aside0.mk hr0_1; have HC0_1 := Aside0.mk hc0_1; clear hr0_1 hc0_1; have HO1 := Aside0.mk (show Kd.V (Kd.int .i64) 2 w w.heap.size (fun k_ => (P1_ k_ ∨ w.heap.size ≤ k_)) (.slice A1 l1.length c1) l1 from Kd.V_mono hs1 (fun k_ hk => .inl hk)); have HB := Aside0.mk (Below.refl w.heap.size w)
 have H : ((impl_checkWords.f k a0_0 l0_1 (([l1] : List (List Int)))).bind fun t927 => (if t927 = 0 then ((impl_IsMask.f a2 a0_0).bind fun t928 => (if t928 = true then ((impl_projected.f k l1 a2).bind fun t929 => ((impl_ties_normal.f k l0_1 t929).bind fun t932 => (some (t932, 0)))) else (some (([] : List Int), 2)))) else (some (([] : List Int), t927)))) = some (r1, r2) := h
 clear h
 obtain ⟨y924, hy924⟩ : ∃ y_ : List (List Int), y_ = (([l1] : List (List Int))) := ⟨_, rfl⟩
 replace H : ((impl_checkWords.f k a0_0 l0_1 y924).bind fun t927 => (if t927 = 0 then ((impl_IsMask.f a2 a0_0).bind fun t928 => (if t928 = true then ((impl_projected.f k l1 a2).bind fun t929 => ((impl_ties_normal.f k l0_1 t929).bind fun t932 => (some (t932, 0)))) else (some (([] : List Int), 2)))) else (some (([] : List Int), t927)))) = some (r1, r2) := by first | (rw [hy924]; with_reducible exact H) | (have H2_ := (Option.bind_some _ _).symm.trans H; rw [hy924]; with_reducible exact H2_) | (have H2_ := (Option.bind_some _ _).symm.trans H; with_reducible exact H2_) | with_reducible exact H | (rw [hy924]; exact H) | exact H
 have Ny924 := Aside0.mk hy924; clear hy924; replace H := Option.bind_eq_some_iff.mp H; obtain ⟨t927, A40, H⟩ := H
 replace H : (if t927 = 0 then ((impl_IsMask.f a2 a0_0).bind fun t928 => (if t928 = true then ((impl_projected.f k l1 a2).bind fun t929 => ((impl_ties_normal.f k l0_1 t929).bind fun t932 => (some (t932, 0)))) else (some (([] : List Int), 2)))) else (some (([] : List Int), t927))) = some (r1, r2) := H
 have A4 := Aside0.mk A40; clear A40
 by_cases c5 : t927 = 0
 ·rw [if_pos c5] at H
  have c5b0 : (t927 == 0) = true := beq_iff_eq.mpr c5
  have c5b1 : (t927 != 0) = false := bne_eq_false_iff_eq.mpr c5
  clear c5; replace H := Option.bind_eq_some_iff.mp H; obtain ⟨t928, A60, H⟩ := H
  replace H : (if t928 = true then ((impl_projected.f k l1 a2).bind fun t929 => ((impl_ties_normal.f k l0_1 t929).bind fun t932 => (some (t932, 0)))) else (some (([] : List Int), 2))) = some (r1, r2) := H
  have A6 := Aside0.mk A60; clear A60
  by_cases c7 : t928 = true
  ·subst c7
   have H1 : ((impl_projected.f k l1 a2).bind fun t929 => ((impl_ties_normal.f k l0_1 t929).bind fun t932 => (some (t932, 0)))) = some (r1, r2) := by rw [if_pos rfl] at H; exact H
   clear H; have H := H1; clear H1; replace H := Option.bind_eq_some_iff.mp H; obtain ⟨t929, A80, H⟩ := H
   replace H : ((impl_ties_normal.f k l0_1 t929).bind fun t932 => (some (t932, 0))) = some (r1, r2) := H
   have A8 := Aside0.mk A80; clear A80; replace H := Option.bind_eq_some_iff.mp H; obtain ⟨t932, A90, H⟩ := H
   replace H : (some (t932, 0)) = some (r1, r2) := H
   have A9 := Aside0.mk A90; clear A90
   simp only [Option.some.injEq, Prod.mk.injEq] at H
   obtain ⟨rfl, rfl⟩ := H
   go_enter Tryd.func43, Tryd.ntmps43
   go_wp2_with (first | (go_at_call 55; (with_reducible refine (impl_Alphabet_ties.calls _ _ _ _ _).mono ?_); rintro e w' ⟨rfl, rfl⟩) | ((with_reducible refine gate_dst (N := 3) rfl ?_); refine box_event ?hg (N := 3) ?hd (cs := #[.int .i64 a0_0, .slice A0_1 l0_1.length c0_1]) (t := 28) ?hr ?_; (case hd => rfl); (case hg => rfl); (case hr => first | (go_simp; done) | (go_simp; rfl)); intro gb923 hg w10 hbox hb; replace HO1 := Aside0.mk (Kd.V_below (Kd.V_elderB (by (with_reducible repeat (first | apply Kd.V_alloc | apply Kd.V_drewN | apply Kd.V_drew)); exact HO1.out) gb923 (Nat.le_of_eq hg.symm)) hb); have BK923 := Aside0.mk (hbox); have GW923 := Aside0.mk ((by rw [hg]; exact (below_size (beQ HB)) : w.heap.size ≤ gb923)); have GE923 := Aside0.mk ((by rw [hg]; exact (below_size (beQ HB)) : w.heap.size ≤ gb923)); replace HB := Aside0.mk (below_step (beQ HB) hb); clear hb hbox hg; have hcz11_0 : w10.cell? ⟨gb923, 0, none⟩ = some (.int .i64 a0_0) := bc BK923 0; have hcz11_1 : w10.cell? ⟨gb923, 1, none⟩ = some (.slice A0_1 l0_1.length c0_1) := bc BK923 1; have hfz11_0 := blk_frozen BK923.out 0; have hfz11_1 := blk_frozen BK923.out 1) | ((with_reducible refine gate_dst (N := 11) rfl ?_); refine Kd.N_lit (Kd.slice 2 (Kd.int .i64)) _ 22 ?hg (N' := 11) ?hd (xs := ([l1] : List (List Int))) (inner := [.slice A1 l1.length c1]) (ok := (fun k_ => (P1_ k_ ∨ w.heap.size ≤ k_) ∧ k_ ≠ gb923)) (okp := (fun k_ => (P1_ k_ ∨ w.heap.size ≤ k_) ∧ k_ ≠ gb923)) ?hr ?hp (fun _ hk => hk) ((show ∀ k_, w10.heap.size ≤ k_ → (fun k_ => (P1_ k_ ∨ w.heap.size ≤ k_) ∧ k_ ≠ gb923) k_ from fun k_ hk => ⟨(.inr (Nat.le_trans (below_size (beQ HB)) hk)), Kd.freshB (g := gb923) (o := .cells #[.int .i64 a0_0, .slice A0_1 l0_1.length c0_1] 28 (0, 0)) (blkQ BK923) k_ hk⟩) _ (Nat.le_refl _)) (Below.refl _ _) (Nat.le_refl _) (by simp) ?_; (case hd => rfl); (case hg => rfl); (case hr => first | (go_simp; done) | (go_simp; rfl)); (case hp => exact (Reps.one (show Kd.FK (Kd.slice 2 (Kd.int .i64)) _ _ l1 [.slice A1 l1.length c1] from (Kd.FK_slice_mk (Kd.V_reads' (Kd.V_mono (ok' := (fun k_ => (P1_ k_ ∨ w.heap.size ≤ k_) ∧ k_ ≠ gb923)) (HO1.out) (fun k_ hk => ⟨hk.1, hk.2⟩))).2.1 (Kd.V_F (Kd.V_mono (ok' := (fun k_ => (P1_ k_ ∨ w.heap.size ≤ k_) ∧ k_ ≠ gb923)) (HO1.out) (fun k_ hk => ⟨hk.1, hk.2⟩))))) (Reps.none _ _))); intro v925 w12 ho13 hb hg_ hnew_; clear hg_ hnew_; (first | rw [← Ny924.out] at ho13 | (simp only [Int.reduceToNat] at ho13; rw [← Ny924.out] at ho13)); replace HO1 := Aside0.mk (Kd.V_elder' (by (with_reducible repeat (first | apply Kd.V_alloc | apply Kd.V_drewN | apply Kd.V_drew)); exact HO1.out) (Kd.N_base ho13) hb); have HO926 := Aside0.mk (Kd.N_lower ho13 (below_size (beQ HB))); replace BK923 := bb BK923 hb; replace HB := Aside0.mk (below_step (beQ HB) hb); clear hb ho13; obtain ⟨Ao14, co14, eo14⟩ := Kd.N_slice HO926.out; subst eo14) | ((with_reducible refine gate_callee (f := 54) rfl ?_); refine goesL_ (some 12) rfl rfl Tryd.func54 (by kernel_rfl) rfl #[.agg #[.int .i64 a0_0, .slice A0_1 l0_1.length c0_1], .slice Ao14 y924.length co14] rfl lz ?_; (with_reducible refine (impl_checkWords.calls k a0_0 _ _ l0_1 _ _ y924 t927 _ ?side1 ?side2 ?side3 ?side4 ?side5 A4.out).mono ?_); (case side1 => have q_ := Aside0.mk (Kd.C_below HR0_1.out HB.out); exact cQ q_); (case side2 => exact HC0_1.out); (case side3 => have q_ := Aside0.mk (Kd.N_reads' HO926.out).2.2; exact cQ q_); (case side4 => exact (Kd.N_reads' HO926.out).2.1); (case side5 => exact TabW.below HT.out (beQ HB)); rintro e w15 ⟨rfl, hb⟩; refine ⟨_, rfl, ?_⟩; replace HO1 := Aside0.mk (Kd.V_below (by (with_reducible repeat (first | apply Kd.V_alloc | apply Kd.V_drewN | apply Kd.V_drew)); exact HO1.out) hb); replace HO926 := Aside0.mk (Kd.N_below (by (with_reducible repeat (first | apply Kd.N_alloc | apply Kd.N_drewN | apply Kd.N_drew)); exact HO926.out) hb); replace BK923 := bb BK923 hb; replace HB := Aside0.mk (below_step (beQ HB) hb); (try clear hb); (try clear hb2); (try clear hk); (try clear hi); have hcz16_0 : w15.cell? ⟨gb923, 0, none⟩ = some (.int .i64 a0_0) := bc BK923 0; have hcz16_1 : w15.cell? ⟨gb923, 1, none⟩ = some (.slice A0_1 l0_1.length c0_1) := bc BK923 1; have hfz16_0 := blk_frozen BK923.out 0; have hfz16_1 := blk_frozen BK923.out 1) | ((with_reducible refine gate_callee (f := 80) rfl ?_); refine goesL_ (some 19) rfl rfl Tryd.func80 (by kernel_rfl) rfl #[.int .i64 a2, .int .i64 a0_0] rfl lz ?_; (with_reducible refine (impl_IsMask.calls a2 a0_0 true _ A6.out).mono ?_); rintro e w' ⟨rfl, ⟨nd, rfl⟩⟩; refine ⟨_, rfl, ?_⟩) | ((with_reducible refine gate_callee (f := 81) rfl ?_); refine goesL_ (some 25) rfl rfl Tryd.func81 (by kernel_rfl) rfl #[.slice A1 l1.length c1, .int .i64 a2] rfl lz ?_; (with_reducible refine (impl_projected.calls k _ _ l1 a2 t929 _ ?side1 ?side2 A8.out).mono ?_); (case side1 => have q_ := Aside0.mk (Kd.V_reads' HO1.out).2.2; exact cQ q_); (case side2 => exact (Kd.V_reads' HO1.out).2.1); rintro e w17 ⟨v930, rfl, ho0, hb⟩; refine ⟨_, rfl, ?_⟩; replace HO1 := Aside0.mk (Kd.V_elder' (by (with_reducible repeat (first | apply Kd.V_alloc | apply Kd.V_drewN | apply Kd.V_drew)); exact HO1.out) (Kd.R_base ho0) hb); replace HO926 := Aside0.mk (Kd.N_elder' (by (with_reducible repeat (first | apply Kd.N_alloc | apply Kd.N_drewN | apply Kd.N_drew)); exact HO926.out) (Kd.R_base ho0) hb); have HO931 := Aside0.mk (Kd.R_lower (Kd.R_newM (M := fun k_ => (w.heap.size ≤ k_)) ho0 (below_size (beQ HB)) (fun k_ h_ => h_)) (below_size (beQ HB))); replace BK923 := bb BK923 hb; replace HB := Aside0.mk (below_step (beQ HB) hb); (try clear hb); (try clear hb2); (try clear hk); (try clear hi); (try clear ho0); obtain ⟨Ao18, co18, eo18⟩ := Kd.R_slice HO931.out; subst eo18) | ((with_reducible refine gate_callee (f := 72) rfl ?_); refine goesL_ (some 26) rfl rfl Tryd.func72 (by kernel_rfl) rfl #[.slice A0_1 l0_1.length c0_1, .slice Ao18 t929.length co18] rfl lz ?_; (with_reducible refine (impl_ties_normal.calls k _ _ l0_1 (fun k_ => some k_ = (.slice Ao18 t929.length co18 : Value).ownBlock) _ _ t929 t932 _ ?side1 ?side2 ?side3 ?side4 A9.out).mono ?_); (case side1 => have q_ := Aside0.mk (Kd.C_below HR0_1.out HB.out); exact cQ q_); (case side2 => exact HC0_1.out); (case side3 => exact Kd.R_V (Kd.R_tight rfl (Kd.R_types (Kd.R_apart' (HO931.out) (Kd.N_typed HO926.out) (by decide)) BK923.out (by decide)))); (case side4 => exact TabW.below HT.out (beQ HB)); rintro e w19 ⟨v933, rfl, ho0, hb⟩; refine ⟨_, rfl, ?_⟩; replace HO1 := Aside0.mk (Kd.V_elder' (by (with_reducible repeat (first | apply Kd.V_alloc | apply Kd.V_drewN | apply Kd.V_drew)); exact HO1.out) (Kd.R_base ho0) hb); replace HO926 := Aside0.mk (Kd.N_elder' (by (with_reducible repeat (first | apply Kd.N_alloc | apply Kd.N_drewN | apply Kd.N_drew)); exact HO926.out) (Kd.R_base ho0) hb); have HO934 := Aside0.mk (Kd.R_lower (Kd.R_new' (Kd.R_newM (M := fun k_ => (w.heap.size ≤ k_)) (Kd.R_mono (ok' := fun k_ => True) ho0 (fun _ hk_ => trivial)) (below_size (beQ HB)) (fun k_ h_ => h_)) (Kd.R_lt (kdQ HO931))) (below_size (beQ HB))); replace HO931 := Aside0.mk (Kd.R_elder' (kdQ HO931) (Kd.R_base ho0) hb); replace BK923 := bb BK923 hb; replace HB := Aside0.mk (below_step (beQ HB) hb); (try clear hb); (try clear hb2); (try clear hk); (try clear hi); (try clear ho0)))
   go_ret2
   exact ⟨_, rz, by (with_reducible repeat (first | apply Kd.R_alloc | apply Kd.R_drewN | apply Kd.R_drew)); exact Kd.R_mono HO934.out (fun _ hk => hk.1.1), beQ HB⟩
  ·replace c7 := Bool.eq_false_iff.mpr c7
   subst c7
   have H1 : (some (([] : List Int), 2)) = some (r1, r2) := by rw [if_neg (show ¬ (false = true) by decide)] at H; exact H
   clear H; have H := H1; clear H1
   simp only [Option.some.injEq, Prod.mk.injEq] at H
   obtain ⟨rfl, rfl⟩ := H
   go_enter Tryd.func43, Tryd.ntmps43
   go_wp2_with (first | (go_at_call 55; (with_reducible refine (impl_Alphabet_ties.calls _ _ _ _ _).mono ?_); rintro e w' ⟨rfl, rfl⟩) | ((with_reducible refine gate_dst (N := 3) rfl ?_); refine box_event ?hg (N := 3) ?hd (cs := #[.int .i64 a0_0, .slice A0_1 l0_1.length c0_1]) (t := 28) ?hr ?_; (case hd => rfl); (case hg => rfl); (case hr => first | (go_simp; done) | (go_simp; rfl)); intro gb923 hg w20 hbox hb; replace HO1 := Aside0.mk (Kd.V_below (Kd.V_elderB (by (with_reducible repeat (first | apply Kd.V_alloc | apply Kd.V_drewN | apply Kd.V_drew)); exact HO1.out) gb923 (Nat.le_of_eq hg.symm)) hb); have BK923 := Aside0.mk (hbox); have GW923 := Aside0.mk ((by rw [hg]; exact (below_size (beQ HB)) : w.heap.size ≤ gb923)); have GE923 := Aside0.mk ((by rw [hg]; exact (below_size (beQ HB)) : w.heap.size ≤ gb923)); replace HB := Aside0.mk (below_step (beQ HB) hb); clear hb hbox hg; have hcz21_0 : w20.cell? ⟨gb923, 0, none⟩ = some (.int .i64 a0_0) := bc BK923 0; have hcz21_1 : w20.cell? ⟨gb923, 1, none⟩ = some (.slice A0_1 l0_1.length c0_1) := bc BK923 1; have hfz21_0 := blk_frozen BK923.out 0; have hfz21_1 := blk_frozen BK923.out 1) | ((with_reducible refine gate_dst (N := 11) rfl ?_); refine Kd.N_lit (Kd.slice 2 (Kd.int .i64)) _ 22 ?hg (N' := 11) ?hd (xs := ([l1] : List (List Int))) (inner := [.slice A1 l1.length c1]) (ok := (fun k_ => (P1_ k_ ∨ w.heap.size ≤ k_) ∧ k_ ≠ gb923)) (okp := (fun k_ => (P1_ k_ ∨ w.heap.size ≤ k_) ∧ k_ ≠ gb923)) ?hr ?hp (fun _ hk => hk) ((show ∀ k_, w20.heap.size ≤ k_ → (fun k_ => (P1_ k_ ∨ w.heap.size ≤ k_) ∧ k_ ≠ gb923) k_ from fun k_ hk => ⟨(.inr (Nat.le_trans (below_size (beQ HB)) hk)), Kd.freshB (g := gb923) (o := .cells #[.int .i64 a0_0, .slice A0_1 l0_1.length c0_1] 28 (0, 0)) (blkQ BK923) k_ hk⟩) _ (Nat.le_refl _)) (Below.refl _ _) (Nat.le_refl _) (by simp) ?_; (case hd => rfl); (case hg => rfl); (case hr => first | (go_simp; done) | (go_simp; rfl)); (case hp => exact (Reps.one (show Kd.FK (Kd.slice 2 (Kd.int .i64)) _ _ l1 [.slice A1 l1.length c1] from (Kd.FK_slice_mk (Kd.V_reads' (Kd.V_mono (ok' := (fun k_ => (P1_ k_ ∨ w.heap.size ≤ k_) ∧ k_ ≠ gb923)) (HO1.out) (fun k_ hk => ⟨hk.1, hk.2⟩))).2.1 (Kd.V_F (Kd.V_mono (ok' := (fun k_ => (P1_ k_ ∨ w.heap.size ≤ k_) ∧ k_ ≠ gb923)) (HO1.out) (fun k_ hk => ⟨hk.1, hk.2⟩))))) (Reps.none _ _))); intro v925 w22 ho23 hb hg_ hnew_; clear hg_ hnew_; (first | rw [← Ny924.out] at ho23 | (simp only [Int.reduceToNat] at ho23; rw [← Ny924.out] at ho23)); replace HO1 := Aside0.mk (Kd.V_elder' (by (with_reducible repeat (first | apply Kd.V_alloc | apply Kd.V_drewN | apply Kd.V_drew)); exact HO1.out) (Kd.N_base ho23) hb); have HO926 := Aside0.mk (Kd.N_lower ho23 (below_size (beQ HB))); replace BK923 := bb BK923 hb; replace HB := Aside0.mk (below_step (beQ HB) hb); clear hb ho23; obtain ⟨Ao24, co24, eo24⟩ := Kd.N_slice HO926.out; subst eo24) | ((with_reducible refine gate_callee (f := 54) rfl ?_); refine goesL_ (some 12) rfl rfl Tryd.func54 (by kernel_rfl) rfl #[.agg #[.int .i64 a0_0, .slice A0_1 l0_1.length c0_1], .slice Ao24 y924.length co24] rfl lz ?_; (with_reducible refine (impl_checkWords.calls k a0_0 _ _ l0_1 _ _ y924 t927 _ ?side1 ?side2 ?side3 ?side4 ?side5 A4.out).mono ?_); (case side1 => have q_ := Aside0.mk (Kd.C_below HR0_1.out HB.out); exact cQ q_); (case side2 => exact HC0_1.out); (case side3 => have q_ := Aside0.mk (Kd.N_reads' HO926.out).2.2; exact cQ q_); (case side4 => exact (Kd.N_reads' HO926.out).2.1); (case side5 => exact TabW.below HT.out (beQ HB)); rintro e w25 ⟨rfl, hb⟩; refine ⟨_, rfl, ?_⟩; replace HO1 := Aside0.mk (Kd.V_below (by (with_reducible repeat (first | apply Kd.V_alloc | apply Kd.V_drewN | apply Kd.V_drew)); exact HO1.out) hb); replace HO926 := Aside0.mk (Kd.N_below (by (with_reducible repeat (first | apply Kd.N_alloc | apply Kd.N_drewN | apply Kd.N_drew)); exact HO926.out) hb); replace BK923 := bb BK923 hb; replace HB := Aside0.mk (below_step (beQ HB) hb); (try clear hb); (try clear hb2); (try clear hk); (try clear hi); have hcz26_0 : w25.cell? ⟨gb923, 0, none⟩ = some (.int .i64 a0_0) := bc BK923 0; have hcz26_1 : w25.cell? ⟨gb923, 1, none⟩ = some (.slice A0_1 l0_1.length c0_1) := bc BK923 1; have hfz26_0 := blk_frozen BK923.out 0; have hfz26_1 := blk_frozen BK923.out 1) | ((with_reducible refine gate_callee (f := 80) rfl ?_); refine goesL_ (some 19) rfl rfl Tryd.func80 (by kernel_rfl) rfl #[.int .i64 a2, .int .i64 a0_0] rfl lz ?_; (with_reducible refine (impl_IsMask.calls a2 a0_0 false _ A6.out).mono ?_); rintro e w' ⟨rfl, ⟨nd, rfl⟩⟩; refine ⟨_, rfl, ?_⟩))
   go_ret2
   exact ⟨_, rz, by first | exact Kd.R_nil _ _ _ _ _ | exact Kd.N_nil _ _ _ _ _ | exact Kd.V_nil _ _ _ _ _ | exact Kd.Q_nil _ _ _ _ _ | exact Kd.S_nil _ _ _ _ _, beQ HB⟩
 ·rw [if_neg c5] at H
  have c5b0 : (t927 == 0) = false := beq_eq_false_iff_ne.mpr c5
  have c5b1 : (t927 != 0) = true := bne_iff_ne.mpr c5
  simp only [Option.some.injEq, Prod.mk.injEq] at H
  obtain ⟨rfl, rfl⟩ := H
  go_enter Tryd.func43, Tryd.ntmps43
  go_wp2_with (first | (go_at_call 55; (with_reducible refine (impl_Alphabet_ties.calls _ _ _ _ _).mono ?_); rintro e w' ⟨rfl, rfl⟩) | ((with_reducible refine gate_dst (N := 3) rfl ?_); refine box_event ?hg (N := 3) ?hd (cs := #[.int .i64 a0_0, .slice A0_1 l0_1.length c0_1]) (t := 28) ?hr ?_; (case hd => rfl); (case hg => rfl); (case hr => first | (go_simp; done) | (go_simp; rfl)); intro gb923 hg w27 hbox hb; replace HO1 := Aside0.mk (Kd.V_below (Kd.V_elderB (by (with_reducible repeat (first | apply Kd.V_alloc | apply Kd.V_drewN | apply Kd.V_drew)); exact HO1.out) gb923 (Nat.le_of_eq hg.symm)) hb); have BK923 := Aside0.mk (hbox); have GW923 := Aside0.mk ((by rw [hg]; exact (below_size (beQ HB)) : w.heap.size ≤ gb923)); have GE923 := Aside0.mk ((by rw [hg]; exact (below_size (beQ HB)) : w.heap.size ≤ gb923)); replace HB := Aside0.mk (below_step (beQ HB) hb); clear hb hbox hg; have hcz28_0 : w27.cell? ⟨gb923, 0, none⟩ = some (.int .i64 a0_0) := bc BK923 0; have hcz28_1 : w27.cell? ⟨gb923, 1, none⟩ = some (.slice A0_1 l0_1.length c0_1) := bc BK923 1; have hfz28_0 := blk_frozen BK923.out 0; have hfz28_1 := blk_frozen BK923.out 1) | ((with_reducible refine gate_dst (N := 11) rfl ?_); refine Kd.N_lit (Kd.slice 2 (Kd.int .i64)) _ 22 ?hg (N' := 11) ?hd (xs := ([l1] : List (List Int))) (inner := [.slice A1 l1.length c1]) (ok := (fun k_ => (P1_ k_ ∨ w.heap.size ≤ k_) ∧ k_ ≠ gb923)) (okp := (fun k_ => (P1_ k_ ∨ w.heap.size ≤ k_) ∧ k_ ≠ gb923)) ?hr ?hp (fun _ hk => hk) ((show ∀ k_, w27.heap.size ≤ k_ → (fun k_ => (P1_ k_ ∨ w.heap.size ≤ k_) ∧ k_ ≠ gb923) k_ from fun k_ hk => ⟨(.inr (Nat.le_trans (below_size (beQ HB)) hk)), Kd.freshB (g := gb923) (o := .cells #[.int .i64 a0_0, .slice A0_1 l0_1.length c0_1] 28 (0, 0)) (blkQ BK923) k_ hk⟩) _ (Nat.le_refl _)) (Below.refl _ _) (Nat.le_refl _) (by simp) ?_; (case hd => rfl); (case hg => rfl); (case hr => first | (go_simp; done) | (go_simp; rfl)); (case hp => exact (Reps.one (show Kd.FK (Kd.slice 2 (Kd.int .i64)) _ _ l1 [.slice A1 l1.length c1] from (Kd.FK_slice_mk (Kd.V_reads' (Kd.V_mono (ok' := (fun k_ => (P1_ k_ ∨ w.heap.size ≤ k_) ∧ k_ ≠ gb923)) (HO1.out) (fun k_ hk => ⟨hk.1, hk.2⟩))).2.1 (Kd.V_F (Kd.V_mono (ok' := (fun k_ => (P1_ k_ ∨ w.heap.size ≤ k_) ∧ k_ ≠ gb923)) (HO1.out) (fun k_ hk => ⟨hk.1, hk.2⟩))))) (Reps.none _ _))); intro v925 w29 ho30 hb hg_ hnew_; clear hg_ hnew_; (first | rw [← Ny924.out] at ho30 | (simp only [Int.reduceToNat] at ho30; rw [← Ny924.out] at ho30)); replace HO1 := Aside0.mk (Kd.V_elder' (by (with_reducible repeat (first | apply Kd.V_alloc | apply Kd.V_drewN | apply Kd.V_drew)); exact HO1.out) (Kd.N_base ho30) hb); have HO926 := Aside0.mk (Kd.N_lower ho30 (below_size (beQ HB))); replace BK923 := bb BK923 hb; replace HB := Aside0.mk (below_step (beQ HB) hb); clear hb ho30; obtain ⟨Ao31, co31, eo31⟩ := Kd.N_slice HO926.out; subst eo31) | ((with_reducible refine gate_callee (f := 54) rfl ?_); refine goesL_ (some 12) rfl rfl Tryd.func54 (by kernel_rfl) rfl #[.agg #[.int .i64 a0_0, .slice A0_1 l0_1.length c0_1], .slice Ao31 y924.length co31] rfl lz ?_; (with_reducible refine (impl_checkWords.calls k a0_0 _ _ l0_1 _ _ y924 t927 _ ?side1 ?side2 ?side3 ?side4 ?side5 A4.out).mono ?_); (case side1 => have q_ := Aside0.mk (Kd.C_below HR0_1.out HB.out); exact cQ q_); (case side2 => exact HC0_1.out); (case side3 => have q_ := Aside0.mk (Kd.N_reads' HO926.out).2.2; exact cQ q_); (case side4 => exact (Kd.N_reads' HO926.out).2.1); (case side5 => exact TabW.below HT.out (beQ HB)); rintro e w32 ⟨rfl, hb⟩; refine ⟨_, rfl, ?_⟩; replace HO1 := Aside0.mk (Kd.V_below (by (with_reducible repeat (first | apply Kd.V_alloc | apply Kd.V_drewN | apply Kd.V_drew)); exact HO1.out) hb); replace HO926 := Aside0.mk (Kd.N_below (by (with_reducible repeat (first | apply Kd.N_alloc | apply Kd.N_drewN | apply Kd.N_drew)); exact HO926.out) hb); replace BK923 := bb BK923 hb; replace HB := Aside0.mk (below_step (beQ HB) hb); (try clear hb); (try clear hb2); (try clear hk); (try clear hi)))
  go_ret2
  exact ⟨_, rz, by first | exact Kd.R_nil _ _ _ _ _ | exact Kd.N_nil _ _ _ _ _ | exact Kd.V_nil _ _ _ _ _ | exact Kd.Q_nil _ _ _ _ _ | exact Kd.S_nil _ _ _ _ _, beQ HB⟩

end Go.Proofs.YtlpodkpnoopnnaaDoor.G
