/- How the program's functions compute, function by function: each is told by a plain Lean function of the same answers, under the condition that this one answers. Written by a program of this project over the seat's translation; Lean checks it. -/
import Derived.Test.YtjfdhkobaiplpaaG0
import Derived.Test.YtjfdhkobaiplpaaGQ00a
import Derived.Test.YtjfdhkobaiplpaaGQ00b
import Derived.Test.YtjfdhkobaiplpaaGQ00d
namespace Go.Proofs.Ytjfdhkobaiplpaa.G
open Go.RowKit Go.Proofs.YtjfdhkobaiplpaaW.PrintWords Go.Proofs.YtjfdhkobaiplpaaW.PrintLast Go.Proofs.YtjfdhkobaiplpaaW.PrintMore
attribute [local go_sem] max2_int min2_int max_two min_two max_three min_three max_four min_four   -- for this text's walks alone
set_option linter.unusedVariables false
set_option linter.unusedSimpArgs false

/-! ### spec_AllAlphabets: function 4 -/
mutual
def spec_AllAlphabets.l0 : Nat → Int → List (S32) → Int → Option ((List (S32)) × Int)
 | 0, _, _, _ => none
 | k + 1, x0, x4, x5 => (spec_l01One.f (wrap64 (Int.tdiv (wrap64 (x0 * (wrap64 (x0 - 1)))) 2))).bind fun t180 => (if x5 < t180 then ((spec_l02Free.f k x0).bind fun bt181 => (spec_AllAlphabets.l1 k x0 x4 x5 x5 0 bt181.1 bt181.2)) else (spec_AllAlphabets.l3 k x4 1))
def spec_AllAlphabets.l1 : Nat → Int → List (S32) → Int → Int → Int → Int → List Int → Option ((List (S32)) × Int)
 | 0, _, _, _, _, _, _, _ => none
 | k + 1, x0, x4, x5, x7, x8, x186000, x186001 => if x8 < x0 then (spec_AllAlphabets.l2 k x0 x4 x5 x7 x8 0 x186000 x186001) else ((spec_l02Own.f x186000 x186001).bind fun bt190 => ((spec_l02Least.f k x186000 x186001 (([] : List Int)) bt190.1 bt190.2).bind fun bt194 => ((spec_l02Same.f k bt194.1 bt194.2 x186000 x186001).bind fun t198 => (if t198 = true then (if x4.length < 4398046511104 then (spec_AllAlphabets.l0 k x0 (x4 ++ [(⟨x186000, x186001⟩ : S32)]) (wrap64 (x5 + 1))) else (none)) else (spec_AllAlphabets.l0 k x0 x4 (wrap64 (x5 + 1)))))))
def spec_AllAlphabets.l2 : Nat → Int → List (S32) → Int → Int → Int → Int → Int → List Int → Option ((List (S32)) × Int)
 | 0, _, _, _, _, _, _, _, _ => none
 | k + 1, x0, x4, x5, x7, x8, x9, x186000, x186001 => if x9 < x8 then (if (Int.tmod x7 2) = 1 then ((spec_l02Join.f x186000 x186001 x8 x9).bind fun t186 => (spec_AllAlphabets.l2 k x0 x4 x5 (wrap64 (Int.tdiv x7 2)) x8 (wrap64 (x9 + 1)) x186000 t186)) else (spec_AllAlphabets.l2 k x0 x4 x5 (wrap64 (Int.tdiv x7 2)) x8 (wrap64 (x9 + 1)) x186000 x186001)) else (spec_AllAlphabets.l1 k x0 x4 x5 x7 (wrap64 (x8 + 1)) x186000 x186001)
def spec_AllAlphabets.l3 : Nat → List (S32) → Int → Option ((List (S32)) × Int)
 | 0, _, _ => none
 | k + 1, x4, x10 => if x10 < (x4.length : Int) then (spec_AllAlphabets.l4 k x4 x10 x10) else (some (x4, 0))
def spec_AllAlphabets.l4 : Nat → List (S32) → Int → Int → Option ((List (S32)) × Int)
 | 0, _, _, _ => none
 | k + 1, x4, x10, x11 => if x11 > 0 then (if 0 ≤ x11 then (if x11 < (x4.length : Int) then (if 0 ≤ (wrap64 (x11 - 1)) then (if (wrap64 (x11 - 1)) < (x4.length : Int) then ((spec_l01Less.f k ((rd_T32 x4 x11).f1) ((rd_T32 x4 (wrap64 (x11 - 1))).f1)).bind fun t204 => (if t204 = true then (spec_AllAlphabets.l4 k ((x4.set (x11 : Int).toNat (⟨(rd_T32 x4 (wrap64 (x11 - 1))).f0, (rd_T32 x4 (wrap64 (x11 - 1))).f1⟩ : S32)).set ((wrap64 (x11 - 1)) : Int).toNat (⟨(rd_T32 x4 x11).f0, (rd_T32 x4 x11).f1⟩ : S32)) x10 (wrap64 (x11 - 1))) else (spec_AllAlphabets.l3 k x4 (wrap64 (x10 + 1))))) else (none)) else (none)) else (none)) else (none)) else (spec_AllAlphabets.l3 k x4 (wrap64 (x10 + 1)))
end
def spec_AllAlphabets.f (k : Nat) (a0 : Int) : Option ((List (S32)) × Int) := (spec_l01In.f a0 0 5).bind fun t176 => (if t176 = true then (spec_AllAlphabets.l0 k a0 (([] : List (S32))) 0) else (some (([] : List (S32)), 2)))
theorem spec_AllAlphabets.mono_l : ∀ k, (∀ y0 y1 y2, LeO (spec_AllAlphabets.l0 k y0 y1 y2) (spec_AllAlphabets.l0 (k + 1) y0 y1 y2)) ∧ (∀ y0 y1 y2 y3 y4 y5 y6, LeO (spec_AllAlphabets.l1 k y0 y1 y2 y3 y4 y5 y6) (spec_AllAlphabets.l1 (k + 1) y0 y1 y2 y3 y4 y5 y6)) ∧ (∀ y0 y1 y2 y3 y4 y5 y6 y7, LeO (spec_AllAlphabets.l2 k y0 y1 y2 y3 y4 y5 y6 y7) (spec_AllAlphabets.l2 (k + 1) y0 y1 y2 y3 y4 y5 y6 y7)) ∧ (∀ y0 y1, LeO (spec_AllAlphabets.l3 k y0 y1) (spec_AllAlphabets.l3 (k + 1) y0 y1)) ∧ (∀ y0 y1 y2, LeO (spec_AllAlphabets.l4 k y0 y1 y2) (spec_AllAlphabets.l4 (k + 1) y0 y1 y2))
 | 0 => ⟨fun _ _ _ r h => by simp [spec_AllAlphabets.l0] at h, fun _ _ _ _ _ _ _ r h => by simp [spec_AllAlphabets.l1] at h, fun _ _ _ _ _ _ _ _ r h => by simp [spec_AllAlphabets.l2] at h, fun _ _ r h => by simp [spec_AllAlphabets.l3] at h, fun _ _ _ r h => by simp [spec_AllAlphabets.l4] at h⟩
 | k + 1 => by
  obtain ⟨ih0, ih1, ih2, ih3, ih4⟩ := spec_AllAlphabets.mono_l k
  refine ⟨?_, ?_, ?_, ?_, ?_⟩
  ·intro y0 y1 y2
   unfold spec_AllAlphabets.l0
   repeat' first
   | (with_reducible exact ih0 _ _ _)
   | (with_reducible exact ih1 _ _ _ _ _ _ _)
   | (with_reducible exact ih2 _ _ _ _ _ _ _ _)
   | (with_reducible exact ih3 _ _)
   | (with_reducible exact ih4 _ _ _)
   | (with_reducible exact spec_l01Less.mono _ _ _)
   | (with_reducible exact spec_l02Free.mono _ _)
   | (with_reducible exact spec_l02Least.mono _ _ _ _ _ _)
   | (with_reducible exact spec_l02Same.mono _ _ _ _ _)
   | (with_reducible exact LeO.refl _)
   | (with_reducible exact LeO.none _)
   | (with_reducible refine LeO.ite ?_ ?_)
   | (with_reducible refine LeO.bind ?_ (fun _ => ?_))
   | exact ih0 _ _ _
   | exact ih1 _ _ _ _ _ _ _
   | exact ih2 _ _ _ _ _ _ _ _
   | exact ih3 _ _
   | exact ih4 _ _ _
   | exact spec_l01Less.mono _ _ _
   | exact spec_l02Free.mono _ _
   | exact spec_l02Least.mono _ _ _ _ _ _
   | exact spec_l02Same.mono _ _ _ _ _
   | exact LeO.none _
   | refine LeO.ite ?_ ?_
   | refine LeO.bind ?_ (fun _ => ?_)
  ·intro y0 y1 y2 y3 y4 y5 y6
   unfold spec_AllAlphabets.l1
   repeat' first
   | (with_reducible exact ih0 _ _ _)
   | (with_reducible exact ih1 _ _ _ _ _ _ _)
   | (with_reducible exact ih2 _ _ _ _ _ _ _ _)
   | (with_reducible exact ih3 _ _)
   | (with_reducible exact ih4 _ _ _)
   | (with_reducible exact spec_l01Less.mono _ _ _)
   | (with_reducible exact spec_l02Free.mono _ _)
   | (with_reducible exact spec_l02Least.mono _ _ _ _ _ _)
   | (with_reducible exact spec_l02Same.mono _ _ _ _ _)
   | (with_reducible exact LeO.refl _)
   | (with_reducible exact LeO.none _)
   | (with_reducible refine LeO.ite ?_ ?_)
   | (with_reducible refine LeO.bind ?_ (fun _ => ?_))
   | exact ih0 _ _ _
   | exact ih1 _ _ _ _ _ _ _
   | exact ih2 _ _ _ _ _ _ _ _
   | exact ih3 _ _
   | exact ih4 _ _ _
   | exact spec_l01Less.mono _ _ _
   | exact spec_l02Free.mono _ _
   | exact spec_l02Least.mono _ _ _ _ _ _
   | exact spec_l02Same.mono _ _ _ _ _
   | exact LeO.none _
   | refine LeO.ite ?_ ?_
   | refine LeO.bind ?_ (fun _ => ?_)
  ·intro y0 y1 y2 y3 y4 y5 y6 y7
   unfold spec_AllAlphabets.l2
   repeat' first
   | (with_reducible exact ih0 _ _ _)
   | (with_reducible exact ih1 _ _ _ _ _ _ _)
   | (with_reducible exact ih2 _ _ _ _ _ _ _ _)
   | (with_reducible exact ih3 _ _)
   | (with_reducible exact ih4 _ _ _)
   | (with_reducible exact spec_l01Less.mono _ _ _)
   | (with_reducible exact spec_l02Free.mono _ _)
   | (with_reducible exact spec_l02Least.mono _ _ _ _ _ _)
   | (with_reducible exact spec_l02Same.mono _ _ _ _ _)
   | (with_reducible exact LeO.refl _)
   | (with_reducible exact LeO.none _)
   | (with_reducible refine LeO.ite ?_ ?_)
   | (with_reducible refine LeO.bind ?_ (fun _ => ?_))
   | exact ih0 _ _ _
   | exact ih1 _ _ _ _ _ _ _
   | exact ih2 _ _ _ _ _ _ _ _
   | exact ih3 _ _
   | exact ih4 _ _ _
   | exact spec_l01Less.mono _ _ _
   | exact spec_l02Free.mono _ _
   | exact spec_l02Least.mono _ _ _ _ _ _
   | exact spec_l02Same.mono _ _ _ _ _
   | exact LeO.none _
   | refine LeO.ite ?_ ?_
   | refine LeO.bind ?_ (fun _ => ?_)
  ·intro y0 y1
   unfold spec_AllAlphabets.l3
   repeat' first
   | (with_reducible exact ih0 _ _ _)
   | (with_reducible exact ih1 _ _ _ _ _ _ _)
   | (with_reducible exact ih2 _ _ _ _ _ _ _ _)
   | (with_reducible exact ih3 _ _)
   | (with_reducible exact ih4 _ _ _)
   | (with_reducible exact spec_l01Less.mono _ _ _)
   | (with_reducible exact spec_l02Free.mono _ _)
   | (with_reducible exact spec_l02Least.mono _ _ _ _ _ _)
   | (with_reducible exact spec_l02Same.mono _ _ _ _ _)
   | (with_reducible exact LeO.refl _)
   | (with_reducible exact LeO.none _)
   | (with_reducible refine LeO.ite ?_ ?_)
   | (with_reducible refine LeO.bind ?_ (fun _ => ?_))
   | exact ih0 _ _ _
   | exact ih1 _ _ _ _ _ _ _
   | exact ih2 _ _ _ _ _ _ _ _
   | exact ih3 _ _
   | exact ih4 _ _ _
   | exact spec_l01Less.mono _ _ _
   | exact spec_l02Free.mono _ _
   | exact spec_l02Least.mono _ _ _ _ _ _
   | exact spec_l02Same.mono _ _ _ _ _
   | exact LeO.none _
   | refine LeO.ite ?_ ?_
   | refine LeO.bind ?_ (fun _ => ?_)
  ·intro y0 y1 y2
   unfold spec_AllAlphabets.l4
   repeat' first
   | (with_reducible exact ih0 _ _ _)
   | (with_reducible exact ih1 _ _ _ _ _ _ _)
   | (with_reducible exact ih2 _ _ _ _ _ _ _ _)
   | (with_reducible exact ih3 _ _)
   | (with_reducible exact ih4 _ _ _)
   | (with_reducible exact spec_l01Less.mono _ _ _)
   | (with_reducible exact spec_l02Free.mono _ _)
   | (with_reducible exact spec_l02Least.mono _ _ _ _ _ _)
   | (with_reducible exact spec_l02Same.mono _ _ _ _ _)
   | (with_reducible exact LeO.refl _)
   | (with_reducible exact LeO.none _)
   | (with_reducible refine LeO.ite ?_ ?_)
   | (with_reducible refine LeO.bind ?_ (fun _ => ?_))
   | exact ih0 _ _ _
   | exact ih1 _ _ _ _ _ _ _
   | exact ih2 _ _ _ _ _ _ _ _
   | exact ih3 _ _
   | exact ih4 _ _ _
   | exact spec_l01Less.mono _ _ _
   | exact spec_l02Free.mono _ _
   | exact spec_l02Least.mono _ _ _ _ _ _
   | exact spec_l02Same.mono _ _ _ _ _
   | exact LeO.none _
   | refine LeO.ite ?_ ?_
   | refine LeO.bind ?_ (fun _ => ?_)
theorem spec_AllAlphabets.mono : ∀ a0 k, LeO (spec_AllAlphabets.f k a0) (spec_AllAlphabets.f (k + 1) a0) := by
 intro a0 k
 obtain ⟨ih0, ih1, ih2, ih3, ih4⟩ := spec_AllAlphabets.mono_l k
 unfold spec_AllAlphabets.f
 repeat' first
   | (with_reducible exact ih0 _ _ _)
   | (with_reducible exact ih1 _ _ _ _ _ _ _)
   | (with_reducible exact ih2 _ _ _ _ _ _ _ _)
   | (with_reducible exact ih3 _ _)
   | (with_reducible exact ih4 _ _ _)
   | (with_reducible exact spec_l01Less.mono _ _ _)
   | (with_reducible exact spec_l02Free.mono _ _)
   | (with_reducible exact spec_l02Least.mono _ _ _ _ _ _)
   | (with_reducible exact spec_l02Same.mono _ _ _ _ _)
   | (with_reducible exact LeO.refl _)
   | (with_reducible exact LeO.none _)
   | (with_reducible refine LeO.ite ?_ ?_)
   | (with_reducible refine LeO.bind ?_ (fun _ => ?_))
   | exact ih0 _ _ _
   | exact ih1 _ _ _ _ _ _ _
   | exact ih2 _ _ _ _ _ _ _ _
   | exact ih3 _ _
   | exact ih4 _ _ _
   | exact spec_l01Less.mono _ _ _
   | exact spec_l02Free.mono _ _
   | exact spec_l02Least.mono _ _ _ _ _ _
   | exact spec_l02Same.mono _ _ _ _ _
   | exact LeO.none _
   | refine LeO.ite ?_ ?_
   | refine LeO.bind ?_ (fun _ => ?_)
def spec_AllAlphabets.T23 : Bool × List (List Nat × List Nat) := (true, [([], []), ([0], [0]), ([1], [1]), ([2], [2]), ([2], [2]), ([3, 4, 2], [2, 3, 4]), ([5, 2], [2, 5]), ([6, 2], [2, 6]), ([2], [2]), ([2], [2]), ([9, 2], [2, 9]), ([8, 10, 2], [2, 8, 10]), ([11, 2], [2, 11]), ([12, 2], [2, 12]), ([7, 13, 2, 2], [2, 7, 13]), ([2, 14], [2, 14])])
def spec_AllAlphabets.B23 : List Nat := [0, 1, 3, 7, 7, 31, 63, 127, 7, 7, 519, 1799, 3847, 7943, 16383, 32767]
theorem spec_AllAlphabets.tab23 : rtab .any (opsOf Try.f4 23) = spec_AllAlphabets.T23 := by kernel_rfl
theorem spec_AllAlphabets.bits23 : waitsOk spec_AllAlphabets.T23.2 spec_AllAlphabets.B23 = true := by kernel_rfl
set_option maxHeartbeats 8000000 in
set_option maxRecDepth 100000 in
theorem spec_AllAlphabets.calls (k : Nat) (a0 : Int) (r1 : List (S32)) (r2 : Int) (w : World) (h : spec_AllAlphabets.f k a0 = some (r1, r2)) :
  Calls Try.prog 4 #[.int .i64 a0] w fun e w' => ∃ v0_ : Value, e = .returned (.tuple #[v0_, .int .i64 r2]) ∧ Kd.N k32 32 w' w.heap.size (fun k_ => (w.heap.size ≤ k_)) v0_ r1 ∧ Below w.heap.size w w' := by
 have hu32 := Try.underlying32; have HB := Aside0.mk (Below.refl w.heap.size w)
 have H : ((spec_l01In.f a0 0 5).bind fun t176 => (if t176 = true then (spec_AllAlphabets.l0 k a0 (([] : List (S32))) 0) else (some (([] : List (S32)), 2)))) = some (r1, r2) := h
 clear h; replace H := Option.bind_eq_some_iff.mp H; obtain ⟨t176, A20, H⟩ := H
 replace H : (if t176 = true then (spec_AllAlphabets.l0 k a0 (([] : List (S32))) 0) else (some (([] : List (S32)), 2))) = some (r1, r2) := H
 have A2 := Aside0.mk A20; clear A20
 by_cases c3 : t176 = true
 ·subst c3
  have H1 : (spec_AllAlphabets.l0 k a0 (([] : List (S32))) 0) = some (r1, r2) := by rw [if_pos rfl] at H; exact H
  clear H; have H := H1; clear H1
  obtain ⟨y177, hy177⟩ : ∃ y_ : List (S32), y_ = (([] : List (S32))) := ⟨_, rfl⟩
  replace H : (spec_AllAlphabets.l0 k a0 y177 0) = some (r1, r2) := by first | (rw [hy177]; with_reducible exact H) | (have H2_ := (Option.bind_some _ _).symm.trans H; rw [hy177]; with_reducible exact H2_) | (have H2_ := (Option.bind_some _ _).symm.trans H; with_reducible exact H2_) | with_reducible exact H | (rw [hy177]; exact H) | exact H
  have Ny177 := Aside0.mk hy177; clear hy177
  have H' := Aside0.mk H
  clear H
  go_enter Try.func4, Try.ntmps4
  go_wp2_with (first | ((with_reducible refine gate_callee (f := 9) rfl ?_); refine goesL_ (some 14) rfl rfl Try.func9 (by kernel_rfl) rfl #[.int .i64 a0, .int .i64 0, .int .i64 5] rfl lz ?_; (with_reducible refine (spec_l01In.calls a0 0 5 true _ A2.out).mono ?_); rintro e w' ⟨rfl, ⟨nd, rfl⟩⟩; refine ⟨_, rfl, ?_⟩) | ((with_reducible refine gate_dst (N := 16) rfl ?_); refine Kd.N_lit k32 _ 32 ?hg (N' := 16) ?hd (xs := ([] : List (S32))) (inner := []) (ok := (fun k_ => (w.heap.size ≤ k_))) (okp := (fun k_ => (w.heap.size ≤ k_))) ?hr ?hp (fun _ hk => hk) ((show ∀ k_, w.heap.size ≤ k_ → (fun k_ => (w.heap.size ≤ k_)) k_ from fun k_ hk => (Nat.le_trans (below_size (beQ HB)) hk)) _ (Nat.le_refl _)) (Below.refl _ _) (Nat.le_refl _) (by simp) ?_; (case hd => rfl); (case hg => rfl); (case hr => first | (go_simp; done) | (go_simp; rfl)); (case hp => exact (Reps.none _ _)); intro v178 w4 ho5 hb hg_ hnew_; clear hg_ hnew_; (first | rw [← Ny177.out] at ho5 | (simp only [Int.reduceToNat] at ho5; rw [← Ny177.out] at ho5)); have HO179 := Aside0.mk (Kd.N_lower ho5 (below_size (beQ HB))); replace HB := Aside0.mk (below_step (beQ HB) hb); clear hb ho5))
  go_loopg [4, 5] k (fun kq v4 v5 w' => ∃ (x4_1 : List (S32)) (x5_1 : Int), v5 = .int .i64 x5_1 ∧ Aside0 (spec_AllAlphabets.l0 kq a0 x4_1 x5_1 = some (r1, r2)) ∧ Aside0 (kq ≤ k) ∧ Aside0 (Kd.N k32 32 w' w.heap.size (fun k_ => (w.heap.size ≤ k_)) v4 x4_1) ∧ Aside0 (Below w.heap.size w w'))
  case atStart => exact ⟨(y177), (0), sz, H', ⟨Nat.le_refl _⟩, ⟨by (with_reducible repeat (first | apply Kd.N_alloc | apply Kd.N_drewN | apply Kd.N_drew)); exact HO179.out⟩, ⟨beQ HB⟩⟩
  case round =>
   clear H'
   try clear p2
   try clear c3
   try clear c4
   obtain ⟨x4_1, x5_1, rfl, HA, HK1, HO_4, HB⟩ := hrel
   cases gk with
   | zero => exact absurd HA.out (by simp [spec_AllAlphabets.l0])
   | succ k1 =>
    have H := HA.out; clear HA
    simp only [spec_AllAlphabets.l0] at H
    replace H := Option.bind_eq_some_iff.mp H; obtain ⟨t180, A60, H⟩ := H
    replace H : (if x5_1 < t180 then ((spec_l02Free.f k1 a0).bind fun bt181 => (spec_AllAlphabets.l1 k1 a0 x4_1 x5_1 x5_1 0 bt181.1 bt181.2)) else (spec_AllAlphabets.l3 k1 x4_1 1)) = some (r1, r2) := H
    have A6 := Aside0.mk A60; clear A60
    by_cases c7 : x5_1 < t180
    ·rw [if_pos c7] at H
     have c7b0 : decide (x5_1 < t180) = true := decide_eq_true c7
     clear c7; replace H := Option.bind_eq_some_iff.mp H
     obtain ⟨⟨t181, t182⟩, A80, H⟩ := H
     replace H : (spec_AllAlphabets.l1 k1 a0 x4_1 x5_1 x5_1 0 t181 t182) = some (r1, r2) := H
     have A8 := Aside0.mk A80; clear A80
     have H' := Aside0.mk H
     clear H
     go_wp2_with (first | ((with_reducible refine gate_callee (f := 10) rfl ?_); refine goesL_ (some 23) rfl rfl Try.func10 (by kernel_rfl) rfl #[.int .i64 (wrap64 (Int.tdiv (wrap64 (a0 * (wrap64 (a0 - 1)))) 2))] rfl lz ?_; (with_reducible refine (spec_l01One.calls (wrap64 (Int.tdiv (wrap64 (a0 * (wrap64 (a0 - 1)))) 2)) t180 _ A6.out).mono ?_); rintro e w' ⟨rfl, ⟨nd, rfl⟩⟩; refine ⟨_, rfl, ?_⟩; (try (rw [drewN_self wr]; generalize hq_ : World.drewN wr _ = wr; have n0_ : Aside0 (Kd.N k32 32 wr w.heap.size (fun k_ => (w.heap.size ≤ k_)) u4 x4_1) := ⟨by rw [← hq_]; exact (by (with_reducible repeat (first | apply Kd.N_alloc | apply Kd.N_drewN | apply Kd.N_drew)); exact HO_4.out)⟩; have n1_ : Aside0 (Below w.heap.size w wr) := ⟨by rw [← hq_]; exact (beQ HB)⟩; clear HO_4 HB hq_; have HO_4 := n0_; have HB := n1_; clear n0_ n1_))) | ((with_reducible refine gate_callee (f := 11) rfl ?_); refine goesL_ (some 28) rfl rfl Try.func11 (by kernel_rfl) rfl #[.int .i64 a0] rfl lz ?_; (with_reducible refine (spec_l02Free.calls k1 a0 t181 t182 _ A8.out).mono ?_); rintro e w9 ⟨v183, rfl, ho0, hb⟩; refine ⟨_, rfl, ?_⟩; replace HO_4 := Aside0.mk (Kd.N_elder' (by (with_reducible repeat (first | apply Kd.N_alloc | apply Kd.N_drewN | apply Kd.N_drew)); exact HO_4.out) (Kd.R_base ho0) hb); have HO184 := Aside0.mk (Kd.R_lower (Kd.R_newM (M := fun k_ => (w.heap.size ≤ k_)) ho0 (below_size (beQ HB)) (fun k_ h_ => h_)) (below_size (beQ HB))); replace HB := Aside0.mk (below_step (beQ HB) hb); (try clear hb); (try clear hb2); (try clear hk); (try clear hi); (try clear hgw_); (try clear ho0)) | ((with_reducible refine gate_dst (N := 6) rfl ?_); refine box_event ?hg (N := 6) ?hd (cs := #[.int .i64 0, .slice none 0 0]) (t := 32) ?hr ?_; (case hd => rfl); (case hg => rfl); (case hr => first | (go_simp; done) | (go_simp; rfl)); intro gb185 hg w10 hbox hb; replace HO_4 := Aside0.mk (Kd.N_below (Kd.N_elderB (by (with_reducible repeat (first | apply Kd.N_alloc | apply Kd.N_drewN | apply Kd.N_drew)); exact HO_4.out) gb185 (Nat.le_of_eq hg.symm)) hb); replace HO184 := kb HO184 hb; have BK185 := Aside0.mk (hbox); have GW185 := Aside0.mk ((by rw [hg]; exact (below_size (beQ HB)) : w.heap.size ≤ gb185)); have GE185 := Aside0.mk ((by rw [hg]; exact (below_size (beQ HB)) : w.heap.size ≤ gb185)); replace HB := Aside0.mk (below_step (beQ HB) hb); clear hb hbox hg; have hcz11_0 : w10.cell? ⟨gb185, 0, none⟩ = some (.int .i64 0) := bc BK185 0; have hcz11_1 : w10.cell? ⟨gb185, 1, none⟩ = some (.slice none 0 0) := bc BK185 1; have hfz11_0 := blk_frozen BK185.out 0; have hfz11_1 := blk_frozen BK185.out 1; obtain ⟨Ao12, co12, eo12⟩ := Kd.R_slice HO184.out; subst eo12))
     go_loopg [7, 8] k1 (fun kq v7 v8 w' => ∃ (x7_2 : Int) (x8_2 : Int) (x186001_2 : List Int) (u186001 : Value), v7 = .int .i64 x7_2 ∧ v8 = .int .i64 x8_2 ∧ Aside0 (spec_AllAlphabets.l1 kq a0 x4_1 x5_1 x7_2 x8_2 t181 x186001_2 = some (r1, r2)) ∧ Aside0 (kq ≤ k1) ∧ Aside0 (Kd.N k32 32 w' w.heap.size (fun k_ => (w.heap.size ≤ k_) ∧ some k_ ≠ (u186001 : Value).ownBlock ∧ k_ ≠ gb185) u4 x4_1) ∧ Aside0 (Kd.R (Kd.int .i64) 2 w' w.heap.size (fun k_ => (w.heap.size ≤ k_)) u186001 x186001_2) ∧ Aside0 (w'.heap[gb185]? = some (.cells #[.int .i64 t181, u186001] 32 (0, 0))) ∧ Aside0 (Below w.heap.size w w'))
     case atStart => exact ⟨(x5_1), (0), (t182), (.slice Ao12 t182.length co12), sz, sz, H', ⟨Nat.le_refl _⟩, ⟨by (with_reducible repeat (first | apply Kd.N_alloc | apply Kd.N_drewN | apply Kd.N_drew)); exact Kd.N_mono (Kd.N_far (p := ⟨gb185, 1, none⟩) (Kd.N_far (p := ⟨gb185, 0, none⟩) (Kd.N_mono HO_4.out (fun k_ hk => (⟨hk, hk.2⟩ : _ ∧ k_ ≠ gb185))) (fun _ hk => hk.2) (.int .i64 t181)) (fun _ hk => hk.2) (.slice Ao12 t182.length co12)) (fun _ hk => ⟨hk.1.1.1, ⟨hk.1.1.2, hk.1.2⟩⟩)⟩, ⟨by (with_reducible repeat (first | apply Kd.R_alloc | apply Kd.R_drewN | apply Kd.R_drew)); exact Kd.R_mono (Kd.R_far (p := ⟨gb185, 1, none⟩) (Kd.R_far (p := ⟨gb185, 0, none⟩) (Kd.R_types HO184.out BK185.out (by decide)) (fun _ hk => hk.2) (.int .i64 t181)) (fun _ hk => hk.2) (.slice Ao12 t182.length co12)) (fun _ hk => hk.1.1)⟩, ⟨by (with_reducible repeat (first | refine blk_drewN ?_ _ | refine blk_drew ?_ | refine blk_alloc ?_ _)); refine blk_put (cs := #[.int .i64 t181, .slice none 0 0]) ?_ 1 _ rfl; (with_reducible repeat (first | refine blk_drewN ?_ _ | refine blk_drew ?_ | refine blk_alloc ?_ _)); refine blk_put (cs := #[.int .i64 0, .slice none 0 0]) ?_ 0 _ rfl; (with_reducible repeat (first | refine blk_drewN ?_ _ | refine blk_drew ?_ | refine blk_alloc ?_ _)); exact BK185.out⟩, ⟨beQ HB⟩⟩
     case round =>
      clear H'
      try clear c1
      try clear p2
      try clear c3
      try clear c4
      try clear p6
      try clear c7
      try clear c7b0
      try clear c9
      try clear c10
      try clear c11
      try clear hcz11_0
      try clear hcz11_1
      try clear hfz11_0
      try clear hfz11_1
      try clear p2
      obtain ⟨x7_2, x8_2, x186001_2, u186001, rfl, rfl, HA, HK2, HO_4, HO_186001, BK185, HB⟩ := hrel
      cases gk with
      | zero => exact absurd HA.out (by simp [spec_AllAlphabets.l1])
      | succ k2 =>
       have H := HA.out; clear HA
       simp only [spec_AllAlphabets.l1] at H
       by_cases c13 : x8_2 < a0
       ·rw [if_pos c13] at H
        have c13b0 : decide (x8_2 < a0) = true := decide_eq_true c13
        clear c13
        have H' := Aside0.mk H
        clear H
        go_wp2
        go_loopg [7, 9] k2 (fun kq v7 v9 w' => ∃ (x7_3 : Int) (x9_3 : Int) (x186001_3 : List Int) (u186001 : Value), v7 = .int .i64 x7_3 ∧ v9 = .int .i64 x9_3 ∧ Aside0 (spec_AllAlphabets.l2 kq a0 x4_1 x5_1 x7_3 x8_2 x9_3 t181 x186001_3 = some (r1, r2)) ∧ Aside0 (kq ≤ k2) ∧ Aside0 (Kd.N k32 32 w' w.heap.size (fun k_ => (w.heap.size ≤ k_) ∧ some k_ ≠ (u186001 : Value).ownBlock ∧ k_ ≠ gb185) u4 x4_1) ∧ Aside0 (Kd.R (Kd.int .i64) 2 w' w.heap.size (fun k_ => (w.heap.size ≤ k_)) u186001 x186001_3) ∧ Aside0 (w'.heap[gb185]? = some (.cells #[.int .i64 t181, u186001] 32 (0, 0))) ∧ Aside0 (Below w.heap.size w w'))
        case atStart => exact ⟨(x7_2), (0), (x186001_2), (u186001), sz, sz, H', ⟨Nat.le_refl _⟩, ⟨by (with_reducible repeat (first | apply Kd.N_alloc | apply Kd.N_drewN | apply Kd.N_drew)); exact HO_4.out⟩, ⟨kdQ HO_186001⟩, ⟨blkQ BK185⟩, ⟨beQ HB⟩⟩
        case round =>
         clear H'
         try clear c1
         try clear p2
         try clear c3
         try clear c4
         try clear p6
         try clear c7
         try clear c7b0
         try clear c9
         try clear c10
         try clear c11
         try clear c13
         try clear c13b0
         try clear hcz11_0
         try clear hcz11_1
         try clear hfz11_0
         try clear hfz11_1
         try clear p2
         try clear p6
         obtain ⟨x7_3, x9_3, x186001_3, u186001, rfl, rfl, HA, HK3, HO_4, HO_186001, BK185, HB⟩ := hrel
         cases gk with
         | zero => exact absurd HA.out (by simp [spec_AllAlphabets.l2])
         | succ k3 =>
          have H := HA.out; clear HA
          simp only [spec_AllAlphabets.l2] at H
          by_cases c14 : x9_3 < x8_2
          ·rw [if_pos c14] at H
           have c14b0 : decide (x9_3 < x8_2) = true := decide_eq_true c14
           clear c14
           by_cases c15 : (Int.tmod x7_3 2) = 1
           ·rw [if_pos c15] at H
            have c15b0 : ((Int.tmod x7_3 2) == 1) = true := beq_iff_eq.mpr c15
            have c15b1 : ((Int.tmod x7_3 2) != 1) = false := bne_eq_false_iff_eq.mpr c15
            clear c15; replace H := Option.bind_eq_some_iff.mp H; obtain ⟨t186, A160, H⟩ := H
            replace H : (spec_AllAlphabets.l2 k3 a0 x4_1 x5_1 (wrap64 (Int.tdiv x7_3 2)) x8_2 (wrap64 (x9_3 + 1)) t181 t186) = some (r1, r2) := H
            have A16 := Aside0.mk A160; clear A160
            have H' := Aside0.mk H
            clear H
            have hcz17_0 : wr.cell? ⟨gb185, 0, none⟩ = some (.int .i64 t181) := bc BK185 0
            have hcz17_1 : wr.cell? ⟨gb185, 1, none⟩ = some (u186001) := bc BK185 1
            have hfz17_0 := blk_frozen BK185.out 0; have hfz17_1 := blk_frozen BK185.out 1; obtain ⟨Ao18, co18, eo18⟩ := Kd.R_slice HO_186001.out; subst eo18
            go_wp2_with (first | ((with_reducible refine gate_callee (f := 12) rfl ?_); refine goesL_ (some 46) rfl rfl Try.func12 (by kernel_rfl) rfl #[.agg #[.int .i64 t181, .slice Ao18 x186001_3.length co18], .int .i64 x8_2, .int .i64 x9_3] rfl lz ?_; (with_reducible refine (spec_l02Join.calls t181 (fun k_ => some k_ = (.slice Ao18 x186001_3.length co18 : Value).ownBlock) (.slice Ao18 x186001_3.length co18) x186001_3 x8_2 x9_3 t186 w _ ?side1 ?side2 A16.out).mono ?_); (case side1 => repeat (first | (with_reducible first | exact HB.out | apply below_alloc | apply pw_below_drewN | apply below_drew1 | refine below_set ?_ GE185.out) | exact HB.out)); (case side2 => exact Kd.R_tight rfl HO_186001.out); rintro e w19 ⟨rfl, hy0, hb, hkp⟩; refine ⟨_, rfl, ?_⟩; replace HO_4 := Aside0.mk (Kd.N_mono (ok' := fun k_ => (w.heap.size ≤ k_) ∧ some k_ ≠ (.slice Ao18 x186001_3.length co18 : Value).ownBlock ∧ k_ ≠ gb185) (Kd.N_keptB (HO_4.out) hkp (fun k_ hk_ hs_ => (hk_.2.1) hs_)) (fun k_ hk_ => ⟨hk_.1.1, hk_.1.2.1, hk_.1.2.2⟩)); replace BK185 := Aside0.mk (blk_kept (blkQ BK185) hkp (fun hs_ => (fun e_ => (Kd.R_ne HO_186001.out BK185.out (by decide)) e_) hs_)); replace HO_186001 := Aside0.mk (Kd.R_reok rfl hy0 (fun k_ e_ => HO_186001.out.1 k_ e_)); replace HB := Aside0.mk (hb); (try clear hb); (try clear hkp); (try clear hy0)))
            go_roundg k3
            case measure => have := HK1.out; have := HK2.out; have := HK3.out; omega
            case rel => exact ⟨(wrap64 (Int.tdiv x7_3 2)), (wrap64 (x9_3 + 1)), (t186), (.slice Ao18 x186001_3.length co18), sz, sz, H', ⟨by have := HK1.out; have := HK2.out; have := HK3.out; omega⟩, ⟨by (with_reducible repeat (first | apply Kd.N_alloc | apply Kd.N_drewN | apply Kd.N_drew)); exact HO_4.out⟩, ⟨kdQ HO_186001⟩, ⟨blkQ BK185⟩, ⟨beQ HB⟩⟩
           ·rw [if_neg c15] at H
            have c15b0 : ((Int.tmod x7_3 2) == 1) = false := beq_eq_false_iff_ne.mpr c15
            have c15b1 : ((Int.tmod x7_3 2) != 1) = true := bne_iff_ne.mpr c15
            have H' := Aside0.mk H
            clear H
            go_wp2
            go_roundg k3
            case measure => have := HK1.out; have := HK2.out; have := HK3.out; omega
            case rel => exact ⟨(wrap64 (Int.tdiv x7_3 2)), (wrap64 (x9_3 + 1)), (x186001_3), (u186001), sz, sz, H', ⟨by have := HK1.out; have := HK2.out; have := HK3.out; omega⟩, ⟨by (with_reducible repeat (first | apply Kd.N_alloc | apply Kd.N_drewN | apply Kd.N_drew)); exact HO_4.out⟩, ⟨kdQ HO_186001⟩, ⟨blkQ BK185⟩, ⟨beQ HB⟩⟩
          ·rw [if_neg c14] at H
           have c14b0 : decide (x9_3 < x8_2) = false := decide_eq_false c14
           clear c14
           have H' := Aside0.mk H
           clear H
           go_wp2
           go_roundg k3
           case measure => have := HK1.out; have := HK2.out; have := HK3.out; omega
           case rel => exact ⟨(x7_3), (wrap64 (x8_2 + 1)), (x186001_3), (u186001), sz, sz, H', ⟨by have := HK1.out; have := HK2.out; have := HK3.out; omega⟩, ⟨by (with_reducible repeat (first | apply Kd.N_alloc | apply Kd.N_drewN | apply Kd.N_drew)); exact HO_4.out⟩, ⟨kdQ HO_186001⟩, ⟨blkQ BK185⟩, ⟨beQ HB⟩⟩
       ·rw [if_neg c13] at H
        have c13b0 : decide (x8_2 < a0) = false := decide_eq_false c13
        clear c13
        obtain ⟨y187, hy187⟩ : ∃ y_ : List Int, y_ = (([] : List Int)) := ⟨_, rfl⟩
        replace H : ((spec_l02Own.f t181 x186001_2).bind fun bt190 => ((spec_l02Least.f k2 t181 x186001_2 y187 bt190.1 bt190.2).bind fun bt194 => ((spec_l02Same.f k2 bt194.1 bt194.2 t181 x186001_2).bind fun t198 => (if t198 = true then (if x4_1.length < 4398046511104 then (spec_AllAlphabets.l0 k2 a0 (x4_1 ++ [(⟨t181, x186001_2⟩ : S32)]) (wrap64 (x5_1 + 1))) else (none)) else (spec_AllAlphabets.l0 k2 a0 x4_1 (wrap64 (x5_1 + 1))))))) = some (r1, r2) := by first | (rw [hy187]; with_reducible exact H) | (have H2_ := (Option.bind_some _ _).symm.trans H; rw [hy187]; with_reducible exact H2_) | (have H2_ := (Option.bind_some _ _).symm.trans H; with_reducible exact H2_) | with_reducible exact H | (rw [hy187]; exact H) | exact H
        have Ny187 := Aside0.mk hy187; clear hy187; replace H := Option.bind_eq_some_iff.mp H
        obtain ⟨⟨t190, t191⟩, A200, H⟩ := H
        replace H : ((spec_l02Least.f k2 t181 x186001_2 y187 t190 t191).bind fun bt194 => ((spec_l02Same.f k2 bt194.1 bt194.2 t181 x186001_2).bind fun t198 => (if t198 = true then (if x4_1.length < 4398046511104 then (spec_AllAlphabets.l0 k2 a0 (x4_1 ++ [(⟨t181, x186001_2⟩ : S32)]) (wrap64 (x5_1 + 1))) else (none)) else (spec_AllAlphabets.l0 k2 a0 x4_1 (wrap64 (x5_1 + 1)))))) = some (r1, r2) := H
        have A20 := Aside0.mk A200; clear A200; replace H := Option.bind_eq_some_iff.mp H
        obtain ⟨⟨t194, t195⟩, A210, H⟩ := H
        replace H : ((spec_l02Same.f k2 t194 t195 t181 x186001_2).bind fun t198 => (if t198 = true then (if x4_1.length < 4398046511104 then (spec_AllAlphabets.l0 k2 a0 (x4_1 ++ [(⟨t181, x186001_2⟩ : S32)]) (wrap64 (x5_1 + 1))) else (none)) else (spec_AllAlphabets.l0 k2 a0 x4_1 (wrap64 (x5_1 + 1))))) = some (r1, r2) := H
        have A21 := Aside0.mk A210; clear A210; replace H := Option.bind_eq_some_iff.mp H; obtain ⟨t198, A220, H⟩ := H
        replace H : (if t198 = true then (if x4_1.length < 4398046511104 then (spec_AllAlphabets.l0 k2 a0 (x4_1 ++ [(⟨t181, x186001_2⟩ : S32)]) (wrap64 (x5_1 + 1))) else (none)) else (spec_AllAlphabets.l0 k2 a0 x4_1 (wrap64 (x5_1 + 1)))) = some (r1, r2) := H
        have A22 := Aside0.mk A220; clear A220
        by_cases c23 : t198 = true
        ·subst c23
         have H1 : (if x4_1.length < 4398046511104 then (spec_AllAlphabets.l0 k2 a0 (x4_1 ++ [(⟨t181, x186001_2⟩ : S32)]) (wrap64 (x5_1 + 1))) else (none)) = some (r1, r2) := by rw [if_pos rfl] at H; exact H
         clear H; have H := H1; clear H1
         by_cases c24 : x4_1.length < 4398046511104
         ·rw [if_pos c24] at H
          have LMc24 := Aside0.mk c24; clear c24
          obtain ⟨y199, hy199⟩ : ∃ y_ : List (S32), y_ = (x4_1 ++ [(⟨t181, x186001_2⟩ : S32)]) := ⟨_, rfl⟩
          replace H : (spec_AllAlphabets.l0 k2 a0 y199 (wrap64 (x5_1 + 1))) = some (r1, r2) := by first | (rw [hy199]; with_reducible exact H) | (have H2_ := (Option.bind_some _ _).symm.trans H; rw [hy199]; with_reducible exact H2_) | (have H2_ := (Option.bind_some _ _).symm.trans H; with_reducible exact H2_) | with_reducible exact H | (rw [hy199]; exact H) | exact H
          have Ny199 := Aside0.mk hy199; clear hy199
          have H' := Aside0.mk H
          clear H; obtain ⟨Ao25, co25, eo25⟩ := Kd.R_slice HO_186001.out; subst eo25
          try go_wp2
          replace HO_4 := Aside0.mk (Kd.N_drew HO_4.out); replace HO_186001 := Aside0.mk (Kd.R_drew HO_186001.out); replace BK185 := Aside0.mk (blk_drew BK185.out); replace HB := Aside0.mk (below_drew1 HB.out)
          refine start_ (n := 7) (S := fun w' => w'.cell? ⟨gb185, 0, none⟩ = some (.int .i64 t181) ∧ w'.cell? ⟨gb185, 1, none⟩ = some (.slice Ao25 x186001_2.length co25)) (ds := []) #[false, false, false, false, false, false, false] (by kernel_rfl) rfl rfl ⟨bc BK185 0, bc BK185 1⟩ (fun hHeld => ?_)
          generalize wr.drew = w26 at HO_4 HO_186001 BK185 HB hHeld ⊢
          refine take_ (i := 0) (N := some 49) (v := ?_) (a' := ?_) #[true, false, false, false, false, false, false] rfl rfl (by kernel_rfl) (fun _ _ _ h => h) (Or.inl ⟨by rfl, ?_⟩) hHeld ?_ ?_
          rotate_left
          ·rintro w' ⟨s0, s1⟩
           go_simp
           with_reducible rfl
          rotate_left
          ·simp only [Act.put, s1, s2, s3, i64_w, i32_w]
           rfl
          refine take_ (i := 2) (N := some 51) (v := ?_) (a' := ?_) #[true, false, true, false, false, false, false] rfl rfl (by kernel_rfl) (fun _ _ _ h => h) (Or.inl ⟨by rfl, ?_⟩) hHeld ?_ ?_
          rotate_left
          ·rintro w' ⟨s0, s1⟩
           go_simp
           with_reducible rfl
          rotate_left
          ·simp only [Act.put, s1, s2, s3, i64_w, i32_w]
           rfl
          refine take_ (i := 5) (N := some 54) (v := ?_) (a' := ?_) #[true, false, true, false, false, true, false] rfl rfl (by kernel_rfl) (fun _ _ _ h => h) (Or.inl ⟨by rfl, ?_⟩) hHeld ?_ ?_
          rotate_left
          ·rintro w' ⟨s0, s1⟩
           go_simp
           with_reducible rfl
          rotate_left
          ·simp only [Act.put, s1, s2, s3, i64_w, i32_w]
           rfl
          refine join_ (σ := Value × Value) 2 #[true, true, true, true, false, true, false] (fun s_ => [(50, s_.1), (52, .agg #[.int .i64 t190, s_.2])]) (fun s_ w' => (w'.cell? ⟨gb185, 0, none⟩ = some (.int .i64 t181) ∧ w'.cell? ⟨gb185, 1, none⟩ = some (.slice Ao25 x186001_2.length co25)) ∧ (Kd.R (Kd.int .i64) 2 w' w.heap.size (fun k_ => (w.heap.size ≤ k_) ∧ some k_ ≠ (s_.2 : Value).ownBlock ∧ some k_ ≠ (.slice Ao25 x186001_2.length co25 : Value).ownBlock) s_.1 y187) ∧ (Kd.R (Kd.int .i64) 2 w' w.heap.size (fun k_ => (w.heap.size ≤ k_) ∧ some k_ ≠ (s_.1 : Value).ownBlock ∧ some k_ ≠ (.slice Ao25 x186001_2.length co25 : Value).ownBlock) s_.2 t191) ∧ (Kd.R (Kd.int .i64) 2 w' w.heap.size (fun k_ => (w.heap.size ≤ k_) ∧ some k_ ≠ (s_.1 : Value).ownBlock ∧ some k_ ≠ (s_.2 : Value).ownBlock) (.slice Ao25 x186001_2.length co25) x186001_2) ∧ (Kd.N k32 32 w' w.heap.size (fun k_ => (w.heap.size ≤ k_) ∧ some k_ ≠ (s_.1 : Value).ownBlock ∧ some k_ ≠ (s_.2 : Value).ownBlock ∧ some k_ ≠ (.slice Ao25 x186001_2.length co25 : Value).ownBlock ∧ k_ ≠ gb185) u4 x4_1) ∧ (w'.heap[gb185]? = some (.cells #[.int .i64 t181, .slice Ao25 x186001_2.length co25] 32 (0, 0))) ∧ (Below w.heap.size w w')) ?_ ?_
          rotate_left
          ·intro hCont
           refine two_ (i := 1) (j := 3) (Ni := some 50) (Nj := some 52) #[true, true, true, false, false, true, false] #[true, false, true, true, false, true, false] rfl rfl rfl rfl (by kernel_rfl) (by decide) (by decide) (fun K hK => ?_) (fun K hK => ?_)
           ·skip
            refine Kd.R_lit_step (Kd.int .i64) _ 2 ?hg (N := 50) ?hd (xs := ([] : List Int)) (inner := []) (ok := fun _ => True) (okp := fun _ => True) ?hr ?hp (fun _ hk => hk) trivial (Below.refl _ _) (Nat.le_refl _) (by simp) ?_; (case hd => rfl); (case hg => rfl); (case hr => first | (go_simp; done) | (go_simp; rfl)); (case hp => exact (Reps.none _ _))
            intro v188 w27 ho28 hb hg_ hnew_
            clear hg_ hnew_
            (first | rw [← Ny187.out] at ho28 | (simp only [Int.reduceToNat] at ho28; rw [← Ny187.out] at ho28))
            replace HO_4 := Aside0.mk (Kd.N_elder' (by (with_reducible repeat (first | apply Kd.N_alloc | apply Kd.N_drewN | apply Kd.N_drew)); exact HO_4.out) (Kd.R_base ho28) hb)
            have HO189 := Aside0.mk (Kd.R_lower (Kd.R_new' (Kd.R_newM (M := fun k_ => (w.heap.size ≤ k_)) ho28 (below_size (beQ HB)) (fun k_ h_ => h_)) (Kd.R_lt (kdQ HO_186001))) (below_size (beQ HB))); replace HO_186001 := Aside0.mk (Kd.R_elder' (kdQ HO_186001) (Kd.R_base ho28) hb); replace BK185 := bb BK185 hb; replace HB := Aside0.mk (below_step (beQ HB) hb); clear hb ho28
            refine hK.out _ _ ⟨bc BK185 0, bc BK185 1⟩ (fun hHeld => ?_)
            clear hK K
            refine norm_ (a' := ?_) ?_ ?_
            rotate_left
            ·show Act.put _ (some 50) _ = _
             simp only [Act.put, s1, s2, s3, i64_w, i32_w]
             rfl
            refine one_ (i := 3) (N := some 52) #[true, true, true, true, false, true, false] rfl rfl (by kernel_rfl) (by decide) (fun K hK => ?_)
            refine goes_ Try.func15 (by kernel_rfl) rfl #[.agg #[.int .i64 t181, .slice Ao25 x186001_2.length co25]] (by rfl) rfl rfl lz ?_
            with_reducible refine (spec_l02Own.calls t181 _ _ x186001_2 t190 t191 _ ?side1 ?side2 A20.out).mono ?_
            (case side1 => have q_ := Aside0.mk (Kd.R_reads' HO_186001.out).2.2; exact cQ q_)
            (case side2 => exact (Kd.R_reads' HO_186001.out).2.1)
            rintro e w29 ⟨v192, rfl, ho0, hb⟩
            refine ⟨_, rfl, ?_⟩
            replace HO_4 := Aside0.mk (Kd.N_elder' (by (with_reducible repeat (first | apply Kd.N_alloc | apply Kd.N_drewN | apply Kd.N_drew)); exact HO_4.out) (Kd.R_base ho0) hb)
            have HO193 := Aside0.mk (Kd.R_lower (Kd.R_new' (Kd.R_new' (Kd.R_newM (M := fun k_ => (w.heap.size ≤ k_)) ho0 (below_size (beQ HB)) (fun k_ h_ => h_)) (Kd.R_lt (kdQ HO_186001))) (Kd.R_lt (kdQ HO189))) (below_size (beQ HB))); replace HO_186001 := Aside0.mk (Kd.R_elder' (kdQ HO_186001) (Kd.R_base ho0) hb); replace HO189 := Aside0.mk (Kd.R_elder' (kdQ HO189) (Kd.R_base ho0) hb); replace BK185 := bb BK185 hb; replace HB := Aside0.mk (below_step (beQ HB) hb)
            (try clear hb)
            (try clear hb2)
            (try clear hk)
            (try clear hi)
            (try clear hgw_)
            (try clear ho0)
            refine hK.out _ _ ⟨bc BK185 0, bc BK185 1⟩ (fun hHeld => ?_)
            clear hK K
            refine norm_ (a' := ?_) ?_ ?_
            rotate_left
            ·show Act.put _ (some 52) _ = _
             simp only [Act.put, s1, s2, s3, i64_w, i32_w]
             rfl
            exact norm_ (by simp only [putAll, Act.put, List.setIfInBounds_toArray, List.set_cons_zero, List.set_cons_succ]) (hCont (v188, v192) _ ⟨hHeld, (by (with_reducible repeat (first | apply Kd.R_alloc | apply Kd.R_drewN | apply Kd.R_drew)); exact Kd.R_mono HO189.out (fun _ hk => ⟨hk.1.1.1, ⟨hk.2, hk.1.2⟩⟩)), (by (with_reducible repeat (first | apply Kd.R_alloc | apply Kd.R_drewN | apply Kd.R_drew)); exact Kd.R_mono HO193.out (fun _ hk => ⟨hk.1.1.1, ⟨hk.2, hk.1.2⟩⟩)), (by (with_reducible repeat (first | apply Kd.R_alloc | apply Kd.R_drewN | apply Kd.R_drew)); exact Kd.R_mono HO_186001.out (fun _ hk => ⟨hk.1.1, ⟨hk.1.2, hk.2⟩⟩)), (by (with_reducible repeat (first | apply Kd.N_alloc | apply Kd.N_drewN | apply Kd.N_drew)); exact Kd.N_mono HO_4.out (fun _ hk => ⟨hk.1.1.1, ⟨hk.1.2, ⟨hk.2, ⟨hk.1.1.2.1, hk.1.1.2.2⟩⟩⟩⟩)), (blkQ BK185), (beQ HB)⟩)
           ·skip
            refine goes_ Try.func15 (by kernel_rfl) rfl #[.agg #[.int .i64 t181, .slice Ao25 x186001_2.length co25]] (by rfl) rfl rfl lz ?_
            with_reducible refine (spec_l02Own.calls t181 _ _ x186001_2 t190 t191 _ ?side1 ?side2 A20.out).mono ?_
            (case side1 => have q_ := Aside0.mk (Kd.R_reads' HO_186001.out).2.2; exact cQ q_)
            (case side2 => exact (Kd.R_reads' HO_186001.out).2.1)
            rintro e w27 ⟨v192, rfl, ho0, hb⟩
            refine ⟨_, rfl, ?_⟩
            replace HO_4 := Aside0.mk (Kd.N_elder' (by (with_reducible repeat (first | apply Kd.N_alloc | apply Kd.N_drewN | apply Kd.N_drew)); exact HO_4.out) (Kd.R_base ho0) hb)
            have HO193 := Aside0.mk (Kd.R_lower (Kd.R_new' (Kd.R_newM (M := fun k_ => (w.heap.size ≤ k_)) ho0 (below_size (beQ HB)) (fun k_ h_ => h_)) (Kd.R_lt (kdQ HO_186001))) (below_size (beQ HB))); replace HO_186001 := Aside0.mk (Kd.R_elder' (kdQ HO_186001) (Kd.R_base ho0) hb); replace BK185 := bb BK185 hb; replace HB := Aside0.mk (below_step (beQ HB) hb)
            (try clear hb)
            (try clear hb2)
            (try clear hk)
            (try clear hi)
            (try clear hgw_)
            (try clear ho0)
            refine hK.out _ _ ⟨bc BK185 0, bc BK185 1⟩ (fun hHeld => ?_)
            clear hK K
            refine norm_ (a' := ?_) ?_ ?_
            rotate_left
            ·show Act.put _ (some 52) _ = _
             simp only [Act.put, s1, s2, s3, i64_w, i32_w]
             rfl
            refine one_ (i := 1) (N := some 50) #[true, true, true, true, false, true, false] rfl rfl (by kernel_rfl) (by decide) (fun K hK => ?_)
            refine Kd.R_lit_step (Kd.int .i64) _ 2 ?hg (N := 50) ?hd (xs := ([] : List Int)) (inner := []) (ok := fun _ => True) (okp := fun _ => True) ?hr ?hp (fun _ hk => hk) trivial (Below.refl _ _) (Nat.le_refl _) (by simp) ?_; (case hd => rfl); (case hg => rfl); (case hr => first | (go_simp; done) | (go_simp; rfl)); (case hp => exact (Reps.none _ _))
            intro v188 w28 ho29 hb hg_ hnew_
            clear hg_ hnew_
            (first | rw [← Ny187.out] at ho29 | (simp only [Int.reduceToNat] at ho29; rw [← Ny187.out] at ho29))
            replace HO_4 := Aside0.mk (Kd.N_elder' (by (with_reducible repeat (first | apply Kd.N_alloc | apply Kd.N_drewN | apply Kd.N_drew)); exact HO_4.out) (Kd.R_base ho29) hb)
            have HO189 := Aside0.mk (Kd.R_lower (Kd.R_new' (Kd.R_new' (Kd.R_newM (M := fun k_ => (w.heap.size ≤ k_)) ho29 (below_size (beQ HB)) (fun k_ h_ => h_)) (Kd.R_lt (kdQ HO_186001))) (Kd.R_lt (kdQ HO193))) (below_size (beQ HB))); replace HO_186001 := Aside0.mk (Kd.R_elder' (kdQ HO_186001) (Kd.R_base ho29) hb); replace HO193 := Aside0.mk (Kd.R_elder' (kdQ HO193) (Kd.R_base ho29) hb); replace BK185 := bb BK185 hb; replace HB := Aside0.mk (below_step (beQ HB) hb); clear hb ho29
            refine hK.out _ _ ⟨bc BK185 0, bc BK185 1⟩ (fun hHeld => ?_)
            clear hK K
            refine norm_ (a' := ?_) ?_ ?_
            rotate_left
            ·show Act.put _ (some 50) _ = _
             simp only [Act.put, s1, s2, s3, i64_w, i32_w]
             rfl
            exact norm_ (by simp only [putAll, Act.put, List.setIfInBounds_toArray, List.set_cons_zero, List.set_cons_succ]) (hCont (v188, v192) _ ⟨hHeld, (by (with_reducible repeat (first | apply Kd.R_alloc | apply Kd.R_drewN | apply Kd.R_drew)); exact Kd.R_mono HO189.out (fun _ hk => ⟨hk.1.1.1, ⟨hk.2, hk.1.2⟩⟩)), (by (with_reducible repeat (first | apply Kd.R_alloc | apply Kd.R_drewN | apply Kd.R_drew)); exact Kd.R_mono HO193.out (fun _ hk => ⟨hk.1.1.1, ⟨hk.2, hk.1.2⟩⟩)), (by (with_reducible repeat (first | apply Kd.R_alloc | apply Kd.R_drewN | apply Kd.R_drew)); exact Kd.R_mono HO_186001.out (fun _ hk => ⟨hk.1.1, ⟨hk.2, hk.1.2⟩⟩)), (by (with_reducible repeat (first | apply Kd.N_alloc | apply Kd.N_drewN | apply Kd.N_drew)); exact Kd.N_mono HO_4.out (fun _ hk => ⟨hk.1.1.1, ⟨hk.2, ⟨hk.1.2, ⟨hk.1.1.2.1, hk.1.1.2.2⟩⟩⟩⟩)), (blkQ BK185), (beQ HB)⟩)
          rintro ⟨v188, v192⟩ w30 ⟨hS_, h0_, h1_, h2_, h3_, h4_, h5_⟩
          have n0_ : Aside0 (Kd.R (Kd.int .i64) 2 w30 w.heap.size (fun k_ => (w.heap.size ≤ k_) ∧ some k_ ≠ (v192 : Value).ownBlock ∧ some k_ ≠ (.slice Ao25 x186001_2.length co25 : Value).ownBlock) v188 y187) := ⟨h0_⟩
          have n1_ : Aside0 (Kd.R (Kd.int .i64) 2 w30 w.heap.size (fun k_ => (w.heap.size ≤ k_) ∧ some k_ ≠ (v188 : Value).ownBlock ∧ some k_ ≠ (.slice Ao25 x186001_2.length co25 : Value).ownBlock) v192 t191) := ⟨h1_⟩
          have n2_ : Aside0 (Kd.R (Kd.int .i64) 2 w30 w.heap.size (fun k_ => (w.heap.size ≤ k_) ∧ some k_ ≠ (v188 : Value).ownBlock ∧ some k_ ≠ (v192 : Value).ownBlock) (.slice Ao25 x186001_2.length co25) x186001_2) := ⟨h2_⟩
          have n3_ : Aside0 (Kd.N k32 32 w30 w.heap.size (fun k_ => (w.heap.size ≤ k_) ∧ some k_ ≠ (v188 : Value).ownBlock ∧ some k_ ≠ (v192 : Value).ownBlock ∧ some k_ ≠ (.slice Ao25 x186001_2.length co25 : Value).ownBlock ∧ k_ ≠ gb185) u4 x4_1) := ⟨h3_⟩
          have n4_ : Aside0 (w30.heap[gb185]? = some (.cells #[.int .i64 t181, .slice Ao25 x186001_2.length co25] 32 (0, 0))) := ⟨h4_⟩
          have n5_ : Aside0 (Below w.heap.size w w30) := ⟨h5_⟩
          clear HO_4; clear HO_186001; clear BK185; clear HB; clear h0_ h1_ h2_ h3_ h4_ h5_; have HO189 := n0_; have HO193 := n1_; have HO_186001 := n2_; have HO_4 := n3_; have BK185 := n4_; have HB := n5_; clear n0_ n1_ n2_ n3_ n4_ n5_
          have hHeld : w30.cell? ⟨gb185, 0, none⟩ = some (.int .i64 t181) ∧ w30.cell? ⟨gb185, 1, none⟩ = some (.slice Ao25 x186001_2.length co25) := hS_
          obtain ⟨Ao31, co31, eo31⟩ := Kd.R_slice HO189.out
          (first | subst eo31 | (injection eo31 with f1_ f2_ f3_; have f4_ := f1_.symm; have f5_ := f3_.symm; clear f1_ f2_ f3_; subst f4_; subst f5_))
          obtain ⟨Ao32, co32, eo32⟩ := Kd.R_slice HO193.out
          (first | subst eo32 | (injection eo32 with f1_ f2_ f3_; have f4_ := f1_.symm; have f5_ := f3_.symm; clear f1_ f2_ f3_; subst f4_; subst f5_))
          refine norm_ (a' := ?_) ?_ ?_
          rotate_left
          ·simp only [putAll, Act.put, List.setIfInBounds_toArray, List.set_cons_zero, List.set_cons_succ]
           rfl
          refine one_ (i := 4) (N := some 53) #[true, true, true, true, true, true, false] rfl rfl (by kernel_rfl) (by decide) (fun K hK => ?_)
          refine goes_ Try.func14 (by kernel_rfl) rfl #[.agg #[.int .i64 t181, .slice Ao25 x186001_2.length co25], .slice Ao31 y187.length co31, .agg #[.int .i64 t190, .slice Ao32 t191.length co32]] (by rfl) rfl rfl lz ?_
          with_reducible refine (spec_l02Least.calls k2 t181 _ _ x186001_2 _ _ y187 t190 (fun k_ => some k_ = (.slice Ao32 t191.length co32 : Value).ownBlock) _ _ t191 t194 t195 _ ?side1 ?side2 ?side3 ?side4 ?side5 A21.out).mono ?_
          (case side1 => have q_ := Aside0.mk (Kd.R_reads' HO_186001.out).2.2; exact cQ q_)
          (case side2 => exact (Kd.R_reads' HO_186001.out).2.1)
          (case side3 => have q_ := Aside0.mk (Kd.R_reads' HO189.out).2.2; exact cQ q_)
          (case side4 => exact (Kd.R_reads' HO189.out).2.1)
          (case side5 => exact Kd.R_V (Kd.R_tight rfl (Kd.R_types (Kd.R_apart' (HO193.out) (Kd.N_typed HO_4.out) (by decide)) BK185.out (by decide))))
          rintro e w33 ⟨v196, rfl, ho0, hb⟩
          refine ⟨_, rfl, ?_⟩
          have HO197 := Aside0.mk (Kd.V_lower (Kd.V_mono (ok' := fun k_ => (w.heap.size ≤ k_) ∧ some k_ ≠ (u4 : Value).ownBlock ∧ some k_ ≠ (.slice Ao25 x186001_2.length co25 : Value).ownBlock ∧ some k_ ≠ (.slice Ao31 y187.length co31 : Value).ownBlock ∧ k_ ≠ gb185) ho0 (fun k_ hk_ => ⟨Or.elim hk_ (fun hs_ => ((Kd.R_types (Kd.R_apart' (HO193.out) (Kd.N_typed HO_4.out) (by decide)) BK185.out (by decide)).1 k_ hs_.symm).1.1.1) (fun hn_ => (Nat.le_trans (below_size (beQ HB)) hn_)), Or.elim hk_ (fun hs_ => ((Kd.R_types (Kd.R_apart' (HO193.out) (Kd.N_typed HO_4.out) (by decide)) BK185.out (by decide)).1 k_ hs_.symm).1.2) (fun hn_ => (Kd.fresh' (Kd.N_lt (by (with_reducible repeat (first | apply Kd.N_alloc | apply Kd.N_drewN | apply Kd.N_drew)); exact HO_4.out)) k_ hn_)), Or.elim hk_ (fun hs_ => ((Kd.R_types (Kd.R_apart' (HO193.out) (Kd.N_typed HO_4.out) (by decide)) BK185.out (by decide)).1 k_ hs_.symm).1.1.2.2) (fun hn_ => (Kd.fresh' (Kd.R_lt (kdQ HO_186001)) k_ hn_)), Or.elim hk_ (fun hs_ => ((Kd.R_types (Kd.R_apart' (HO193.out) (Kd.N_typed HO_4.out) (by decide)) BK185.out (by decide)).1 k_ hs_.symm).1.1.2.1) (fun hn_ => (Kd.fresh' (Kd.R_lt (kdQ HO189)) k_ hn_)), Or.elim hk_ (fun hs_ => ((Kd.R_types (Kd.R_apart' (HO193.out) (Kd.N_typed HO_4.out) (by decide)) BK185.out (by decide)).1 k_ hs_.symm).2) (fun hn_ => (Kd.freshB (g := gb185) (o := .cells #[.int .i64 t181, .slice Ao25 x186001_2.length co25] 32 (0, 0)) (blkQ BK185) k_ hn_))⟩)) (below_size (beQ HB)))
          replace HO_4 := Aside0.mk (Kd.N_below (by (with_reducible repeat (first | apply Kd.N_alloc | apply Kd.N_drewN | apply Kd.N_drew)); exact HO_4.out) hb)
          replace HO_186001 := kb HO_186001 hb; replace HO189 := kb HO189 hb; replace HO193 := kb HO193 hb; replace BK185 := bb BK185 hb; replace HB := Aside0.mk (below_step (beQ HB) hb)
          (try clear hb)
          (try clear hb2)
          (try clear hk)
          (try clear hi)
          (try clear hgw_)
          (try clear ho0)
          obtain ⟨Ao34, co34, eo34⟩ := Kd.V_slice HO197.out
          (first | subst eo34 | (injection eo34 with f1_ f2_ f3_; have f4_ := f1_.symm; have f5_ := f3_.symm; clear f1_ f2_ f3_; subst f4_; subst f5_))
          refine hK.out _ _ ⟨bc BK185 0, bc BK185 1⟩ (fun hHeld => ?_)
          clear hK K
          refine norm_ (a' := ?_) ?_ ?_
          rotate_left
          ·show Act.put _ (some 53) _ = _
           simp only [Act.put, s1, s2, s3, i64_w, i32_w]
           rfl
          refine one_ (i := 6) (N := some 55) #[true, true, true, true, true, true, true] rfl rfl (by kernel_rfl) (by decide) (fun K hK => ?_)
          refine goes_ Try.func13 (by kernel_rfl) rfl #[.agg #[.int .i64 t194, .slice Ao34 t195.length co34], .agg #[.int .i64 t181, .slice Ao25 x186001_2.length co25]] (by rfl) rfl rfl lz ?_
          with_reducible refine (spec_l02Same.calls k2 t194 _ _ t195 t181 _ _ x186001_2 true _ ?side1 ?side2 ?side3 ?side4 A22.out).mono ?_
          (case side1 => have q_ := Aside0.mk (Kd.V_reads' HO197.out).2.2; exact cQ q_)
          (case side2 => exact (Kd.V_reads' HO197.out).2.1)
          (case side3 => have q_ := Aside0.mk (Kd.R_reads' HO_186001.out).2.2; exact cQ q_)
          (case side4 => exact (Kd.R_reads' HO_186001.out).2.1)
          rintro e w35 ⟨rfl, hb⟩
          refine ⟨_, rfl, ?_⟩
          replace HO_4 := Aside0.mk (Kd.N_below (by (with_reducible repeat (first | apply Kd.N_alloc | apply Kd.N_drewN | apply Kd.N_drew)); exact HO_4.out) hb)
          replace HO_186001 := kb HO_186001 hb; replace HO189 := kb HO189 hb; replace HO193 := kb HO193 hb
          replace HO197 := Aside0.mk (Kd.V_below (by (with_reducible repeat (first | apply Kd.V_alloc | apply Kd.V_drewN | apply Kd.V_drew)); exact HO197.out) hb)
          replace BK185 := bb BK185 hb; replace HB := Aside0.mk (below_step (beQ HB) hb)
          (try clear hb)
          (try clear hb2)
          (try clear hk)
          (try clear hi)
          (try clear hgw_)
          refine hK.out _ _ ⟨bc BK185 0, bc BK185 1⟩ (fun hHeld => ?_)
          clear hK K
          refine norm_ (a' := ?_) ?_ ?_
          rotate_left
          ·show Act.put _ (some 55) _ = _
           simp only [Act.put, s1, s2, s3, i64_w, i32_w]
           rfl
          refine done_ (by kernel_rfl) ?_
          have hcz36_0 : w35.cell? ⟨gb185, 0, none⟩ = some (.int .i64 t181) := bc BK185 0
          have hcz36_1 : w35.cell? ⟨gb185, 1, none⟩ = some (.slice Ao25 x186001_2.length co25) := bc BK185 1
          have hfz36_0 := blk_frozen BK185.out 0; have hfz36_1 := blk_frozen BK185.out 1
          try go_wp2_with (first | ((with_reducible refine gate_builtin (b := .append) (xs := #[.tmp 56, .tmp 58]) rfl ?_); at_builtin; refine Kd.N_append k32 (w0 := w) w.heap.size rfl (.tmp 56) (.tmp 58) 22 32 (.agg #[(.int .i64 0), (.slice none 0 0)]) 32 rfl Try.underlying22 info32 rfl (by decide) (by omega) u4 x4_1 (⟨t181, x186001_2⟩ : S32) [.int .i64 t181, .slice Ao25 x186001_2.length co25] (fun k_ => (w.heap.size ≤ k_) ∧ some k_ ≠ (.slice Ao31 y187.length co31 : Value).ownBlock ∧ some k_ ≠ (.slice Ao32 t191.length co32 : Value).ownBlock ∧ k_ ≠ gb185) (fun k_ => ((fun k_ => (w.heap.size ≤ k_) ∧ some k_ ≠ (.slice Ao31 y187.length co31 : Value).ownBlock ∧ some k_ ≠ (.slice Ao32 t191.length co32 : Value).ownBlock ∧ k_ ≠ gb185)) k_ ∧ some k_ ≠ (u4 : Value).ownBlock) rfl rfl ?aP (fun _ hk => hk) ?aF ?aO ?aB ?aS ?aL ?_; (case aP => exact (k32_mkF _ _ (⟨t181, x186001_2⟩ : S32) (Kd.R_reads' (Kd.R_mono (ok' := (fun k_ => ((fun k_ => (w.heap.size ≤ k_) ∧ some k_ ≠ (.slice Ao31 y187.length co31 : Value).ownBlock ∧ some k_ ≠ (.slice Ao32 t191.length co32 : Value).ownBlock ∧ k_ ≠ gb185)) k_ ∧ some k_ ≠ (u4 : Value).ownBlock)) (Kd.R_types (Kd.R_apart' (HO_186001.out) (Kd.N_typed HO_4.out) (by decide)) BK185.out (by decide)) (fun k_ hk => ⟨⟨hk.1.1.1, ⟨hk.1.1.2.1, ⟨hk.1.1.2.2, hk.2⟩⟩⟩, hk.1.2⟩))).2.1 (Kd.R_F (Kd.R_mono (ok' := (fun k_ => ((fun k_ => (w.heap.size ≤ k_) ∧ some k_ ≠ (.slice Ao31 y187.length co31 : Value).ownBlock ∧ some k_ ≠ (.slice Ao32 t191.length co32 : Value).ownBlock ∧ k_ ≠ gb185)) k_ ∧ some k_ ≠ (u4 : Value).ownBlock)) (Kd.R_types (Kd.R_apart' (HO_186001.out) (Kd.N_typed HO_4.out) (by decide)) BK185.out (by decide)) (fun k_ hk => ⟨⟨hk.1.1.1, ⟨hk.1.1.2.1, ⟨hk.1.1.2.2, hk.2⟩⟩⟩, hk.1.2⟩))))); (case aB => exact (beQ HB)); (case aF => exact (fun k_ hk => ⟨(Nat.le_trans (below_size (beQ HB)) hk), Kd.fresh' (Kd.R_lt (kdQ HO189)) k_ hk, Kd.fresh' (Kd.R_lt (kdQ HO193)) k_ hk, Kd.freshB (g := gb185) (o := .cells #[.int .i64 t181, .slice Ao25 x186001_2.length co25] 32 (0, 0)) (blkQ BK185) k_ hk⟩)); (case aO => exact (by (with_reducible repeat (first | apply Kd.N_alloc | apply Kd.N_drewN | apply Kd.N_drew)); exact Kd.N_mono HO_4.out (fun _ hk => ⟨hk.1, ⟨hk.2.1, ⟨hk.2.2.1, hk.2.2.2.2⟩⟩⟩))); (case aS => exact (below_size (beQ HB))); (case aL => have := LMc24.out; omega); intro v200 w37 ho hb hg hat; rw [← Ny199.out] at ho; have n0_ := Aside0.mk (blk_grown (g := gb185) (o := .cells #[.int .i64 t181, .slice Ao25 x186001_2.length co25] 32 (0, 0)) (blkQ BK185) hg (Kd.N_away HO_4.out (fun _ hk => hk.2.2.2.2))); have n1_ := Aside0.mk (Kd.R_over' (kdQ HO189) (Kd.N_typed (by (with_reducible repeat (first | apply Kd.N_alloc | apply Kd.N_drewN | apply Kd.N_drew)); exact HO_4.out)) (by decide) hg); have n2_ := Aside0.mk (Kd.R_over' (kdQ HO193) (Kd.N_typed (by (with_reducible repeat (first | apply Kd.N_alloc | apply Kd.N_drewN | apply Kd.N_drew)); exact HO_4.out)) (by decide) hg); have n3_ := Aside0.mk (Kd.V_afterv (ok := (fun k_ => (w.heap.size ≤ k_) ∧ some k_ ≠ (.slice Ao25 x186001_2.length co25 : Value).ownBlock ∧ some k_ ≠ (.slice Ao31 y187.length co31 : Value).ownBlock ∧ k_ ≠ gb185)) (by (with_reducible repeat (first | apply Kd.V_alloc | apply Kd.V_drewN | apply Kd.V_drew)); exact Kd.V_mono HO197.out (fun _ hk => ⟨⟨hk.1, ⟨hk.2.2.1, ⟨hk.2.2.2.1, hk.2.2.2.2⟩⟩⟩, hk.2.1⟩)) hg hat); have n4_ := Aside0.mk (hb); have n5_ := Aside0.mk (ho); clear BK185; clear HO189; clear HO193; clear HO197; clear HB; clear HO_4; clear HO_186001; have BK185 := n0_; have HO189 := n1_; have HO193 := n2_; have HO197 := n3_; have HB := n4_; have HO201 := n5_; clear n0_ n1_ n2_ n3_ n4_ n5_; clear ho hb hg hat))
          go_roundg k2
          case measure => have := HK1.out; have := HK2.out; omega
          case rel => exact ⟨(y199), (wrap64 (x5_1 + 1)), sz, H', ⟨by have := HK1.out; have := HK2.out; omega⟩, ⟨by (with_reducible repeat (first | apply Kd.N_alloc | apply Kd.N_drewN | apply Kd.N_drew)); exact Kd.N_mono HO201.out (fun _ hk => hk.1)⟩, ⟨beQ HB⟩⟩
         ·rw [if_neg c24] at H
          exact absurd H (by simp)
        ·replace c23 := Bool.eq_false_iff.mpr c23
         subst c23
         have H1 : (spec_AllAlphabets.l0 k2 a0 x4_1 (wrap64 (x5_1 + 1))) = some (r1, r2) := by rw [if_neg (show ¬ (false = true) by decide)] at H; exact H
         clear H; have H := H1; clear H1
         have H' := Aside0.mk H
         clear H; obtain ⟨Ao38, co38, eo38⟩ := Kd.R_slice HO_186001.out; subst eo38
         try go_wp2
         replace HO_4 := Aside0.mk (Kd.N_drew HO_4.out); replace HO_186001 := Aside0.mk (Kd.R_drew HO_186001.out); replace BK185 := Aside0.mk (blk_drew BK185.out); replace HB := Aside0.mk (below_drew1 HB.out)
         refine start_ (n := 7) (S := fun w' => w'.cell? ⟨gb185, 0, none⟩ = some (.int .i64 t181) ∧ w'.cell? ⟨gb185, 1, none⟩ = some (.slice Ao38 x186001_2.length co38)) (ds := []) #[false, false, false, false, false, false, false] (by kernel_rfl) rfl rfl ⟨bc BK185 0, bc BK185 1⟩ (fun hHeld => ?_)
         generalize wr.drew = w39 at HO_4 HO_186001 BK185 HB hHeld ⊢
         refine take_ (i := 0) (N := some 49) (v := ?_) (a' := ?_) #[true, false, false, false, false, false, false] rfl rfl (by kernel_rfl) (fun _ _ _ h => h) (Or.inl ⟨by rfl, ?_⟩) hHeld ?_ ?_
         rotate_left
         ·rintro w' ⟨s0, s1⟩
          go_simp
          with_reducible rfl
         rotate_left
         ·simp only [Act.put, s1, s2, s3, i64_w, i32_w]
          rfl
         refine take_ (i := 2) (N := some 51) (v := ?_) (a' := ?_) #[true, false, true, false, false, false, false] rfl rfl (by kernel_rfl) (fun _ _ _ h => h) (Or.inl ⟨by rfl, ?_⟩) hHeld ?_ ?_
         rotate_left
         ·rintro w' ⟨s0, s1⟩
          go_simp
          with_reducible rfl
         rotate_left
         ·simp only [Act.put, s1, s2, s3, i64_w, i32_w]
          rfl
         refine take_ (i := 5) (N := some 54) (v := ?_) (a' := ?_) #[true, false, true, false, false, true, false] rfl rfl (by kernel_rfl) (fun _ _ _ h => h) (Or.inl ⟨by rfl, ?_⟩) hHeld ?_ ?_
         rotate_left
         ·rintro w' ⟨s0, s1⟩
          go_simp
          with_reducible rfl
         rotate_left
         ·simp only [Act.put, s1, s2, s3, i64_w, i32_w]
          rfl
         refine join_ (σ := Value × Value) 2 #[true, true, true, true, false, true, false] (fun s_ => [(50, s_.1), (52, .agg #[.int .i64 t190, s_.2])]) (fun s_ w' => (w'.cell? ⟨gb185, 0, none⟩ = some (.int .i64 t181) ∧ w'.cell? ⟨gb185, 1, none⟩ = some (.slice Ao38 x186001_2.length co38)) ∧ (Kd.R (Kd.int .i64) 2 w' w.heap.size (fun k_ => (w.heap.size ≤ k_) ∧ some k_ ≠ (s_.2 : Value).ownBlock ∧ some k_ ≠ (.slice Ao38 x186001_2.length co38 : Value).ownBlock) s_.1 y187) ∧ (Kd.R (Kd.int .i64) 2 w' w.heap.size (fun k_ => (w.heap.size ≤ k_) ∧ some k_ ≠ (s_.1 : Value).ownBlock ∧ some k_ ≠ (.slice Ao38 x186001_2.length co38 : Value).ownBlock) s_.2 t191) ∧ (Kd.R (Kd.int .i64) 2 w' w.heap.size (fun k_ => (w.heap.size ≤ k_) ∧ some k_ ≠ (s_.1 : Value).ownBlock ∧ some k_ ≠ (s_.2 : Value).ownBlock) (.slice Ao38 x186001_2.length co38) x186001_2) ∧ (Kd.N k32 32 w' w.heap.size (fun k_ => (w.heap.size ≤ k_) ∧ some k_ ≠ (s_.1 : Value).ownBlock ∧ some k_ ≠ (s_.2 : Value).ownBlock ∧ some k_ ≠ (.slice Ao38 x186001_2.length co38 : Value).ownBlock ∧ k_ ≠ gb185) u4 x4_1) ∧ (w'.heap[gb185]? = some (.cells #[.int .i64 t181, .slice Ao38 x186001_2.length co38] 32 (0, 0))) ∧ (Below w.heap.size w w')) ?_ ?_
         rotate_left
         ·intro hCont
          refine two_ (i := 1) (j := 3) (Ni := some 50) (Nj := some 52) #[true, true, true, false, false, true, false] #[true, false, true, true, false, true, false] rfl rfl rfl rfl (by kernel_rfl) (by decide) (by decide) (fun K hK => ?_) (fun K hK => ?_)
          ·skip
           refine Kd.R_lit_step (Kd.int .i64) _ 2 ?hg (N := 50) ?hd (xs := ([] : List Int)) (inner := []) (ok := fun _ => True) (okp := fun _ => True) ?hr ?hp (fun _ hk => hk) trivial (Below.refl _ _) (Nat.le_refl _) (by simp) ?_; (case hd => rfl); (case hg => rfl); (case hr => first | (go_simp; done) | (go_simp; rfl)); (case hp => exact (Reps.none _ _))
           intro v188 w40 ho41 hb hg_ hnew_
           clear hg_ hnew_
           (first | rw [← Ny187.out] at ho41 | (simp only [Int.reduceToNat] at ho41; rw [← Ny187.out] at ho41))
           replace HO_4 := Aside0.mk (Kd.N_elder' (by (with_reducible repeat (first | apply Kd.N_alloc | apply Kd.N_drewN | apply Kd.N_drew)); exact HO_4.out) (Kd.R_base ho41) hb)
           have HO189 := Aside0.mk (Kd.R_lower (Kd.R_new' (Kd.R_newM (M := fun k_ => (w.heap.size ≤ k_)) ho41 (below_size (beQ HB)) (fun k_ h_ => h_)) (Kd.R_lt (kdQ HO_186001))) (below_size (beQ HB))); replace HO_186001 := Aside0.mk (Kd.R_elder' (kdQ HO_186001) (Kd.R_base ho41) hb); replace BK185 := bb BK185 hb; replace HB := Aside0.mk (below_step (beQ HB) hb); clear hb ho41
           refine hK.out _ _ ⟨bc BK185 0, bc BK185 1⟩ (fun hHeld => ?_)
           clear hK K
           refine norm_ (a' := ?_) ?_ ?_
           rotate_left
           ·show Act.put _ (some 50) _ = _
            simp only [Act.put, s1, s2, s3, i64_w, i32_w]
            rfl
           refine one_ (i := 3) (N := some 52) #[true, true, true, true, false, true, false] rfl rfl (by kernel_rfl) (by decide) (fun K hK => ?_)
           refine goes_ Try.func15 (by kernel_rfl) rfl #[.agg #[.int .i64 t181, .slice Ao38 x186001_2.length co38]] (by rfl) rfl rfl lz ?_
           with_reducible refine (spec_l02Own.calls t181 _ _ x186001_2 t190 t191 _ ?side1 ?side2 A20.out).mono ?_
           (case side1 => have q_ := Aside0.mk (Kd.R_reads' HO_186001.out).2.2; exact cQ q_)
           (case side2 => exact (Kd.R_reads' HO_186001.out).2.1)
           rintro e w42 ⟨v192, rfl, ho0, hb⟩
           refine ⟨_, rfl, ?_⟩
           replace HO_4 := Aside0.mk (Kd.N_elder' (by (with_reducible repeat (first | apply Kd.N_alloc | apply Kd.N_drewN | apply Kd.N_drew)); exact HO_4.out) (Kd.R_base ho0) hb)
           have HO193 := Aside0.mk (Kd.R_lower (Kd.R_new' (Kd.R_new' (Kd.R_newM (M := fun k_ => (w.heap.size ≤ k_)) ho0 (below_size (beQ HB)) (fun k_ h_ => h_)) (Kd.R_lt (kdQ HO_186001))) (Kd.R_lt (kdQ HO189))) (below_size (beQ HB))); replace HO_186001 := Aside0.mk (Kd.R_elder' (kdQ HO_186001) (Kd.R_base ho0) hb); replace HO189 := Aside0.mk (Kd.R_elder' (kdQ HO189) (Kd.R_base ho0) hb); replace BK185 := bb BK185 hb; replace HB := Aside0.mk (below_step (beQ HB) hb)
           (try clear hb)
           (try clear hb2)
           (try clear hk)
           (try clear hi)
           (try clear hgw_)
           (try clear ho0)
           refine hK.out _ _ ⟨bc BK185 0, bc BK185 1⟩ (fun hHeld => ?_)
           clear hK K
           refine norm_ (a' := ?_) ?_ ?_
           rotate_left
           ·show Act.put _ (some 52) _ = _
            simp only [Act.put, s1, s2, s3, i64_w, i32_w]
            rfl
           exact norm_ (by simp only [putAll, Act.put, List.setIfInBounds_toArray, List.set_cons_zero, List.set_cons_succ]) (hCont (v188, v192) _ ⟨hHeld, (by (with_reducible repeat (first | apply Kd.R_alloc | apply Kd.R_drewN | apply Kd.R_drew)); exact Kd.R_mono HO189.out (fun _ hk => ⟨hk.1.1.1, ⟨hk.2, hk.1.2⟩⟩)), (by (with_reducible repeat (first | apply Kd.R_alloc | apply Kd.R_drewN | apply Kd.R_drew)); exact Kd.R_mono HO193.out (fun _ hk => ⟨hk.1.1.1, ⟨hk.2, hk.1.2⟩⟩)), (by (with_reducible repeat (first | apply Kd.R_alloc | apply Kd.R_drewN | apply Kd.R_drew)); exact Kd.R_mono HO_186001.out (fun _ hk => ⟨hk.1.1, ⟨hk.1.2, hk.2⟩⟩)), (by (with_reducible repeat (first | apply Kd.N_alloc | apply Kd.N_drewN | apply Kd.N_drew)); exact Kd.N_mono HO_4.out (fun _ hk => ⟨hk.1.1.1, ⟨hk.1.2, ⟨hk.2, ⟨hk.1.1.2.1, hk.1.1.2.2⟩⟩⟩⟩)), (blkQ BK185), (beQ HB)⟩)
          ·skip
           refine goes_ Try.func15 (by kernel_rfl) rfl #[.agg #[.int .i64 t181, .slice Ao38 x186001_2.length co38]] (by rfl) rfl rfl lz ?_
           with_reducible refine (spec_l02Own.calls t181 _ _ x186001_2 t190 t191 _ ?side1 ?side2 A20.out).mono ?_
           (case side1 => have q_ := Aside0.mk (Kd.R_reads' HO_186001.out).2.2; exact cQ q_)
           (case side2 => exact (Kd.R_reads' HO_186001.out).2.1)
           rintro e w40 ⟨v192, rfl, ho0, hb⟩
           refine ⟨_, rfl, ?_⟩
           replace HO_4 := Aside0.mk (Kd.N_elder' (by (with_reducible repeat (first | apply Kd.N_alloc | apply Kd.N_drewN | apply Kd.N_drew)); exact HO_4.out) (Kd.R_base ho0) hb)
           have HO193 := Aside0.mk (Kd.R_lower (Kd.R_new' (Kd.R_newM (M := fun k_ => (w.heap.size ≤ k_)) ho0 (below_size (beQ HB)) (fun k_ h_ => h_)) (Kd.R_lt (kdQ HO_186001))) (below_size (beQ HB))); replace HO_186001 := Aside0.mk (Kd.R_elder' (kdQ HO_186001) (Kd.R_base ho0) hb); replace BK185 := bb BK185 hb; replace HB := Aside0.mk (below_step (beQ HB) hb)
           (try clear hb)
           (try clear hb2)
           (try clear hk)
           (try clear hi)
           (try clear hgw_)
           (try clear ho0)
           refine hK.out _ _ ⟨bc BK185 0, bc BK185 1⟩ (fun hHeld => ?_)
           clear hK K
           refine norm_ (a' := ?_) ?_ ?_
           rotate_left
           ·show Act.put _ (some 52) _ = _
            simp only [Act.put, s1, s2, s3, i64_w, i32_w]
            rfl
           refine one_ (i := 1) (N := some 50) #[true, true, true, true, false, true, false] rfl rfl (by kernel_rfl) (by decide) (fun K hK => ?_)
           refine Kd.R_lit_step (Kd.int .i64) _ 2 ?hg (N := 50) ?hd (xs := ([] : List Int)) (inner := []) (ok := fun _ => True) (okp := fun _ => True) ?hr ?hp (fun _ hk => hk) trivial (Below.refl _ _) (Nat.le_refl _) (by simp) ?_; (case hd => rfl); (case hg => rfl); (case hr => first | (go_simp; done) | (go_simp; rfl)); (case hp => exact (Reps.none _ _))
           intro v188 w41 ho42 hb hg_ hnew_
           clear hg_ hnew_
           (first | rw [← Ny187.out] at ho42 | (simp only [Int.reduceToNat] at ho42; rw [← Ny187.out] at ho42))
           replace HO_4 := Aside0.mk (Kd.N_elder' (by (with_reducible repeat (first | apply Kd.N_alloc | apply Kd.N_drewN | apply Kd.N_drew)); exact HO_4.out) (Kd.R_base ho42) hb)
           have HO189 := Aside0.mk (Kd.R_lower (Kd.R_new' (Kd.R_new' (Kd.R_newM (M := fun k_ => (w.heap.size ≤ k_)) ho42 (below_size (beQ HB)) (fun k_ h_ => h_)) (Kd.R_lt (kdQ HO_186001))) (Kd.R_lt (kdQ HO193))) (below_size (beQ HB))); replace HO_186001 := Aside0.mk (Kd.R_elder' (kdQ HO_186001) (Kd.R_base ho42) hb); replace HO193 := Aside0.mk (Kd.R_elder' (kdQ HO193) (Kd.R_base ho42) hb); replace BK185 := bb BK185 hb; replace HB := Aside0.mk (below_step (beQ HB) hb); clear hb ho42
           refine hK.out _ _ ⟨bc BK185 0, bc BK185 1⟩ (fun hHeld => ?_)
           clear hK K
           refine norm_ (a' := ?_) ?_ ?_
           rotate_left
           ·show Act.put _ (some 50) _ = _
            simp only [Act.put, s1, s2, s3, i64_w, i32_w]
            rfl
           exact norm_ (by simp only [putAll, Act.put, List.setIfInBounds_toArray, List.set_cons_zero, List.set_cons_succ]) (hCont (v188, v192) _ ⟨hHeld, (by (with_reducible repeat (first | apply Kd.R_alloc | apply Kd.R_drewN | apply Kd.R_drew)); exact Kd.R_mono HO189.out (fun _ hk => ⟨hk.1.1.1, ⟨hk.2, hk.1.2⟩⟩)), (by (with_reducible repeat (first | apply Kd.R_alloc | apply Kd.R_drewN | apply Kd.R_drew)); exact Kd.R_mono HO193.out (fun _ hk => ⟨hk.1.1.1, ⟨hk.2, hk.1.2⟩⟩)), (by (with_reducible repeat (first | apply Kd.R_alloc | apply Kd.R_drewN | apply Kd.R_drew)); exact Kd.R_mono HO_186001.out (fun _ hk => ⟨hk.1.1, ⟨hk.2, hk.1.2⟩⟩)), (by (with_reducible repeat (first | apply Kd.N_alloc | apply Kd.N_drewN | apply Kd.N_drew)); exact Kd.N_mono HO_4.out (fun _ hk => ⟨hk.1.1.1, ⟨hk.2, ⟨hk.1.2, ⟨hk.1.1.2.1, hk.1.1.2.2⟩⟩⟩⟩)), (blkQ BK185), (beQ HB)⟩)
         rintro ⟨v188, v192⟩ w43 ⟨hS_, h0_, h1_, h2_, h3_, h4_, h5_⟩
         have n0_ : Aside0 (Kd.R (Kd.int .i64) 2 w43 w.heap.size (fun k_ => (w.heap.size ≤ k_) ∧ some k_ ≠ (v192 : Value).ownBlock ∧ some k_ ≠ (.slice Ao38 x186001_2.length co38 : Value).ownBlock) v188 y187) := ⟨h0_⟩
         have n1_ : Aside0 (Kd.R (Kd.int .i64) 2 w43 w.heap.size (fun k_ => (w.heap.size ≤ k_) ∧ some k_ ≠ (v188 : Value).ownBlock ∧ some k_ ≠ (.slice Ao38 x186001_2.length co38 : Value).ownBlock) v192 t191) := ⟨h1_⟩
         have n2_ : Aside0 (Kd.R (Kd.int .i64) 2 w43 w.heap.size (fun k_ => (w.heap.size ≤ k_) ∧ some k_ ≠ (v188 : Value).ownBlock ∧ some k_ ≠ (v192 : Value).ownBlock) (.slice Ao38 x186001_2.length co38) x186001_2) := ⟨h2_⟩
         have n3_ : Aside0 (Kd.N k32 32 w43 w.heap.size (fun k_ => (w.heap.size ≤ k_) ∧ some k_ ≠ (v188 : Value).ownBlock ∧ some k_ ≠ (v192 : Value).ownBlock ∧ some k_ ≠ (.slice Ao38 x186001_2.length co38 : Value).ownBlock ∧ k_ ≠ gb185) u4 x4_1) := ⟨h3_⟩
         have n4_ : Aside0 (w43.heap[gb185]? = some (.cells #[.int .i64 t181, .slice Ao38 x186001_2.length co38] 32 (0, 0))) := ⟨h4_⟩
         have n5_ : Aside0 (Below w.heap.size w w43) := ⟨h5_⟩
         clear HO_4; clear HO_186001; clear BK185; clear HB; clear h0_ h1_ h2_ h3_ h4_ h5_; have HO189 := n0_; have HO193 := n1_; have HO_186001 := n2_; have HO_4 := n3_; have BK185 := n4_; have HB := n5_; clear n0_ n1_ n2_ n3_ n4_ n5_
         have hHeld : w43.cell? ⟨gb185, 0, none⟩ = some (.int .i64 t181) ∧ w43.cell? ⟨gb185, 1, none⟩ = some (.slice Ao38 x186001_2.length co38) := hS_
         obtain ⟨Ao44, co44, eo44⟩ := Kd.R_slice HO189.out
         (first | subst eo44 | (injection eo44 with f1_ f2_ f3_; have f4_ := f1_.symm; have f5_ := f3_.symm; clear f1_ f2_ f3_; subst f4_; subst f5_))
         obtain ⟨Ao45, co45, eo45⟩ := Kd.R_slice HO193.out
         (first | subst eo45 | (injection eo45 with f1_ f2_ f3_; have f4_ := f1_.symm; have f5_ := f3_.symm; clear f1_ f2_ f3_; subst f4_; subst f5_))
         refine norm_ (a' := ?_) ?_ ?_
         rotate_left
         ·simp only [putAll, Act.put, List.setIfInBounds_toArray, List.set_cons_zero, List.set_cons_succ]
          rfl
         refine one_ (i := 4) (N := some 53) #[true, true, true, true, true, true, false] rfl rfl (by kernel_rfl) (by decide) (fun K hK => ?_)
         refine goes_ Try.func14 (by kernel_rfl) rfl #[.agg #[.int .i64 t181, .slice Ao38 x186001_2.length co38], .slice Ao44 y187.length co44, .agg #[.int .i64 t190, .slice Ao45 t191.length co45]] (by rfl) rfl rfl lz ?_
         with_reducible refine (spec_l02Least.calls k2 t181 _ _ x186001_2 _ _ y187 t190 (fun k_ => some k_ = (.slice Ao45 t191.length co45 : Value).ownBlock) _ _ t191 t194 t195 _ ?side1 ?side2 ?side3 ?side4 ?side5 A21.out).mono ?_
         (case side1 => have q_ := Aside0.mk (Kd.R_reads' HO_186001.out).2.2; exact cQ q_)
         (case side2 => exact (Kd.R_reads' HO_186001.out).2.1)
         (case side3 => have q_ := Aside0.mk (Kd.R_reads' HO189.out).2.2; exact cQ q_)
         (case side4 => exact (Kd.R_reads' HO189.out).2.1)
         (case side5 => exact Kd.R_V (Kd.R_tight rfl (Kd.R_types (Kd.R_apart' (HO193.out) (Kd.N_typed HO_4.out) (by decide)) BK185.out (by decide))))
         rintro e w46 ⟨v196, rfl, ho0, hb⟩
         refine ⟨_, rfl, ?_⟩
         have HO197 := Aside0.mk (Kd.V_lower (Kd.V_mono (ok' := fun k_ => (w.heap.size ≤ k_) ∧ some k_ ≠ (u4 : Value).ownBlock ∧ some k_ ≠ (.slice Ao38 x186001_2.length co38 : Value).ownBlock ∧ some k_ ≠ (.slice Ao44 y187.length co44 : Value).ownBlock ∧ k_ ≠ gb185) ho0 (fun k_ hk_ => ⟨Or.elim hk_ (fun hs_ => ((Kd.R_types (Kd.R_apart' (HO193.out) (Kd.N_typed HO_4.out) (by decide)) BK185.out (by decide)).1 k_ hs_.symm).1.1.1) (fun hn_ => (Nat.le_trans (below_size (beQ HB)) hn_)), Or.elim hk_ (fun hs_ => ((Kd.R_types (Kd.R_apart' (HO193.out) (Kd.N_typed HO_4.out) (by decide)) BK185.out (by decide)).1 k_ hs_.symm).1.2) (fun hn_ => (Kd.fresh' (Kd.N_lt (by (with_reducible repeat (first | apply Kd.N_alloc | apply Kd.N_drewN | apply Kd.N_drew)); exact HO_4.out)) k_ hn_)), Or.elim hk_ (fun hs_ => ((Kd.R_types (Kd.R_apart' (HO193.out) (Kd.N_typed HO_4.out) (by decide)) BK185.out (by decide)).1 k_ hs_.symm).1.1.2.2) (fun hn_ => (Kd.fresh' (Kd.R_lt (kdQ HO_186001)) k_ hn_)), Or.elim hk_ (fun hs_ => ((Kd.R_types (Kd.R_apart' (HO193.out) (Kd.N_typed HO_4.out) (by decide)) BK185.out (by decide)).1 k_ hs_.symm).1.1.2.1) (fun hn_ => (Kd.fresh' (Kd.R_lt (kdQ HO189)) k_ hn_)), Or.elim hk_ (fun hs_ => ((Kd.R_types (Kd.R_apart' (HO193.out) (Kd.N_typed HO_4.out) (by decide)) BK185.out (by decide)).1 k_ hs_.symm).2) (fun hn_ => (Kd.freshB (g := gb185) (o := .cells #[.int .i64 t181, .slice Ao38 x186001_2.length co38] 32 (0, 0)) (blkQ BK185) k_ hn_))⟩)) (below_size (beQ HB)))
         replace HO_4 := Aside0.mk (Kd.N_below (by (with_reducible repeat (first | apply Kd.N_alloc | apply Kd.N_drewN | apply Kd.N_drew)); exact HO_4.out) hb)
         replace HO_186001 := kb HO_186001 hb; replace HO189 := kb HO189 hb; replace HO193 := kb HO193 hb; replace BK185 := bb BK185 hb; replace HB := Aside0.mk (below_step (beQ HB) hb)
         (try clear hb)
         (try clear hb2)
         (try clear hk)
         (try clear hi)
         (try clear hgw_)
         (try clear ho0)
         obtain ⟨Ao47, co47, eo47⟩ := Kd.V_slice HO197.out
         (first | subst eo47 | (injection eo47 with f1_ f2_ f3_; have f4_ := f1_.symm; have f5_ := f3_.symm; clear f1_ f2_ f3_; subst f4_; subst f5_))
         refine hK.out _ _ ⟨bc BK185 0, bc BK185 1⟩ (fun hHeld => ?_)
         clear hK K
         refine norm_ (a' := ?_) ?_ ?_
         rotate_left
         ·show Act.put _ (some 53) _ = _
          simp only [Act.put, s1, s2, s3, i64_w, i32_w]
          rfl
         refine one_ (i := 6) (N := some 55) #[true, true, true, true, true, true, true] rfl rfl (by kernel_rfl) (by decide) (fun K hK => ?_)
         refine goes_ Try.func13 (by kernel_rfl) rfl #[.agg #[.int .i64 t194, .slice Ao47 t195.length co47], .agg #[.int .i64 t181, .slice Ao38 x186001_2.length co38]] (by rfl) rfl rfl lz ?_
         with_reducible refine (spec_l02Same.calls k2 t194 _ _ t195 t181 _ _ x186001_2 false _ ?side1 ?side2 ?side3 ?side4 A22.out).mono ?_
         (case side1 => have q_ := Aside0.mk (Kd.V_reads' HO197.out).2.2; exact cQ q_)
         (case side2 => exact (Kd.V_reads' HO197.out).2.1)
         (case side3 => have q_ := Aside0.mk (Kd.R_reads' HO_186001.out).2.2; exact cQ q_)
         (case side4 => exact (Kd.R_reads' HO_186001.out).2.1)
         rintro e w48 ⟨rfl, hb⟩
         refine ⟨_, rfl, ?_⟩
         replace HO_4 := Aside0.mk (Kd.N_below (by (with_reducible repeat (first | apply Kd.N_alloc | apply Kd.N_drewN | apply Kd.N_drew)); exact HO_4.out) hb)
         replace HO_186001 := kb HO_186001 hb; replace HO189 := kb HO189 hb; replace HO193 := kb HO193 hb
         replace HO197 := Aside0.mk (Kd.V_below (by (with_reducible repeat (first | apply Kd.V_alloc | apply Kd.V_drewN | apply Kd.V_drew)); exact HO197.out) hb)
         replace BK185 := bb BK185 hb; replace HB := Aside0.mk (below_step (beQ HB) hb)
         (try clear hb)
         (try clear hb2)
         (try clear hk)
         (try clear hi)
         (try clear hgw_)
         refine hK.out _ _ ⟨bc BK185 0, bc BK185 1⟩ (fun hHeld => ?_)
         clear hK K
         refine norm_ (a' := ?_) ?_ ?_
         rotate_left
         ·show Act.put _ (some 55) _ = _
          simp only [Act.put, s1, s2, s3, i64_w, i32_w]
          rfl
         refine done_ (by kernel_rfl) ?_
         try go_wp2
         go_roundg k2
         case measure => have := HK1.out; have := HK2.out; omega
         case rel => exact ⟨(x4_1), (wrap64 (x5_1 + 1)), sz, H', ⟨by have := HK1.out; have := HK2.out; omega⟩, ⟨by (with_reducible repeat (first | apply Kd.N_alloc | apply Kd.N_drewN | apply Kd.N_drew)); exact Kd.N_mono HO_4.out (fun _ hk => hk.1)⟩, ⟨beQ HB⟩⟩
    ·rw [if_neg c7] at H
     have c7b0 : decide (x5_1 < t180) = false := decide_eq_false c7
     clear c7
     have H' := Aside0.mk H
     clear H
     go_wp2_with (first | ((with_reducible refine gate_callee (f := 10) rfl ?_); refine goesL_ (some 23) rfl rfl Try.func10 (by kernel_rfl) rfl #[.int .i64 (wrap64 (Int.tdiv (wrap64 (a0 * (wrap64 (a0 - 1)))) 2))] rfl lz ?_; (with_reducible refine (spec_l01One.calls (wrap64 (Int.tdiv (wrap64 (a0 * (wrap64 (a0 - 1)))) 2)) t180 _ A6.out).mono ?_); rintro e w' ⟨rfl, ⟨nd, rfl⟩⟩; refine ⟨_, rfl, ?_⟩))
     go_loopg [10] k1 (fun kq v10 w' => ∃ (x4_2 : List (S32)) (x10_2 : Int), v10 = .int .i64 x10_2 ∧ Aside0 (spec_AllAlphabets.l3 kq x4_2 x10_2 = some (r1, r2)) ∧ Aside0 (kq ≤ k1) ∧ Aside0 (Kd.N k32 32 w' w.heap.size (fun k_ => (w.heap.size ≤ k_)) u4 x4_2) ∧ Aside0 (Below w.heap.size w w'))
     case atStart => exact ⟨(x4_1), (1), sz, H', ⟨Nat.le_refl _⟩, ⟨by (with_reducible repeat (first | apply Kd.N_alloc | apply Kd.N_drewN | apply Kd.N_drew)); exact HO_4.out⟩, ⟨beQ HB⟩⟩
     case round =>
      clear H'
      try clear c1
      try clear c2
      try clear p2
      try clear p6
      try clear c7
      try clear c7b0
      try clear c10
      try clear c13
      try clear c14
      try clear c15
      try clear c23
      try clear c24
      try clear hcz36_0
      try clear hcz36_1
      try clear hfz36_0
      try clear hfz36_1
      obtain ⟨x4_2, x10_2, rfl, HA, HK2, HO_4, HB⟩ := hrel
      cases gk with
      | zero => exact absurd HA.out (by simp [spec_AllAlphabets.l3])
      | succ k2 =>
       have H := HA.out; clear HA
       simp only [spec_AllAlphabets.l3] at H
       by_cases c49 : x10_2 < (x4_2.length : Int)
       ·rw [if_pos c49] at H
        have c49b0 : decide (x10_2 < (x4_2.length : Int)) = true := decide_eq_true c49
        clear c49
        have H' := Aside0.mk H
        clear H; obtain ⟨Ao50, co50, eo50⟩ := Kd.N_slice HO_4.out; subst eo50
        go_wp2
        go_loopg [11] k2 (fun kq v11 w' => ∃ (x4_3 : List (S32)) (x11_3 : Int), v11 = .int .i64 x11_3 ∧ Aside0 (spec_AllAlphabets.l4 kq x4_3 x10_2 x11_3 = some (r1, r2)) ∧ Aside0 (kq ≤ k2) ∧ Aside0 (Kd.N k32 32 w' w.heap.size (fun k_ => (w.heap.size ≤ k_)) (.slice Ao50 x4_2.length co50) x4_3) ∧ Aside0 (Below w.heap.size w w'))
        case atStart => exact ⟨(x4_2), (x10_2), sz, H', ⟨Nat.le_refl _⟩, ⟨by (with_reducible repeat (first | apply Kd.N_alloc | apply Kd.N_drewN | apply Kd.N_drew)); exact HO_4.out⟩, ⟨beQ HB⟩⟩
        case round =>
         clear H'
         try clear c1
         try clear c2
         try clear p2
         try clear c4
         try clear p6
         try clear c7
         try clear c7b0
         try clear c10
         try clear c13
         try clear c14
         try clear c15
         try clear c23
         try clear c24
         try clear c49
         try clear c49b0
         try clear hcz36_0
         try clear hcz36_1
         try clear hfz36_0
         try clear hfz36_1
         try clear p2
         try clear p6
         obtain ⟨x4_3, x11_3, rfl, HA, HK3, HO_4, HB⟩ := hrel; have hl4_3 := (Kd.N_reads' HO_4.out).1; rw [hl4_3] at HO_4
         (try simp only [hl4_3])
         cases gk with
         | zero => exact absurd HA.out (by simp [spec_AllAlphabets.l4])
         | succ k3 =>
          have H := HA.out; clear HA
          simp only [spec_AllAlphabets.l4] at H
          by_cases c51 : x11_3 > 0
          ·rw [if_pos c51] at H
           have c51b0 : decide (0 < x11_3) = true := decide_eq_true c51
           clear c51
           by_cases c52 : 0 ≤ x11_3
           ·rw [if_pos c52] at H
            have c52b0 : decide (0 ≤ x11_3) = true := decide_eq_true c52
            clear c52
            by_cases c53 : x11_3 < (x4_3.length : Int)
            ·rw [if_pos c53] at H
             have c53b0 : decide (x11_3 < (x4_3.length : Int)) = true := decide_eq_true c53
             clear c53
             obtain ⟨ji54, hji54⟩ : ∃ j_ : Int, (wrap64 (x11_3 - 1)) = j_ := ⟨_, rfl⟩
             replace H : (if 0 ≤ (ji54) then (if (ji54) < (x4_3.length : Int) then ((spec_l01Less.f k3 ((rd_T32 x4_3 x11_3).f1) ((rd_T32 x4_3 (ji54)).f1)).bind fun t204 => (if t204 = true then (spec_AllAlphabets.l4 k3 ((x4_3.set (x11_3 : Int).toNat (⟨(rd_T32 x4_3 (ji54)).f0, (rd_T32 x4_3 (ji54)).f1⟩ : S32)).set ((ji54) : Int).toNat (⟨(rd_T32 x4_3 x11_3).f0, (rd_T32 x4_3 x11_3).f1⟩ : S32)) x10_2 ji54) else (spec_AllAlphabets.l3 k3 x4_3 (wrap64 (x10_2 + 1))))) else (none)) else (none)) = some (r1, r2) := by first | (rw [hji54] at H; exact H) | (simp only [hji54] at H ⊢; exact H)
             have hji54w : (IntKind.i64.wrap (x11_3 - 1)) = ji54 := (i64_w _).trans hji54
             by_cases c55 : 0 ≤ (ji54)
             ·rw [if_pos c55] at H
              have c55b0 : decide (0 ≤ (ji54)) = true := decide_eq_true c55
              clear c55
              by_cases c56 : (ji54) < (x4_3.length : Int)
              ·rw [if_pos c56] at H
               have c56b0 : decide ((ji54) < (x4_3.length : Int)) = true := decide_eq_true c56
               clear c56; replace H := Option.bind_eq_some_iff.mp H; obtain ⟨t204, A570, H⟩ := H
               replace H : (if t204 = true then (spec_AllAlphabets.l4 k3 ((x4_3.set (x11_3 : Int).toNat (⟨(rd_T32 x4_3 (ji54)).f0, (rd_T32 x4_3 (ji54)).f1⟩ : S32)).set ((ji54) : Int).toNat (⟨(rd_T32 x4_3 x11_3).f0, (rd_T32 x4_3 x11_3).f1⟩ : S32)) x10_2 ji54) else (spec_AllAlphabets.l3 k3 x4_3 (wrap64 (x10_2 + 1)))) = some (r1, r2) := H
               have A57 := Aside0.mk A570; clear A570
               by_cases c58 : t204 = true
               ·subst c58
                have H1 : (spec_AllAlphabets.l4 k3 ((x4_3.set (x11_3 : Int).toNat (⟨(rd_T32 x4_3 (ji54)).f0, (rd_T32 x4_3 (ji54)).f1⟩ : S32)).set ((ji54) : Int).toNat (⟨(rd_T32 x4_3 x11_3).f0, (rd_T32 x4_3 x11_3).f1⟩ : S32)) x10_2 ji54) = some (r1, r2) := by rw [if_pos rfl] at H; exact H
                clear H; have H := H1; clear H1
                obtain ⟨y208, hy208⟩ : ∃ y_ : List (S32), y_ = (x4_3.set (x11_3 : Int).toNat (⟨(rd_T32 x4_3 (ji54)).f0, (rd_T32 x4_3 (ji54)).f1⟩ : S32)) := ⟨_, rfl⟩
                replace H : (spec_AllAlphabets.l4 k3 (y208.set ((ji54) : Int).toNat (⟨(rd_T32 x4_3 x11_3).f0, (rd_T32 x4_3 x11_3).f1⟩ : S32)) x10_2 ji54) = some (r1, r2) := by first | (rw [hy208]; with_reducible exact H) | (have H2_ := (Option.bind_some _ _).symm.trans H; rw [hy208]; with_reducible exact H2_) | (have H2_ := (Option.bind_some _ _).symm.trans H; with_reducible exact H2_) | with_reducible exact H | (rw [hy208]; exact H) | exact H
                have Ny208 := Aside0.mk hy208; clear hy208
                obtain ⟨y209, hy209⟩ : ∃ y_ : List (S32), y_ = (y208.set ((ji54) : Int).toNat (⟨(rd_T32 x4_3 x11_3).f0, (rd_T32 x4_3 x11_3).f1⟩ : S32)) := ⟨_, rfl⟩
                replace H : (spec_AllAlphabets.l4 k3 y209 x10_2 ji54) = some (r1, r2) := by first | (rw [hy209]; with_reducible exact H) | (have H2_ := (Option.bind_some _ _).symm.trans H; rw [hy209]; with_reducible exact H2_) | (have H2_ := (Option.bind_some _ _).symm.trans H; with_reducible exact H2_) | with_reducible exact H | (rw [hy209]; exact H) | exact H
                have Ny209 := Aside0.mk hy209; clear hy209
                have H' := Aside0.mk H
                clear H
                try go_wp2
                replace HO_4 := Aside0.mk (Kd.N_drew HO_4.out); replace HB := Aside0.mk (below_drew1 HB.out)
                have p202 : 0 ≤ (x11_3 : Int) := of_decide_eq_true (by first | (with_reducible assumption) | assumption)
                have q202 : x11_3 < (x4_3.length : Int) := of_decide_eq_true (by first | (with_reducible assumption) | assumption)
                obtain ⟨ad202, A202_1, c202_1, e202, hx202_0, hx202_1, hl202_1, hi202_1⟩ := at_T32 (Kd.N_reads' HO_4.out).2.2 x11_3 p202 q202; cases e202
                obtain ⟨ce202, hce202, hMe202, hcc202⟩ := Kd.N_get HO_4.out z32 x11_3 p202 (by first | exact q202 | exact of_decide_eq_true (by first | (with_reducible assumption) | assumption) | (have e_ := (Kd.N_reads' HO_4.out).1; omega))
                obtain ⟨ua202_1, uc202_1, rfl, ul202_1, ge202_1⟩ := k32_openF hMe202; have hv202_1 := hcc202 1 _ rfl; rw [add_field _ _ 1 (by omega)] at hv202_1; replace hv202_1 := Option.some.inj (hv202_1.symm.trans hx202_1)
                injection hv202_1 with hva_ hvn_ hvc_
                rw [hva_] at ge202_1; rw [hvc_] at ul202_1; have HL202_1 := Aside0.mk (show Kd.V (Kd.int .i64) 2 _ w.heap.size _ _ ((rd_T32 x4_3 x11_3).f1) from Kd.V_mk ul202_1 ge202_1); clear hva_ hvn_ hvc_ ge202_1 ul202_1; clear hcc202 hce202; have HR202_1 := Aside0.mk hi202_1; have HC202_1 := Aside0.mk hl202_1; clear hi202_1 hl202_1; replace p202 := eq_true p202; replace q202 := eq_true q202
                have p203 : 0 ≤ ((ji54) : Int) := of_decide_eq_true (by first | (with_reducible assumption) | assumption)
                have q203 : (ji54) < (x4_3.length : Int) := of_decide_eq_true (by first | (with_reducible assumption) | assumption)
                obtain ⟨ad203, A203_1, c203_1, e203, hx203_0, hx203_1, hl203_1, hi203_1⟩ := at_T32 (Kd.N_reads' HO_4.out).2.2 (ji54) p203 q203
                obtain rfl : ad202 = ad203 := (by injection e203)
                obtain ⟨ce203, hce203, hMe203, hcc203⟩ := Kd.N_get HO_4.out z32 (ji54) p203 (by first | exact q203 | exact of_decide_eq_true (by first | (with_reducible assumption) | assumption) | (have e_ := (Kd.N_reads' HO_4.out).1; omega))
                obtain ⟨ua203_1, uc203_1, rfl, ul203_1, ge203_1⟩ := k32_openF hMe203; have hv203_1 := hcc203 1 _ rfl; rw [add_field _ _ 1 (by omega)] at hv203_1; replace hv203_1 := Option.some.inj (hv203_1.symm.trans hx203_1)
                injection hv203_1 with hva_ hvn_ hvc_
                rw [hva_] at ge203_1; rw [hvc_] at ul203_1; have HL203_1 := Aside0.mk (show Kd.V (Kd.int .i64) 2 _ w.heap.size _ _ ((rd_T32 x4_3 (ji54)).f1) from Kd.V_mk ul203_1 ge203_1); clear hva_ hvn_ hvc_ ge203_1 ul203_1; clear hcc203 hce203; have HR203_1 := Aside0.mk hi203_1; have HC203_1 := Aside0.mk hl203_1; clear hi203_1 hl203_1; replace p203 := eq_true p203; replace q203 := eq_true q203
                refine start_ (n := 16) (S := fun w' => w'.cell? (ad202.add ((x11_3).toNat * 2)) = some (.int .i64 ((rd_T32 x4_3 x11_3).f0)) ∧ w'.cell? ⟨(ad202.add ((x11_3).toNat * 2)).block, (ad202.add ((x11_3).toNat * 2)).off + 1, none⟩ = some (.slice A202_1 ((rd_T32 x4_3 x11_3).f1).length c202_1) ∧ w'.cell? (ad202.add (((ji54)).toNat * 2)) = some (.int .i64 ((rd_T32 x4_3 (ji54)).f0)) ∧ w'.cell? ⟨(ad202.add (((ji54)).toNat * 2)).block, (ad202.add (((ji54)).toNat * 2)).off + 1, none⟩ = some (.slice A203_1 ((rd_T32 x4_3 (ji54)).f1).length c203_1)) (ds := []) #[false, false, false, false, false, false, false, false, false, false, false, false, false, false, false, false] (by kernel_rfl) rfl rfl ⟨hx202_0, hx202_1, hx203_0, hx203_1⟩ (fun hHeld => ?_); refine with_tabW spec_AllAlphabets.tab23 spec_AllAlphabets.bits23 (fun HT_ HW_ => ?_)
                generalize wr.drew = w61 at HO_4 HB HL202_1 HL203_1 HR202_1 HR203_1 hx202_0 hx202_1 hx203_0 hx203_1 hHeld ⊢
                refine pure_ (i := 0) (N := some 67) (v := ?_) (a' := ?_) #[true, false, false, false, false, false, false, false, false, false, false, false, false, false, false, false] rfl rfl (any_of HT_.out (by kernel_rfl)) (fun _ _ _ h => h) (Or.inl ⟨by rfl, ?_⟩) ?_ ?_
                rotate_left
                ·intro w'
                 go_simp
                 with_reducible rfl
                rotate_left
                ·simp only [Act.put, s1, s2, s3, i64_w, i32_w]
                 rfl
                refine pure_ (i := 1) (N := some 68) (v := ?_) (a' := ?_) #[true, true, false, false, false, false, false, false, false, false, false, false, false, false, false, false] rfl rfl (any_of HT_.out (by kernel_rfl)) (fun _ _ _ h => h) (Or.inl ⟨by rfl, ?_⟩) ?_ ?_
                rotate_left
                ·intro w'
                 go_simp
                 with_reducible rfl
                rotate_left
                ·simp only [Act.put, s1, s2, s3, i64_w, i32_w]
                 rfl
                refine pure_ (i := 2) (N := some 69) (v := ?_) (a' := ?_) #[true, true, true, false, false, false, false, false, false, false, false, false, false, false, false, false] rfl rfl (any_of HT_.out (by kernel_rfl)) (fun _ _ _ h => h) (Or.inl ⟨by rfl, ?_⟩) ?_ ?_
                rotate_left
                ·intro w'
                 go_simp
                 with_reducible rfl
                rotate_left
                ·simp only [Act.put, s1, s2, s3, i64_w, i32_w]
                 rfl
                refine pure_ (i := 3) (N := some 70) (v := ?_) (a' := ?_) #[true, true, true, true, false, false, false, false, false, false, false, false, false, false, false, false] rfl rfl (any_of HT_.out (by kernel_rfl)) (fun _ _ _ h => h) (Or.inl ⟨by rfl, ?_⟩) ?_ ?_
                rotate_left
                ·intro w'
                 go_simp
                 with_reducible rfl
                rotate_left
                ·simp only [Act.put, s1, s2, s3, i64_w, i32_w]
                 rfl
                refine pure_ (i := 4) (N := some 71) (v := ?_) (a' := ?_) #[true, true, true, true, true, false, false, false, false, false, false, false, false, false, false, false] rfl rfl (any_of HT_.out (by kernel_rfl)) (fun _ _ _ h => h) (Or.inl ⟨by rfl, ?_⟩) ?_ ?_
                rotate_left
                ·intro w'
                 go_simp
                 with_reducible rfl
                rotate_left
                ·simp only [Act.put, s1, s2, s3, i64_w, i32_w]
                 rfl
                refine pure_ (i := 5) (N := some 72) (v := ?_) (a' := ?_) #[true, true, true, true, true, true, false, false, false, false, false, false, false, false, false, false] rfl rfl (any_of HT_.out (by kernel_rfl)) (fun _ _ _ h => h) (Or.inl ⟨by rfl, ?_⟩) ?_ ?_
                rotate_left
                ·intro w'
                 go_simp
                 with_reducible rfl
                rotate_left
                ·simp only [Act.put, s1, s2, s3, i64_w, i32_w]
                 rfl
                refine pure_ (i := 6) (N := some 73) (v := ?_) (a' := ?_) #[true, true, true, true, true, true, true, false, false, false, false, false, false, false, false, false] rfl rfl (any_of HT_.out (by kernel_rfl)) (fun _ _ _ h => h) (Or.inl ⟨by rfl, ?_⟩) ?_ ?_
                rotate_left
                ·intro w'
                 go_simp
                 with_reducible rfl
                rotate_left
                ·simp only [Act.put, s1, s2, s3, i64_w, i32_w]
                 rfl
                refine pure_ (i := 8) (N := some 75) (v := ?_) (a' := ?_) #[true, true, true, true, true, true, true, false, true, false, false, false, false, false, false, false] rfl rfl (any_of HT_.out (by kernel_rfl)) (fun _ _ _ h => h) (Or.inl ⟨by rfl, ?_⟩) ?_ ?_
                rotate_left
                ·intro w'
                 go_simp
                 with_reducible rfl
                rotate_left
                ·simp only [Act.put, s1, s2, s3, i64_w, i32_w]
                 rfl
                refine pure_ (i := 9) (N := some 76) (v := ?_) (a' := ?_) #[true, true, true, true, true, true, true, false, true, true, false, false, false, false, false, false] rfl rfl (any_of HT_.out (by kernel_rfl)) (fun _ _ _ h => h) (Or.inl ⟨by rfl, ?_⟩) ?_ ?_
                rotate_left
                ·intro w'
                 go_simp
                 with_reducible rfl
                rotate_left
                ·simp only [Act.put, s1, s2, s3, i64_w, i32_w]
                 rfl
                refine pure_ (i := 10) (N := some 77) (v := ?_) (a' := ?_) #[true, true, true, true, true, true, true, false, true, true, true, false, false, false, false, false] rfl rfl (any_of HT_.out (by kernel_rfl)) (fun _ _ _ h => h) (Or.inl ⟨by rfl, ?_⟩) ?_ ?_
                rotate_left
                ·intro w'
                 go_simp
                 with_reducible rfl
                rotate_left
                ·simp only [Act.put, s1, s2, s3, i64_w, i32_w]
                 rfl
                refine pure_ (i := 11) (N := some 78) (v := ?_) (a' := ?_) #[true, true, true, true, true, true, true, false, true, true, true, true, false, false, false, false] rfl rfl (any_of HT_.out (by kernel_rfl)) (fun _ _ _ h => h) (Or.inl ⟨by rfl, ?_⟩) ?_ ?_
                rotate_left
                ·intro w'
                 go_simp
                 with_reducible rfl
                rotate_left
                ·simp only [Act.put, s1, s2, s3, i64_w, i32_w]
                 rfl
                refine pure_ (i := 12) (N := some 79) (v := ?_) (a' := ?_) #[true, true, true, true, true, true, true, false, true, true, true, true, true, false, false, false] rfl rfl (any_of HT_.out (by kernel_rfl)) (fun _ _ _ h => h) (Or.inl ⟨by rfl, ?_⟩) ?_ ?_
                rotate_left
                ·intro w'
                 go_simp
                 with_reducible rfl
                rotate_left
                ·simp only [Act.put, s1, s2, s3, i64_w, i32_w]
                 rfl
                refine take_ (i := 7) (N := some 74) (v := ?_) (a' := ?_) #[true, true, true, true, true, true, true, true, true, true, true, true, true, false, false, false] rfl rfl (take_ofW HT_.out HW_.out (by kernel_rfl)) (fun _ _ _ h => h) (Or.inl ⟨by rfl, ?_⟩) hHeld ?_ ?_
                rotate_left
                ·rintro w' ⟨s0, s1, s2, s3⟩
                 go_simp
                 with_reducible rfl
                rotate_left
                ·simp only [Act.put, s1, s2, s3, i64_w, i32_w]
                 rfl
                refine take_ (i := 13) (N := some 80) (v := ?_) (a' := ?_) #[true, true, true, true, true, true, true, true, true, true, true, true, true, true, false, false] rfl rfl (take_ofW HT_.out HW_.out (by kernel_rfl)) (fun _ _ _ h => h) (Or.inl ⟨by rfl, ?_⟩) hHeld ?_ ?_
                rotate_left
                ·rintro w' ⟨s0, s1, s2, s3⟩
                 go_simp
                 with_reducible rfl
                rotate_left
                ·simp only [Act.put, s1, s2, s3, i64_w, i32_w]
                 rfl
                refine one_ (i := 14) (N := some 81) #[true, true, true, true, true, true, true, true, true, true, true, true, true, true, true, false] rfl rfl (one_of HT_.out (by kernel_rfl)) (by decide) (fun K hK => ?_)
                refine goes_ Try.func16 (by kernel_rfl) rfl #[.slice A202_1 ((rd_T32 x4_3 x11_3).f1).length c202_1, .slice A203_1 ((rd_T32 x4_3 (ji54)).f1).length c203_1] (by rfl) rfl rfl (by (try simp only [List.map_toArray, List.map_cons, List.map_nil]); first | done | (simp only [hji54]; rfl) | rfl | (simp only [List.length_drop, List.length_take]; rfl)) ?_
                with_reducible refine (spec_l01Less.calls k3 _ _ ((rd_T32 x4_3 x11_3).f1) _ _ ((rd_T32 x4_3 (ji54)).f1) true _ ?side1 ?side2 ?side3 ?side4 A57.out).mono ?_
                (case side1 => repeat (first | exact (by repeat (first | (with_reducible exact HR202_1.out) | (with_reducible refine Kd.C_alloc ?_ _) | (with_reducible refine Kd.C_drewN ?_ _) | (with_reducible refine Kd.C_drew ?_) | exact HR202_1.out)) | (with_reducible refine Kd.C_alloc ?_ _) | (with_reducible refine Kd.C_drewN ?_ _) | (with_reducible refine Kd.C_drew ?_)))
                (case side2 => exact HC202_1.out)
                (case side3 => repeat (first | exact (by repeat (first | (with_reducible exact HR203_1.out) | (with_reducible refine Kd.C_alloc ?_ _) | (with_reducible refine Kd.C_drewN ?_ _) | (with_reducible refine Kd.C_drew ?_) | exact HR203_1.out)) | (with_reducible refine Kd.C_alloc ?_ _) | (with_reducible refine Kd.C_drewN ?_ _) | (with_reducible refine Kd.C_drew ?_)))
                (case side4 => exact HC203_1.out)
                rintro e w' ⟨rfl, ⟨nd, rfl⟩⟩
                refine ⟨_, rfl, ?_⟩
                refine hK.out _ _ ⟨hHeld.1, hHeld.2.1, hHeld.2.2.1, hHeld.2.2.2⟩ (fun hHeld => ?_)
                clear hK K
                refine norm_ (a' := ?_) ?_ ?_
                rotate_left
                ·show Act.put _ (some 81) _ = _
                 simp only [Act.put, s1, s2, s3, i64_w, i32_w]
                 rfl
                refine pure_ (i := 15) (N := some 82) (v := ?_) (a' := ?_) #[true, true, true, true, true, true, true, true, true, true, true, true, true, true, true, true] rfl rfl (any_of HT_.out (by kernel_rfl)) (fun _ _ _ h => h) (Or.inl ⟨by rfl, ?_⟩) ?_ ?_
                rotate_left
                ·intro w'
                 go_simp
                 with_reducible rfl
                rotate_left
                ·simp only [Act.put, s1, s2, s3, i64_w, i32_w]
                 rfl
                refine done_ (done_of HT_.out (by kernel_rfl)) ?_
                have p205 : 0 ≤ (x11_3 : Int) := of_decide_eq_true (by first | (with_reducible assumption) | assumption)
                have q205 : x11_3 < (x4_3.length : Int) := of_decide_eq_true (by first | (with_reducible assumption) | assumption)
                obtain ⟨ad205, A205_1, c205_1, e205, hx205_0, hx205_1, hl205_1, hi205_1⟩ := at_T32 (Kd.N_reads' HO_4.out).2.2 x11_3 p205 q205
                obtain rfl : ad202 = ad205 := (by injection e205)
                obtain ⟨ce205, hce205, hMe205, hcc205⟩ := Kd.N_get HO_4.out z32 x11_3 p205 (by first | exact q205 | exact of_decide_eq_true (by first | (with_reducible assumption) | assumption) | (have e_ := (Kd.N_reads' HO_4.out).1; omega))
                obtain ⟨ua205_1, uc205_1, rfl, ul205_1, ge205_1⟩ := k32_openF hMe205; have hv205_1 := hcc205 1 _ rfl; rw [add_field _ _ 1 (by omega)] at hv205_1; replace hv205_1 := Option.some.inj (hv205_1.symm.trans hx205_1)
                injection hv205_1 with hva_ hvn_ hvc_
                rw [hva_] at ge205_1; rw [hvc_] at ul205_1; have HL205_1 := Aside0.mk (show Kd.V (Kd.int .i64) 2 _ w.heap.size _ _ ((rd_T32 x4_3 x11_3).f1) from Kd.V_mk ul205_1 ge205_1); clear hva_ hvn_ hvc_ ge205_1 ul205_1; clear hcc205 hce205; have HR205_1 := Aside0.mk hi205_1; have HC205_1 := Aside0.mk hl205_1; clear hi205_1 hl205_1; replace p205 := eq_true p205; replace q205 := eq_true q205; have ea_ := Option.some.inj (hx202_1.symm.trans hx205_1)
                injection ea_ with ea_ en_ ec_
                subst ea_; subst ec_; clear en_
                try go_wp2_with (first | ((with_reducible refine gate_dst (N := 12) rfl ?_); refine box_event ?hg (N := 12) ?hd (cs := #[.int .i64 0, .slice none 0 0]) (t := 32) ?hr ?_; (case hd => rfl); (case hg => rfl); (case hr => first | (go_simp; done) | (go_simp; rfl)); intro gb206 hg w62 hbox hb; replace HO_4 := Aside0.mk (Kd.N_below (Kd.N_elderB (by (with_reducible repeat (first | apply Kd.N_alloc | apply Kd.N_drewN | apply Kd.N_drew)); exact HO_4.out) gb206 (Nat.le_of_eq hg.symm)) hb); replace HL202_1 := Aside0.mk (Kd.V_below (Kd.V_elderB (by (with_reducible repeat (first | apply Kd.V_alloc | apply Kd.V_drewN | apply Kd.V_drew)); exact HL202_1.out) gb206 (Nat.le_of_eq hg.symm)) hb); replace HL203_1 := Aside0.mk (Kd.V_below (Kd.V_elderB (by (with_reducible repeat (first | apply Kd.V_alloc | apply Kd.V_drewN | apply Kd.V_drew)); exact HL203_1.out) gb206 (Nat.le_of_eq hg.symm)) hb); replace HL205_1 := Aside0.mk (Kd.V_below (Kd.V_elderB (by (with_reducible repeat (first | apply Kd.V_alloc | apply Kd.V_drewN | apply Kd.V_drew)); exact HL205_1.out) gb206 (Nat.le_of_eq hg.symm)) hb); replace HR202_1 := Aside0.mk (Kd.C_below (by repeat (first | (with_reducible exact HR202_1.out) | (with_reducible refine Kd.C_alloc ?_ _) | (with_reducible refine Kd.C_drewN ?_ _) | (with_reducible refine Kd.C_drew ?_) | exact HR202_1.out)) hb); replace HR203_1 := Aside0.mk (Kd.C_below (by repeat (first | (with_reducible exact HR203_1.out) | (with_reducible refine Kd.C_alloc ?_ _) | (with_reducible refine Kd.C_drewN ?_ _) | (with_reducible refine Kd.C_drew ?_) | exact HR203_1.out)) hb); replace HR205_1 := Aside0.mk (Kd.C_below (by repeat (first | (with_reducible exact HR205_1.out) | (with_reducible refine Kd.C_alloc ?_ _) | (with_reducible refine Kd.C_drewN ?_ _) | (with_reducible refine Kd.C_drew ?_) | exact HR205_1.out)) hb); have BK206 := Aside0.mk (hbox); have GW206 := Aside0.mk ((by rw [hg]; exact (below_size (beQ HB)) : w.heap.size ≤ gb206)); have GE206 := Aside0.mk ((by rw [hg]; exact (below_size (beQ HB)) : w.heap.size ≤ gb206)); replace HB := Aside0.mk (below_step (beQ HB) hb); clear hb hbox hg; have hcz63_0 : w62.cell? ⟨gb206, 0, none⟩ = some (.int .i64 0) := bc BK206 0; have hcz63_1 : w62.cell? ⟨gb206, 1, none⟩ = some (.slice none 0 0) := bc BK206 1; have hfz63_0 := blk_frozen BK206.out 0; have hfz63_1 := blk_frozen BK206.out 1) | ((with_reducible refine gate_store (t := 32) (p := 12) rfl ?_); refine store_event (t := 32) (p := 12) (v := ?vo_w64) (w1 := ((w62.setCell ⟨gb206, 0, none⟩ (.int .i64 ((rd_T32 x4_3 x11_3).f0))).setCell ⟨gb206, 1, none⟩ (.slice A202_1 ((rd_T32 x4_3 x11_3).f1).length c202_1))) ?hg ?ho ?hn ?hr ?_; (case ho => rfl); (case hg => rfl); (case hn => rfl); (case hr => first | (go_simp; done) | (go_simp; rfl)); intro w64 hw; have n0_ : Aside0 (Kd.N k32 32 w64 w.heap.size (fun k_ => (w.heap.size ≤ k_) ∧ k_ ≠ gb206) (.slice (some ad202) x4_3.length co50) x4_3) := ⟨(by rw [hw]; exact (by (with_reducible repeat (first | apply Kd.N_alloc | apply Kd.N_drewN | apply Kd.N_drew)); exact Kd.N_mono (Kd.N_far (p := ⟨gb206, 1, none⟩) (Kd.N_far (p := ⟨gb206, 0, none⟩) (Kd.N_mono HO_4.out (fun k_ hk => (⟨hk, hk.2⟩ : _ ∧ k_ ≠ gb206))) (fun _ hk => hk.2) (.int .i64 ((rd_T32 x4_3 x11_3).f0))) (fun _ hk => hk.2) (.slice A202_1 ((rd_T32 x4_3 x11_3).f1).length c202_1)) (fun _ hk => ⟨hk.1.1, hk.1.2⟩)))⟩; have n1_ : Aside0 (Kd.V (Kd.int .i64) 2 w64 w.heap.size (fun k_ => (w.heap.size ≤ k_) ∧ some k_ ≠ (.slice (some ad202) x4_3.length co50 : Value).ownBlock ∧ k_ ≠ gb206) (.slice A202_1 ((rd_T32 x4_3 x11_3).f1).length c202_1) ((rd_T32 x4_3 x11_3).f1)) := ⟨(by rw [hw]; exact (by (with_reducible repeat (first | apply Kd.V_alloc | apply Kd.V_drewN | apply Kd.V_drew)); exact Kd.V_mono (Kd.V_far (p := ⟨gb206, 1, none⟩) (Kd.V_far (p := ⟨gb206, 0, none⟩) (Kd.V_mono HL202_1.out (fun k_ hk => (⟨hk, hk.2⟩ : _ ∧ k_ ≠ gb206))) (fun _ hk => hk.2) (.int .i64 ((rd_T32 x4_3 x11_3).f0))) (fun _ hk => hk.2) (.slice A202_1 ((rd_T32 x4_3 x11_3).f1).length c202_1)) (fun _ hk => ⟨hk.1.1.1, ⟨hk.1.1.2, hk.1.2⟩⟩)))⟩; have n2_ : Aside0 (Kd.V (Kd.int .i64) 2 w64 w.heap.size (fun k_ => (w.heap.size ≤ k_) ∧ some k_ ≠ (.slice (some ad202) x4_3.length co50 : Value).ownBlock ∧ k_ ≠ gb206) (.slice A203_1 ((rd_T32 x4_3 (ji54)).f1).length c203_1) ((rd_T32 x4_3 (ji54)).f1)) := ⟨(by rw [hw]; exact (by (with_reducible repeat (first | apply Kd.V_alloc | apply Kd.V_drewN | apply Kd.V_drew)); exact Kd.V_mono (Kd.V_far (p := ⟨gb206, 1, none⟩) (Kd.V_far (p := ⟨gb206, 0, none⟩) (Kd.V_mono HL203_1.out (fun k_ hk => (⟨hk, hk.2⟩ : _ ∧ k_ ≠ gb206))) (fun _ hk => hk.2) (.int .i64 ((rd_T32 x4_3 x11_3).f0))) (fun _ hk => hk.2) (.slice A202_1 ((rd_T32 x4_3 x11_3).f1).length c202_1)) (fun _ hk => ⟨hk.1.1.1, ⟨hk.1.1.2, hk.1.2⟩⟩)))⟩; have n3_ : Aside0 (Kd.V (Kd.int .i64) 2 w64 w.heap.size (fun k_ => (w.heap.size ≤ k_) ∧ some k_ ≠ (.slice (some ad202) x4_3.length co50 : Value).ownBlock ∧ k_ ≠ gb206) (.slice A202_1 ((rd_T32 x4_3 x11_3).f1).length c202_1) ((rd_T32 x4_3 x11_3).f1)) := ⟨(by rw [hw]; exact (by (with_reducible repeat (first | apply Kd.V_alloc | apply Kd.V_drewN | apply Kd.V_drew)); exact Kd.V_mono (Kd.V_far (p := ⟨gb206, 1, none⟩) (Kd.V_far (p := ⟨gb206, 0, none⟩) (Kd.V_mono HL205_1.out (fun k_ hk => (⟨hk, hk.2⟩ : _ ∧ k_ ≠ gb206))) (fun _ hk => hk.2) (.int .i64 ((rd_T32 x4_3 x11_3).f0))) (fun _ hk => hk.2) (.slice A202_1 ((rd_T32 x4_3 x11_3).f1).length c202_1)) (fun _ hk => ⟨hk.1.1.1, ⟨hk.1.1.2, hk.1.2⟩⟩)))⟩; have n4_ : Aside0 (w64.heap[gb206]? = some (.cells #[.int .i64 ((rd_T32 x4_3 x11_3).f0), .slice A202_1 ((rd_T32 x4_3 x11_3).f1).length c202_1] 32 (0, 0))) := ⟨(by rw [hw]; exact (by (with_reducible repeat (first | refine blk_drewN ?_ _ | refine blk_drew ?_ | refine blk_alloc ?_ _)); refine blk_put (cs := #[.int .i64 ((rd_T32 x4_3 x11_3).f0), .slice none 0 0]) ?_ 1 _ rfl; (with_reducible repeat (first | refine blk_drewN ?_ _ | refine blk_drew ?_ | refine blk_alloc ?_ _)); refine blk_put (cs := #[.int .i64 0, .slice none 0 0]) ?_ 0 _ rfl; (with_reducible repeat (first | refine blk_drewN ?_ _ | refine blk_drew ?_ | refine blk_alloc ?_ _)); exact BK206.out))⟩; have n5_ : Aside0 (Below w.heap.size w w64) := ⟨(by rw [hw]; exact (beQ HB))⟩; clear hw; clear HO_4; clear HL202_1; clear HL203_1; clear HL205_1; clear BK206; clear HB; have HO_4 := n0_; have HL202_1 := n1_; have HL203_1 := n2_; have HL205_1 := n3_; have BK206 := n4_; have HB := n5_; clear n0_ n1_ n2_ n3_ n4_ n5_; have p207 : 0 ≤ ((ji54) : Int) := of_decide_eq_true (by first | (with_reducible assumption) | assumption); have q207 : (ji54) < (x4_3.length : Int) := of_decide_eq_true (by first | (with_reducible assumption) | assumption); obtain ⟨ad207, A207_1, c207_1, e207, hx207_0, hx207_1, hl207_1, hi207_1⟩ := at_T32 (Kd.N_reads' HO_4.out).2.2 (ji54) p207 q207; obtain rfl : ad202 = ad207 := (by injection e207); obtain ⟨ce207, hce207, hMe207, hcc207⟩ := Kd.N_get HO_4.out z32 (ji54) p207 (by first | exact q207 | exact of_decide_eq_true (by first | (with_reducible assumption) | assumption) | (have e_ := (Kd.N_reads' HO_4.out).1; omega)); obtain ⟨ua207_1, uc207_1, rfl, ul207_1, ge207_1⟩ := k32_openF hMe207; have hv207_1 := hcc207 1 _ rfl; rw [add_field _ _ 1 (by omega)] at hv207_1; replace hv207_1 := Option.some.inj (hv207_1.symm.trans hx207_1); injection hv207_1 with hva_ hvn_ hvc_; rw [hva_] at ge207_1; rw [hvc_] at ul207_1; have HL207_1 := Aside0.mk (show Kd.V (Kd.int .i64) 2 _ w.heap.size _ _ ((rd_T32 x4_3 (ji54)).f1) from Kd.V_mk ul207_1 ge207_1); clear hva_ hvn_ hvc_ ge207_1 ul207_1; clear hcc207 hce207; have HR207_1 := Aside0.mk hi207_1; have HC207_1 := Aside0.mk hl207_1; clear hi207_1 hl207_1; replace p207 := eq_true p207; replace q207 := eq_true q207; have p59 : 0 ≤ (x11_3 : Int) := of_decide_eq_true (by first | (with_reducible assumption) | assumption); have q59 : (x11_3 : Int) < ((x4_3.length : Int) : Int) := of_decide_eq_true (by first | (with_reducible assumption) | assumption); obtain ⟨go59, co59, eo59, gb59, gl59, cl59, HG59⟩ := Kd.N_form HO_4.out (by omega); (first | cases eo59 | (injection eo59 with ea_ en_ ec_; (first | subst ea_ | (injection ea_ with ea_; subst ea_)); subst ec_; clear en_)); have GB59 := Aside0.mk gb59; have GG59 := Aside0.mk HG59; clear gb59 gl59 HG59; (first | simp only [add_plain] at hx202_0 | skip); (first | simp only [add_plain] at hx202_1 | skip); (first | simp only [add_plain] at hx203_0 | skip); (first | simp only [add_plain] at hx203_1 | skip); (first | simp only [add_plain] at hx205_0 | skip); (first | simp only [add_plain] at hx205_1 | skip); (first | simp only [add_plain] at hx207_0 | skip); (first | simp only [add_plain] at hx207_1 | skip); obtain ⟨ce59, hcl59, hM59, hcc59, hfr59⟩ := Kd.N_elem HO_4.out z32 (x11_3 : Int) p59 q59; obtain ⟨ua59_1, uc59_1, rfl, ul59_1, ge59_1⟩ := k32_openF hM59; have hx59_0 : w64.cell? ⟨go59, (x11_3 : Int).toNat * 2, none⟩ = some (.int .i64 ((rd_T32 x4_3 x11_3).f0)) := hcc59 0 _ rfl; have hx59_1 : w64.cell? ⟨go59, (x11_3 : Int).toNat * 2 + 1, none⟩ = some (.slice ua59_1 ((rd_T32 x4_3 x11_3).f1).length uc59_1) := hcc59 1 _ rfl; have hf59_0 : w64.frozen? ⟨go59, (x11_3 : Int).toNat * 2, none⟩ = false := hfr59 0; have hf59_1 : w64.frozen? ⟨go59, (x11_3 : Int).toNat * 2 + 1, none⟩ = false := hfr59 1; clear hcl59 hcc59 hfr59 hM59; replace p59 := eq_true p59; replace q59 := eq_true q59; have HX65 := Aside0.mk (show Kd.N k32 32 w64 w.heap.size (fun k_ => (w.heap.size ≤ k_) ∧ k_ ≠ gb206) (.slice (some ⟨go59, 0, none⟩) x4_3.length co50) x4_3 from (by (with_reducible repeat (first | apply Kd.N_alloc | apply Kd.N_drewN | apply Kd.N_drew)); exact HO_4.out)); obtain ⟨ce65, hcl65, hM65, hcc65, hfr65⟩ := Kd.N_elem HX65.out z32 (x11_3 : Int) (of_decide_eq_true (by first | (with_reducible assumption) | assumption)) (by have h_ : (x11_3 : Int) < ((x4_3.length : Int) : Int) := of_decide_eq_true (by first | (with_reducible assumption) | assumption); first | exact h_ | (have e_ := (Kd.N_reads' HO_4.out).1; omega) | simpa using h_); obtain ⟨ua65_1, uc65_1, rfl, ul65_1, ge65_1⟩ := k32_openF hM65; have HP65 := Kd.N_seg HX65.out (x11_3 : Int) (of_decide_eq_true (by first | (with_reducible assumption) | assumption)) (by have h_ : (x11_3 : Int) < ((x4_3.length : Int) : Int) := of_decide_eq_true (by first | (with_reducible assumption) | assumption); first | exact h_ | (have e_ := (Kd.N_reads' HO_4.out).1; omega) | simpa using h_) (seg := [.int .i64 ((rd_T32 x4_3 (ji54)).f0), .slice A207_1 ((rd_T32 x4_3 (ji54)).f1).length c207_1]) (j := 0) hcl65 hcc65 (show 2 ≤ 2 from by decide) (x' := (⟨(rd_T32 x4_3 (ji54)).f0, (rd_T32 x4_3 (ji54)).f1⟩ : S32)) (k32_mkF _ _ (⟨(rd_T32 x4_3 (ji54)).f0, (rd_T32 x4_3 (ji54)).f1⟩ : S32) (Kd.V_reads' (Kd.V_mono (ok' := (fun k_ => ((fun k_ => (w.heap.size ≤ k_) ∧ k_ ≠ gb206)) k_ ∧ k_ ≠ go59)) (HL207_1.out) (fun k_ hk => ⟨⟨hk.1.1, hk.1.2⟩, fun e_ => (hk.2) (by rw [e_]; rfl)⟩))).2.1 (Kd.V_F (Kd.V_mono (ok' := (fun k_ => ((fun k_ => (w.heap.size ≤ k_) ∧ k_ ≠ gb206)) k_ ∧ k_ ≠ go59)) (HL207_1.out) (fun k_ hk => ⟨⟨hk.1.1, hk.1.2⟩, fun e_ => (hk.2) (by rw [e_]; rfl)⟩)))) (fun _ hk => hk); have hx65_0 := hcc65 0 _ rfl; (try simp only [show (k32).sz = 2 from rfl, Nat.mul_one, Nat.add_zero] at hx65_0); have hf65_0 := hfr65 0; (try simp only [show (k32).sz = 2 from rfl, Nat.mul_one, Nat.add_zero] at hf65_0); have hx65_1 := hcc65 1 _ rfl; (try simp only [show (k32).sz = 2 from rfl, Nat.mul_one, Nat.add_zero] at hx65_1); have hf65_1 := hfr65 1; (try simp only [show (k32).sz = 2 from rfl, Nat.mul_one, Nat.add_zero] at hf65_1); clear hcl65 hcc65 hfr65 hM65) | ((with_reducible refine gate_store (t := 32) (p := 96) rfl ?_); refine store_event (t := 32) (p := 96) (v := ?vo_w66) (w1 := ((w64.setCell ⟨go59, (x11_3 : Int).toNat * 2, none⟩ (.int .i64 ((rd_T32 x4_3 (ji54)).f0))).setCell ⟨go59, (x11_3 : Int).toNat * 2 + 1, none⟩ (.slice A207_1 ((rd_T32 x4_3 (ji54)).f1).length c207_1))) ?hg ?ho ?hn ?hr ?_; (case ho => rfl); (case hg => rfl); (case hn => rfl); (case hr => first | (go_simp; done) | (go_simp; rfl)); intro w66 hw; have hg : w64.grownBy w66 (some go59) := (by rw [hw]; exact HP65.2); have hp_ : Kd.N k32 32 w66 w.heap.size (fun k_ => (w.heap.size ≤ k_) ∧ k_ ≠ gb206) (.slice (some ⟨go59, 0, none⟩) x4_3.length co50) y208 := (by rw [hw, Ny208.out]; exact HP65.1); clear HP65; replace HL202_1 := Aside0.mk (Kd.V_afterv (v := (.slice (some ⟨go59, 0, none⟩) x4_3.length co50)) (v1 := (.slice (some ⟨go59, 0, none⟩) x4_3.length co50)) (ok := (fun k_ => (w.heap.size ≤ k_) ∧ k_ ≠ gb206)) (by (with_reducible repeat (first | apply Kd.V_alloc | apply Kd.V_drewN | apply Kd.V_drew)); exact Kd.V_mono HL202_1.out (fun _ hk => ⟨⟨hk.1, hk.2.2⟩, hk.2.1⟩)) hg (.inl rfl)); replace HL203_1 := Aside0.mk (Kd.V_afterv (v := (.slice (some ⟨go59, 0, none⟩) x4_3.length co50)) (v1 := (.slice (some ⟨go59, 0, none⟩) x4_3.length co50)) (ok := (fun k_ => (w.heap.size ≤ k_) ∧ k_ ≠ gb206)) (by (with_reducible repeat (first | apply Kd.V_alloc | apply Kd.V_drewN | apply Kd.V_drew)); exact Kd.V_mono HL203_1.out (fun _ hk => ⟨⟨hk.1, hk.2.2⟩, hk.2.1⟩)) hg (.inl rfl)); replace HL205_1 := Aside0.mk (Kd.V_afterv (v := (.slice (some ⟨go59, 0, none⟩) x4_3.length co50)) (v1 := (.slice (some ⟨go59, 0, none⟩) x4_3.length co50)) (ok := (fun k_ => (w.heap.size ≤ k_) ∧ k_ ≠ gb206)) (by (with_reducible repeat (first | apply Kd.V_alloc | apply Kd.V_drewN | apply Kd.V_drew)); exact Kd.V_mono HL205_1.out (fun _ hk => ⟨⟨hk.1, hk.2.2⟩, hk.2.1⟩)) hg (.inl rfl)); replace BK206 := Aside0.mk (blk_grown (g := gb206) (o := .cells #[.int .i64 ((rd_T32 x4_3 x11_3).f0), .slice A202_1 ((rd_T32 x4_3 x11_3).f1).length c202_1] 32 (0, 0)) (blkQ BK206) hg (Kd.N_away HO_4.out (fun _ hk => hk.2))); replace HO_4 := Aside0.mk (hp_); replace HL207_1 := Aside0.mk (Kd.V_afterv (v := (.slice (some ⟨go59, 0, none⟩) x4_3.length co50)) (v1 := (.slice (some ⟨go59, 0, none⟩) x4_3.length co50)) (ok := (fun k_ => (w.heap.size ≤ k_) ∧ k_ ≠ gb206)) (by (with_reducible repeat (first | apply Kd.V_alloc | apply Kd.V_drewN | apply Kd.V_drew)); exact HL207_1.out) hg (.inl rfl)); replace HB := Aside0.mk ((by rw [hw]; exact below_set (below_set (HB.out) GB59.out) GB59.out : Below w.heap.size w w66)); clear hg hw hp_; have hcz67_0 : w66.cell? ⟨gb206, 0, none⟩ = some (.int .i64 ((rd_T32 x4_3 x11_3).f0)) := bc BK206 0; have hcz67_1 : w66.cell? ⟨gb206, 1, none⟩ = some (.slice A202_1 ((rd_T32 x4_3 x11_3).f1).length c202_1) := bc BK206 1; have hfz67_0 := blk_frozen BK206.out 0; have hfz67_1 := blk_frozen BK206.out 1; have p60 : 0 ≤ ((ji54) : Int) := of_decide_eq_true (by first | (with_reducible assumption) | assumption); have q60 : ((ji54) : Int) < ((x4_3.length : Int) : Int) := of_decide_eq_true (by first | (with_reducible assumption) | assumption); obtain ⟨ce60, hcl60, hM60, hcc60, hfr60⟩ := Kd.N_elem HO_4.out z32 ((ji54) : Int) p60 q60; obtain ⟨ua60_1, uc60_1, rfl, ul60_1, ge60_1⟩ := k32_openF hM60; have hx60_0 : w66.cell? ⟨go59, ((ji54) : Int).toNat * 2, none⟩ = some (.int .i64 ((rd_T32 y208 (ji54)).f0)) := hcc60 0 _ rfl; have hx60_1 : w66.cell? ⟨go59, ((ji54) : Int).toNat * 2 + 1, none⟩ = some (.slice ua60_1 ((rd_T32 y208 (ji54)).f1).length uc60_1) := hcc60 1 _ rfl; have hf60_0 : w66.frozen? ⟨go59, ((ji54) : Int).toNat * 2, none⟩ = false := hfr60 0; have hf60_1 : w66.frozen? ⟨go59, ((ji54) : Int).toNat * 2 + 1, none⟩ = false := hfr60 1; clear hcl60 hcc60 hfr60 hM60; replace p60 := eq_true p60; replace q60 := eq_true q60; have HX68 := Aside0.mk (show Kd.N k32 32 w66 w.heap.size (fun k_ => (w.heap.size ≤ k_) ∧ k_ ≠ gb206) (.slice (some ⟨go59, 0, none⟩) x4_3.length co50) y208 from (by (with_reducible repeat (first | apply Kd.N_alloc | apply Kd.N_drewN | apply Kd.N_drew)); exact HO_4.out)); obtain ⟨ce68, hcl68, hM68, hcc68, hfr68⟩ := Kd.N_elem HX68.out z32 ((ji54) : Int) (of_decide_eq_true (by first | (with_reducible assumption) | assumption)) (by have h_ : ((ji54) : Int) < ((x4_3.length : Int) : Int) := of_decide_eq_true (by first | (with_reducible assumption) | assumption); first | exact h_ | (have e_ := (Kd.N_reads' HO_4.out).1; omega) | simpa using h_); obtain ⟨ua68_1, uc68_1, rfl, ul68_1, ge68_1⟩ := k32_openF hM68; have HP68 := Kd.N_seg HX68.out ((ji54) : Int) (of_decide_eq_true (by first | (with_reducible assumption) | assumption)) (by have h_ : ((ji54) : Int) < ((x4_3.length : Int) : Int) := of_decide_eq_true (by first | (with_reducible assumption) | assumption); first | exact h_ | (have e_ := (Kd.N_reads' HO_4.out).1; omega) | simpa using h_) (seg := [.int .i64 ((rd_T32 x4_3 x11_3).f0), .slice A202_1 ((rd_T32 x4_3 x11_3).f1).length c202_1]) (j := 0) hcl68 hcc68 (show 2 ≤ 2 from by decide) (x' := (⟨(rd_T32 x4_3 x11_3).f0, (rd_T32 x4_3 x11_3).f1⟩ : S32)) (k32_mkF _ _ (⟨(rd_T32 x4_3 x11_3).f0, (rd_T32 x4_3 x11_3).f1⟩ : S32) (Kd.V_reads' (Kd.V_mono (ok' := (fun k_ => ((fun k_ => (w.heap.size ≤ k_) ∧ k_ ≠ gb206)) k_ ∧ k_ ≠ go59)) (HL205_1.out) (fun k_ hk => ⟨⟨hk.1.1, hk.1.2⟩, fun e_ => (hk.2) (by rw [e_]; rfl)⟩))).2.1 (Kd.V_F (Kd.V_mono (ok' := (fun k_ => ((fun k_ => (w.heap.size ≤ k_) ∧ k_ ≠ gb206)) k_ ∧ k_ ≠ go59)) (HL205_1.out) (fun k_ hk => ⟨⟨hk.1.1, hk.1.2⟩, fun e_ => (hk.2) (by rw [e_]; rfl)⟩)))) (fun _ hk => hk); have hx68_0 := hcc68 0 _ rfl; (try simp only [show (k32).sz = 2 from rfl, Nat.mul_one, Nat.add_zero] at hx68_0); have hf68_0 := hfr68 0; (try simp only [show (k32).sz = 2 from rfl, Nat.mul_one, Nat.add_zero] at hf68_0); have hx68_1 := hcc68 1 _ rfl; (try simp only [show (k32).sz = 2 from rfl, Nat.mul_one, Nat.add_zero] at hx68_1); have hf68_1 := hfr68 1; (try simp only [show (k32).sz = 2 from rfl, Nat.mul_one, Nat.add_zero] at hf68_1); clear hcl68 hcc68 hfr68 hM68) | ((with_reducible refine gate_store (t := 32) (p := 101) rfl ?_); refine store_event (t := 32) (p := 101) (v := ?vo_w69) (w1 := ((w66.setCell ⟨go59, ((ji54) : Int).toNat * 2, none⟩ (.int .i64 ((rd_T32 x4_3 x11_3).f0))).setCell ⟨go59, ((ji54) : Int).toNat * 2 + 1, none⟩ (.slice A202_1 ((rd_T32 x4_3 x11_3).f1).length c202_1))) ?hg ?ho ?hn ?hr ?_; (case ho => rfl); (case hg => rfl); (case hn => rfl); (case hr => first | (go_simp; done) | (go_simp; rfl)); intro w69 hw; have hg : w66.grownBy w69 (some go59) := (by rw [hw]; exact HP68.2); have hp_ : Kd.N k32 32 w69 w.heap.size (fun k_ => (w.heap.size ≤ k_) ∧ k_ ≠ gb206) (.slice (some ⟨go59, 0, none⟩) x4_3.length co50) y209 := (by rw [hw, Ny209.out]; exact HP68.1); clear HP68; replace HL202_1 := Aside0.mk (Kd.V_afterv (v := (.slice (some ⟨go59, 0, none⟩) x4_3.length co50)) (v1 := (.slice (some ⟨go59, 0, none⟩) x4_3.length co50)) (ok := (fun k_ => (w.heap.size ≤ k_) ∧ k_ ≠ gb206)) (by (with_reducible repeat (first | apply Kd.V_alloc | apply Kd.V_drewN | apply Kd.V_drew)); exact HL202_1.out) hg (.inl rfl)); replace HL203_1 := Aside0.mk (Kd.V_afterv (v := (.slice (some ⟨go59, 0, none⟩) x4_3.length co50)) (v1 := (.slice (some ⟨go59, 0, none⟩) x4_3.length co50)) (ok := (fun k_ => (w.heap.size ≤ k_) ∧ k_ ≠ gb206)) (by (with_reducible repeat (first | apply Kd.V_alloc | apply Kd.V_drewN | apply Kd.V_drew)); exact HL203_1.out) hg (.inl rfl)); replace HL205_1 := Aside0.mk (Kd.V_afterv (v := (.slice (some ⟨go59, 0, none⟩) x4_3.length co50)) (v1 := (.slice (some ⟨go59, 0, none⟩) x4_3.length co50)) (ok := (fun k_ => (w.heap.size ≤ k_) ∧ k_ ≠ gb206)) (by (with_reducible repeat (first | apply Kd.V_alloc | apply Kd.V_drewN | apply Kd.V_drew)); exact HL205_1.out) hg (.inl rfl)); replace BK206 := Aside0.mk (blk_grown (g := gb206) (o := .cells #[.int .i64 ((rd_T32 x4_3 x11_3).f0), .slice A202_1 ((rd_T32 x4_3 x11_3).f1).length c202_1] 32 (0, 0)) (blkQ BK206) hg (Kd.N_away HO_4.out (fun _ hk => hk.2))); replace HO_4 := Aside0.mk (hp_); replace HL207_1 := Aside0.mk (Kd.V_afterv (v := (.slice (some ⟨go59, 0, none⟩) x4_3.length co50)) (v1 := (.slice (some ⟨go59, 0, none⟩) x4_3.length co50)) (ok := (fun k_ => (w.heap.size ≤ k_) ∧ k_ ≠ gb206)) (by (with_reducible repeat (first | apply Kd.V_alloc | apply Kd.V_drewN | apply Kd.V_drew)); exact HL207_1.out) hg (.inl rfl)); replace HB := Aside0.mk ((by rw [hw]; exact below_set (below_set (HB.out) GB59.out) GB59.out : Below w.heap.size w w69)); clear hg hw hp_))
                (try simp only [← hl4_3])
                go_roundg k3
                case measure => have := HK1.out; have := HK2.out; have := HK3.out; omega
                case rel => exact ⟨(y209), (ji54), (by first | rfl | (simp; done) | (simp only [← hji54] <;> (first | rfl | simp)) | (simp [*]; done)), H', ⟨by have := HK1.out; have := HK2.out; have := HK3.out; omega⟩, ⟨by (try simp only [hl4_3]); (with_reducible repeat (first | apply Kd.N_alloc | apply Kd.N_drewN | apply Kd.N_drew)); exact Kd.N_mono HO_4.out (fun _ hk => hk.1)⟩, ⟨beQ HB⟩⟩
               ·replace c58 := Bool.eq_false_iff.mpr c58
                subst c58
                have H1 : (spec_AllAlphabets.l3 k3 x4_3 (wrap64 (x10_2 + 1))) = some (r1, r2) := by rw [if_neg (show ¬ (false = true) by decide)] at H; exact H
                clear H; have H := H1; clear H1
                have H' := Aside0.mk H
                clear H
                try go_wp2
                replace HO_4 := Aside0.mk (Kd.N_drew HO_4.out); replace HB := Aside0.mk (below_drew1 HB.out)
                have p202 : 0 ≤ (x11_3 : Int) := of_decide_eq_true (by first | (with_reducible assumption) | assumption)
                have q202 : x11_3 < (x4_3.length : Int) := of_decide_eq_true (by first | (with_reducible assumption) | assumption)
                obtain ⟨ad202, A202_1, c202_1, e202, hx202_0, hx202_1, hl202_1, hi202_1⟩ := at_T32 (Kd.N_reads' HO_4.out).2.2 x11_3 p202 q202; cases e202
                obtain ⟨ce202, hce202, hMe202, hcc202⟩ := Kd.N_get HO_4.out z32 x11_3 p202 (by first | exact q202 | exact of_decide_eq_true (by first | (with_reducible assumption) | assumption) | (have e_ := (Kd.N_reads' HO_4.out).1; omega))
                obtain ⟨ua202_1, uc202_1, rfl, ul202_1, ge202_1⟩ := k32_openF hMe202; have hv202_1 := hcc202 1 _ rfl; rw [add_field _ _ 1 (by omega)] at hv202_1; replace hv202_1 := Option.some.inj (hv202_1.symm.trans hx202_1)
                injection hv202_1 with hva_ hvn_ hvc_
                rw [hva_] at ge202_1; rw [hvc_] at ul202_1; have HL202_1 := Aside0.mk (show Kd.V (Kd.int .i64) 2 _ w.heap.size _ _ ((rd_T32 x4_3 x11_3).f1) from Kd.V_mk ul202_1 ge202_1); clear hva_ hvn_ hvc_ ge202_1 ul202_1; clear hcc202 hce202; have HR202_1 := Aside0.mk hi202_1; have HC202_1 := Aside0.mk hl202_1; clear hi202_1 hl202_1; replace p202 := eq_true p202; replace q202 := eq_true q202
                have p203 : 0 ≤ ((ji54) : Int) := of_decide_eq_true (by first | (with_reducible assumption) | assumption)
                have q203 : (ji54) < (x4_3.length : Int) := of_decide_eq_true (by first | (with_reducible assumption) | assumption)
                obtain ⟨ad203, A203_1, c203_1, e203, hx203_0, hx203_1, hl203_1, hi203_1⟩ := at_T32 (Kd.N_reads' HO_4.out).2.2 (ji54) p203 q203
                obtain rfl : ad202 = ad203 := (by injection e203)
                obtain ⟨ce203, hce203, hMe203, hcc203⟩ := Kd.N_get HO_4.out z32 (ji54) p203 (by first | exact q203 | exact of_decide_eq_true (by first | (with_reducible assumption) | assumption) | (have e_ := (Kd.N_reads' HO_4.out).1; omega))
                obtain ⟨ua203_1, uc203_1, rfl, ul203_1, ge203_1⟩ := k32_openF hMe203; have hv203_1 := hcc203 1 _ rfl; rw [add_field _ _ 1 (by omega)] at hv203_1; replace hv203_1 := Option.some.inj (hv203_1.symm.trans hx203_1)
                injection hv203_1 with hva_ hvn_ hvc_
                rw [hva_] at ge203_1; rw [hvc_] at ul203_1; have HL203_1 := Aside0.mk (show Kd.V (Kd.int .i64) 2 _ w.heap.size _ _ ((rd_T32 x4_3 (ji54)).f1) from Kd.V_mk ul203_1 ge203_1); clear hva_ hvn_ hvc_ ge203_1 ul203_1; clear hcc203 hce203; have HR203_1 := Aside0.mk hi203_1; have HC203_1 := Aside0.mk hl203_1; clear hi203_1 hl203_1; replace p203 := eq_true p203; replace q203 := eq_true q203
                refine start_ (n := 16) (S := fun w' => w'.cell? (ad202.add ((x11_3).toNat * 2)) = some (.int .i64 ((rd_T32 x4_3 x11_3).f0)) ∧ w'.cell? ⟨(ad202.add ((x11_3).toNat * 2)).block, (ad202.add ((x11_3).toNat * 2)).off + 1, none⟩ = some (.slice A202_1 ((rd_T32 x4_3 x11_3).f1).length c202_1) ∧ w'.cell? (ad202.add (((ji54)).toNat * 2)) = some (.int .i64 ((rd_T32 x4_3 (ji54)).f0)) ∧ w'.cell? ⟨(ad202.add (((ji54)).toNat * 2)).block, (ad202.add (((ji54)).toNat * 2)).off + 1, none⟩ = some (.slice A203_1 ((rd_T32 x4_3 (ji54)).f1).length c203_1)) (ds := []) #[false, false, false, false, false, false, false, false, false, false, false, false, false, false, false, false] (by kernel_rfl) rfl rfl ⟨hx202_0, hx202_1, hx203_0, hx203_1⟩ (fun hHeld => ?_); refine with_tabW spec_AllAlphabets.tab23 spec_AllAlphabets.bits23 (fun HT_ HW_ => ?_)
                generalize wr.drew = w70 at HO_4 HB HL202_1 HL203_1 HR202_1 HR203_1 hx202_0 hx202_1 hx203_0 hx203_1 hHeld ⊢
                refine pure_ (i := 0) (N := some 67) (v := ?_) (a' := ?_) #[true, false, false, false, false, false, false, false, false, false, false, false, false, false, false, false] rfl rfl (any_of HT_.out (by kernel_rfl)) (fun _ _ _ h => h) (Or.inl ⟨by rfl, ?_⟩) ?_ ?_
                rotate_left
                ·intro w'
                 go_simp
                 with_reducible rfl
                rotate_left
                ·simp only [Act.put, s1, s2, s3, i64_w, i32_w]
                 rfl
                refine pure_ (i := 1) (N := some 68) (v := ?_) (a' := ?_) #[true, true, false, false, false, false, false, false, false, false, false, false, false, false, false, false] rfl rfl (any_of HT_.out (by kernel_rfl)) (fun _ _ _ h => h) (Or.inl ⟨by rfl, ?_⟩) ?_ ?_
                rotate_left
                ·intro w'
                 go_simp
                 with_reducible rfl
                rotate_left
                ·simp only [Act.put, s1, s2, s3, i64_w, i32_w]
                 rfl
                refine pure_ (i := 2) (N := some 69) (v := ?_) (a' := ?_) #[true, true, true, false, false, false, false, false, false, false, false, false, false, false, false, false] rfl rfl (any_of HT_.out (by kernel_rfl)) (fun _ _ _ h => h) (Or.inl ⟨by rfl, ?_⟩) ?_ ?_
                rotate_left
                ·intro w'
                 go_simp
                 with_reducible rfl
                rotate_left
                ·simp only [Act.put, s1, s2, s3, i64_w, i32_w]
                 rfl
                refine pure_ (i := 3) (N := some 70) (v := ?_) (a' := ?_) #[true, true, true, true, false, false, false, false, false, false, false, false, false, false, false, false] rfl rfl (any_of HT_.out (by kernel_rfl)) (fun _ _ _ h => h) (Or.inl ⟨by rfl, ?_⟩) ?_ ?_
                rotate_left
                ·intro w'
                 go_simp
                 with_reducible rfl
                rotate_left
                ·simp only [Act.put, s1, s2, s3, i64_w, i32_w]
                 rfl
                refine pure_ (i := 4) (N := some 71) (v := ?_) (a' := ?_) #[true, true, true, true, true, false, false, false, false, false, false, false, false, false, false, false] rfl rfl (any_of HT_.out (by kernel_rfl)) (fun _ _ _ h => h) (Or.inl ⟨by rfl, ?_⟩) ?_ ?_
                rotate_left
                ·intro w'
                 go_simp
                 with_reducible rfl
                rotate_left
                ·simp only [Act.put, s1, s2, s3, i64_w, i32_w]
                 rfl
                refine pure_ (i := 5) (N := some 72) (v := ?_) (a' := ?_) #[true, true, true, true, true, true, false, false, false, false, false, false, false, false, false, false] rfl rfl (any_of HT_.out (by kernel_rfl)) (fun _ _ _ h => h) (Or.inl ⟨by rfl, ?_⟩) ?_ ?_
                rotate_left
                ·intro w'
                 go_simp
                 with_reducible rfl
                rotate_left
                ·simp only [Act.put, s1, s2, s3, i64_w, i32_w]
                 rfl
                refine pure_ (i := 6) (N := some 73) (v := ?_) (a' := ?_) #[true, true, true, true, true, true, true, false, false, false, false, false, false, false, false, false] rfl rfl (any_of HT_.out (by kernel_rfl)) (fun _ _ _ h => h) (Or.inl ⟨by rfl, ?_⟩) ?_ ?_
                rotate_left
                ·intro w'
                 go_simp
                 with_reducible rfl
                rotate_left
                ·simp only [Act.put, s1, s2, s3, i64_w, i32_w]
                 rfl
                refine pure_ (i := 8) (N := some 75) (v := ?_) (a' := ?_) #[true, true, true, true, true, true, true, false, true, false, false, false, false, false, false, false] rfl rfl (any_of HT_.out (by kernel_rfl)) (fun _ _ _ h => h) (Or.inl ⟨by rfl, ?_⟩) ?_ ?_
                rotate_left
                ·intro w'
                 go_simp
                 with_reducible rfl
                rotate_left
                ·simp only [Act.put, s1, s2, s3, i64_w, i32_w]
                 rfl
                refine pure_ (i := 9) (N := some 76) (v := ?_) (a' := ?_) #[true, true, true, true, true, true, true, false, true, true, false, false, false, false, false, false] rfl rfl (any_of HT_.out (by kernel_rfl)) (fun _ _ _ h => h) (Or.inl ⟨by rfl, ?_⟩) ?_ ?_
                rotate_left
                ·intro w'
                 go_simp
                 with_reducible rfl
                rotate_left
                ·simp only [Act.put, s1, s2, s3, i64_w, i32_w]
                 rfl
                refine pure_ (i := 10) (N := some 77) (v := ?_) (a' := ?_) #[true, true, true, true, true, true, true, false, true, true, true, false, false, false, false, false] rfl rfl (any_of HT_.out (by kernel_rfl)) (fun _ _ _ h => h) (Or.inl ⟨by rfl, ?_⟩) ?_ ?_
                rotate_left
                ·intro w'
                 go_simp
                 with_reducible rfl
                rotate_left
                ·simp only [Act.put, s1, s2, s3, i64_w, i32_w]
                 rfl
                refine pure_ (i := 11) (N := some 78) (v := ?_) (a' := ?_) #[true, true, true, true, true, true, true, false, true, true, true, true, false, false, false, false] rfl rfl (any_of HT_.out (by kernel_rfl)) (fun _ _ _ h => h) (Or.inl ⟨by rfl, ?_⟩) ?_ ?_
                rotate_left
                ·intro w'
                 go_simp
                 with_reducible rfl
                rotate_left
                ·simp only [Act.put, s1, s2, s3, i64_w, i32_w]
                 rfl
                refine pure_ (i := 12) (N := some 79) (v := ?_) (a' := ?_) #[true, true, true, true, true, true, true, false, true, true, true, true, true, false, false, false] rfl rfl (any_of HT_.out (by kernel_rfl)) (fun _ _ _ h => h) (Or.inl ⟨by rfl, ?_⟩) ?_ ?_
                rotate_left
                ·intro w'
                 go_simp
                 with_reducible rfl
                rotate_left
                ·simp only [Act.put, s1, s2, s3, i64_w, i32_w]
                 rfl
                refine take_ (i := 7) (N := some 74) (v := ?_) (a' := ?_) #[true, true, true, true, true, true, true, true, true, true, true, true, true, false, false, false] rfl rfl (take_ofW HT_.out HW_.out (by kernel_rfl)) (fun _ _ _ h => h) (Or.inl ⟨by rfl, ?_⟩) hHeld ?_ ?_
                rotate_left
                ·rintro w' ⟨s0, s1, s2, s3⟩
                 go_simp
                 with_reducible rfl
                rotate_left
                ·simp only [Act.put, s1, s2, s3, i64_w, i32_w]
                 rfl
                refine take_ (i := 13) (N := some 80) (v := ?_) (a' := ?_) #[true, true, true, true, true, true, true, true, true, true, true, true, true, true, false, false] rfl rfl (take_ofW HT_.out HW_.out (by kernel_rfl)) (fun _ _ _ h => h) (Or.inl ⟨by rfl, ?_⟩) hHeld ?_ ?_
                rotate_left
                ·rintro w' ⟨s0, s1, s2, s3⟩
                 go_simp
                 with_reducible rfl
                rotate_left
                ·simp only [Act.put, s1, s2, s3, i64_w, i32_w]
                 rfl
                refine one_ (i := 14) (N := some 81) #[true, true, true, true, true, true, true, true, true, true, true, true, true, true, true, false] rfl rfl (one_of HT_.out (by kernel_rfl)) (by decide) (fun K hK => ?_)
                refine goes_ Try.func16 (by kernel_rfl) rfl #[.slice A202_1 ((rd_T32 x4_3 x11_3).f1).length c202_1, .slice A203_1 ((rd_T32 x4_3 (ji54)).f1).length c203_1] (by rfl) rfl rfl (by (try simp only [List.map_toArray, List.map_cons, List.map_nil]); first | done | (simp only [hji54]; rfl) | rfl | (simp only [List.length_drop, List.length_take]; rfl)) ?_
                with_reducible refine (spec_l01Less.calls k3 _ _ ((rd_T32 x4_3 x11_3).f1) _ _ ((rd_T32 x4_3 (ji54)).f1) false _ ?side1 ?side2 ?side3 ?side4 A57.out).mono ?_
                (case side1 => repeat (first | exact (by repeat (first | (with_reducible exact HR202_1.out) | (with_reducible refine Kd.C_alloc ?_ _) | (with_reducible refine Kd.C_drewN ?_ _) | (with_reducible refine Kd.C_drew ?_) | exact HR202_1.out)) | (with_reducible refine Kd.C_alloc ?_ _) | (with_reducible refine Kd.C_drewN ?_ _) | (with_reducible refine Kd.C_drew ?_)))
                (case side2 => exact HC202_1.out)
                (case side3 => repeat (first | exact (by repeat (first | (with_reducible exact HR203_1.out) | (with_reducible refine Kd.C_alloc ?_ _) | (with_reducible refine Kd.C_drewN ?_ _) | (with_reducible refine Kd.C_drew ?_) | exact HR203_1.out)) | (with_reducible refine Kd.C_alloc ?_ _) | (with_reducible refine Kd.C_drewN ?_ _) | (with_reducible refine Kd.C_drew ?_)))
                (case side4 => exact HC203_1.out)
                rintro e w' ⟨rfl, ⟨nd, rfl⟩⟩
                refine ⟨_, rfl, ?_⟩
                refine hK.out _ _ ⟨hHeld.1, hHeld.2.1, hHeld.2.2.1, hHeld.2.2.2⟩ (fun hHeld => ?_)
                clear hK K
                refine norm_ (a' := ?_) ?_ ?_
                rotate_left
                ·show Act.put _ (some 81) _ = _
                 simp only [Act.put, s1, s2, s3, i64_w, i32_w]
                 rfl
                refine pure_ (i := 15) (N := some 82) (v := ?_) (a' := ?_) #[true, true, true, true, true, true, true, true, true, true, true, true, true, true, true, true] rfl rfl (any_of HT_.out (by kernel_rfl)) (fun _ _ _ h => h) (Or.inl ⟨by rfl, ?_⟩) ?_ ?_
                rotate_left
                ·intro w'
                 go_simp
                 with_reducible rfl
                rotate_left
                ·simp only [Act.put, s1, s2, s3, i64_w, i32_w]
                 rfl
                refine done_ (done_of HT_.out (by kernel_rfl)) ?_
                try go_wp2
                (try simp only [← hl4_3])
                go_roundg k3
                case measure => have := HK1.out; have := HK2.out; have := HK3.out; omega
                case rel => exact ⟨(x4_3), (wrap64 (x10_2 + 1)), sz, H', ⟨by have := HK1.out; have := HK2.out; have := HK3.out; omega⟩, ⟨by (try simp only [hl4_3]); (with_reducible repeat (first | apply Kd.N_alloc | apply Kd.N_drewN | apply Kd.N_drew)); exact HO_4.out⟩, ⟨beQ HB⟩⟩
              ·rw [if_neg c56] at H
               exact absurd H (by simp)
             ·rw [if_neg c55] at H
              exact absurd H (by simp)
            ·rw [if_neg c53] at H
             exact absurd H (by simp)
           ·rw [if_neg c52] at H
            exact absurd H (by simp)
          ·rw [if_neg c51] at H
           have c51b0 : decide (0 < x11_3) = false := decide_eq_false c51
           clear c51
           have H' := Aside0.mk H
           clear H
           try go_wp2
           replace HO_4 := Aside0.mk (Kd.N_drew HO_4.out); replace HB := Aside0.mk (below_drew1 HB.out)
           refine start_ (n := 16) (S := fun w' => True) (ds := []) #[false, false, false, false, false, false, false, false, false, false, false, false, false, false, false, false] (by kernel_rfl) rfl rfl trivial (fun hHeld => ?_); refine with_tabW spec_AllAlphabets.tab23 spec_AllAlphabets.bits23 (fun HT_ HW_ => ?_)
           generalize wr.drew = w71 at HO_4 HB hHeld ⊢
           refine pure_ (i := 0) (N := some 67) (v := ?_) (a' := ?_) #[true, false, false, false, false, false, false, false, false, false, false, false, false, false, false, false] rfl rfl (any_of HT_.out (by kernel_rfl)) (fun _ _ _ h => h) (Or.inl ⟨by rfl, ?_⟩) ?_ ?_
           rotate_left
           ·intro w'
            go_simp
            with_reducible rfl
           rotate_left
           ·simp only [Act.put, s1, s2, s3, i64_w, i32_w]
            rfl
           refine pure_ (i := 1) (N := some 68) (v := ?_) (a' := ?_) #[true, true, false, false, false, false, false, false, false, false, false, false, false, false, false, false] rfl rfl (any_of HT_.out (by kernel_rfl)) (fun _ _ _ h => h) (Or.inl ⟨by rfl, ?_⟩) ?_ ?_
           rotate_left
           ·intro w'
            go_simp
            with_reducible rfl
           rotate_left
           ·simp only [Act.put, s1, s2, s3, i64_w, i32_w]
            rfl
           refine pure_ (i := 2) (N := some 69) (v := ?_) (a' := ?_) #[true, true, true, false, false, false, false, false, false, false, false, false, false, false, false, false] rfl rfl (any_of HT_.out (by kernel_rfl)) (fun _ _ _ h => h) (Or.inl ⟨by rfl, ?_⟩) ?_ ?_
           rotate_left
           ·intro w'
            go_simp
            with_reducible rfl
           rotate_left
           ·simp only [Act.put, s1, s2, s3, i64_w, i32_w]
            rfl
           refine pure_ (i := 3) (N := some 70) (v := undef) (a' := ?_) #[true, true, true, true, false, false, false, false, false, false, false, false, false, false, false, false] rfl rfl (any_of HT_.out (by kernel_rfl)) (fun _ _ _ h => h) (Or.inr ⟨by rfl, rfl⟩) ?_ ?_
           rotate_left
           ·simp only [Act.put, s1, s2, s3, i64_w, i32_w]
            rfl
           refine pure_ (i := 4) (N := some 71) (v := undef) (a' := ?_) #[true, true, true, true, true, false, false, false, false, false, false, false, false, false, false, false] rfl rfl (any_of HT_.out (by kernel_rfl)) (fun _ _ _ h => h) (Or.inr ⟨by rfl, rfl⟩) ?_ ?_
           rotate_left
           ·simp only [Act.put, s1, s2, s3, i64_w, i32_w]
            rfl
           refine pure_ (i := 5) (N := some 72) (v := undef) (a' := ?_) #[true, true, true, true, true, true, false, false, false, false, false, false, false, false, false, false] rfl rfl (any_of HT_.out (by kernel_rfl)) (fun _ _ _ h => h) (Or.inr ⟨by rfl, rfl⟩) ?_ ?_
           rotate_left
           ·simp only [Act.put, s1, s2, s3, i64_w, i32_w]
            rfl
           refine pure_ (i := 6) (N := some 73) (v := undef) (a' := ?_) #[true, true, true, true, true, true, true, false, false, false, false, false, false, false, false, false] rfl rfl (any_of HT_.out (by kernel_rfl)) (fun _ _ _ h => h) (Or.inr ⟨by rfl, rfl⟩) ?_ ?_
           rotate_left
           ·simp only [Act.put, s1, s2, s3, i64_w, i32_w]
            rfl
           refine pure_ (i := 7) (N := some 74) (v := undef) (a' := ?_) #[true, true, true, true, true, true, true, true, false, false, false, false, false, false, false, false] rfl rfl (any_of HT_.out (by kernel_rfl)) (fun _ _ _ h => h) (Or.inr ⟨by rfl, rfl⟩) ?_ ?_
           rotate_left
           ·simp only [Act.put, s1, s2, s3, i64_w, i32_w]
            rfl
           refine pure_ (i := 8) (N := some 75) (v := undef) (a' := ?_) #[true, true, true, true, true, true, true, true, true, false, false, false, false, false, false, false] rfl rfl (any_of HT_.out (by kernel_rfl)) (fun _ _ _ h => h) (Or.inr ⟨by rfl, rfl⟩) ?_ ?_
           rotate_left
           ·simp only [Act.put, s1, s2, s3, i64_w, i32_w]
            rfl
           refine pure_ (i := 9) (N := some 76) (v := undef) (a' := ?_) #[true, true, true, true, true, true, true, true, true, true, false, false, false, false, false, false] rfl rfl (any_of HT_.out (by kernel_rfl)) (fun _ _ _ h => h) (Or.inr ⟨by rfl, rfl⟩) ?_ ?_
           rotate_left
           ·simp only [Act.put, s1, s2, s3, i64_w, i32_w]
            rfl
           refine pure_ (i := 10) (N := some 77) (v := undef) (a' := ?_) #[true, true, true, true, true, true, true, true, true, true, true, false, false, false, false, false] rfl rfl (any_of HT_.out (by kernel_rfl)) (fun _ _ _ h => h) (Or.inr ⟨by rfl, rfl⟩) ?_ ?_
           rotate_left
           ·simp only [Act.put, s1, s2, s3, i64_w, i32_w]
            rfl
           refine pure_ (i := 11) (N := some 78) (v := undef) (a' := ?_) #[true, true, true, true, true, true, true, true, true, true, true, true, false, false, false, false] rfl rfl (any_of HT_.out (by kernel_rfl)) (fun _ _ _ h => h) (Or.inr ⟨by rfl, rfl⟩) ?_ ?_
           rotate_left
           ·simp only [Act.put, s1, s2, s3, i64_w, i32_w]
            rfl
           refine pure_ (i := 12) (N := some 79) (v := undef) (a' := ?_) #[true, true, true, true, true, true, true, true, true, true, true, true, true, false, false, false] rfl rfl (any_of HT_.out (by kernel_rfl)) (fun _ _ _ h => h) (Or.inr ⟨by rfl, rfl⟩) ?_ ?_
           rotate_left
           ·simp only [Act.put, s1, s2, s3, i64_w, i32_w]
            rfl
           refine pure_ (i := 13) (N := some 80) (v := undef) (a' := ?_) #[true, true, true, true, true, true, true, true, true, true, true, true, true, true, false, false] rfl rfl (any_of HT_.out (by kernel_rfl)) (fun _ _ _ h => h) (Or.inr ⟨by rfl, rfl⟩) ?_ ?_
           rotate_left
           ·simp only [Act.put, s1, s2, s3, i64_w, i32_w]
            rfl
           refine pure_ (i := 14) (N := some 81) (v := undef) (a' := ?_) #[true, true, true, true, true, true, true, true, true, true, true, true, true, true, true, false] rfl rfl (any_of HT_.out (by kernel_rfl)) (fun _ _ _ h => h) (Or.inr ⟨by rfl, rfl⟩) ?_ ?_
           rotate_left
           ·simp only [Act.put, s1, s2, s3, i64_w, i32_w]
            rfl
           refine pure_ (i := 15) (N := some 82) (v := ?_) (a' := ?_) #[true, true, true, true, true, true, true, true, true, true, true, true, true, true, true, true] rfl rfl (any_of HT_.out (by kernel_rfl)) (fun _ _ _ h => h) (Or.inl ⟨by rfl, ?_⟩) ?_ ?_
           rotate_left
           ·intro w'
            go_simp
            with_reducible rfl
           rotate_left
           ·simp only [Act.put, s1, s2, s3, i64_w, i32_w]
            rfl
           refine done_ (done_of HT_.out (by kernel_rfl)) ?_
           try go_wp2
           (try simp only [← hl4_3])
           go_roundg k3
           case measure => have := HK1.out; have := HK2.out; have := HK3.out; omega
           case rel => exact ⟨(x4_3), (wrap64 (x10_2 + 1)), sz, H', ⟨by have := HK1.out; have := HK2.out; have := HK3.out; omega⟩, ⟨by (try simp only [hl4_3]); (with_reducible repeat (first | apply Kd.N_alloc | apply Kd.N_drewN | apply Kd.N_drew)); exact HO_4.out⟩, ⟨beQ HB⟩⟩
       ·rw [if_neg c49] at H
        have c49b0 : decide (x10_2 < (x4_2.length : Int)) = false := decide_eq_false c49
        clear c49
        simp only [Option.some.injEq, Prod.mk.injEq] at H
        obtain ⟨rfl, rfl⟩ := H; obtain ⟨Ao72, co72, eo72⟩ := Kd.N_slice HO_4.out; subst eo72
        go_wp2
        go_ret2
        exact ⟨_, rz, by (with_reducible repeat (first | apply Kd.N_alloc | apply Kd.N_drewN | apply Kd.N_drew)); exact HO_4.out, beQ HB⟩
 ·replace c3 := Bool.eq_false_iff.mpr c3
  subst c3
  have H1 : (some (([] : List (S32)), 2)) = some (r1, r2) := by rw [if_neg (show ¬ (false = true) by decide)] at H; exact H
  clear H; have H := H1; clear H1
  simp only [Option.some.injEq, Prod.mk.injEq] at H
  obtain ⟨rfl, rfl⟩ := H
  go_enter Try.func4, Try.ntmps4
  go_wp2_with (first | ((with_reducible refine gate_callee (f := 9) rfl ?_); refine goesL_ (some 14) rfl rfl Try.func9 (by kernel_rfl) rfl #[.int .i64 a0, .int .i64 0, .int .i64 5] rfl lz ?_; (with_reducible refine (spec_l01In.calls a0 0 5 false _ A2.out).mono ?_); rintro e w' ⟨rfl, ⟨nd, rfl⟩⟩; refine ⟨_, rfl, ?_⟩))
  go_ret2
  exact ⟨_, rz, by first | exact Kd.S_nil _ _ _ _ _ | exact Kd.N_nil _ _ _ _ _ | exact Kd.V_nil _ _ _ _ _ | exact Kd.Q_nil _ _ _ _ _ | exact Kd.R_nil _ _ _ _ _, beQ HB⟩

end Go.Proofs.Ytjfdhkobaiplpaa.G
