/- How the program's functions compute, function by function: each is told by a plain Lean function of the same answers, under the condition that this one answers. Written by a program of this project over the seat's translation; Lean checks it. -/
import Derived.Test.YtdbdlhjhacbjoaaDoorG0
import Derived.Test.YtdbdlhjhacbjoaaDoorGQ11
import Derived.Test.YtdbdlhjhacbjoaaDoorGQ13
import Derived.Test.YtdbdlhjhacbjoaaDoorGQ15
import Derived.Test.YtdbdlhjhacbjoaaDoorGQ19a
import Derived.Test.YtdbdlhjhacbjoaaDoorGQ27
namespace Go.Proofs.YtdbdlhjhacbjoaaDoor.G
open Go.RowKit Go.Proofs.YtdbdlhjhacbjoaaDoorW.PrintWords Go.Proofs.YtdbdlhjhacbjoaaDoorW.PrintLast Go.Proofs.YtdbdlhjhacbjoaaDoorW.PrintMore
attribute [local go_sem] max2_int min2_int max_two min_two max_three min_three max_four min_four   -- for this text's walks alone
set_option linter.unusedVariables false
set_option linter.unusedSimpArgs false

/-! ### laws_FnExactFreeProduct: function 12 -/
mutual
def laws_FnExactFreeProduct.j0 : Nat → Int → Int → Bool → Int → List Int → Int → List Int → Int → List Int → Int → List Int → Int → List Int → Int → List Int → Option (Bool)
 | 0, _, _, _, _, _, _, _, _, _, _, _, _, _, _, _ => none
 | k + 1, x7, x11, x53, x870000, x870001, x871000, x871001, x887000, x887001, x892000, x892001, x897000, x897001, x903000, x903001 => if x53 = true then (some false) else ((laws_toAlphabet.f k x870000 x870001).bind fun bt904 => ((laws_eqAlphabet.f k x892000 x892001 bt904.1 bt904.2).bind fun t908 => (if t908 = true then ((laws_toAlphabet.f k x871000 x871001).bind fun bt909 => ((laws_eqAlphabet.f k x897000 x897001 bt909.1 bt909.2).bind fun t913 => (if t913 = true then ((laws_markAlphabet.f k x892000 x892001 1).bind fun bt914 => ((laws_markAlphabet.f k x897000 x897001 bt914.1).bind fun bt916 => (if bt916.1 < 0 then (laws_FnExactFreeProduct.j1 k x7 true x870000 x870001 x871000 x871001 x887000 x887001 x903000 x903001) else ((laws_eqAlphabet.f k x903000 x903001 x887000 x887001).bind fun t918 => (if t918 = true then (laws_FnExactFreeProduct.j1 k x7 (x11 != x7) x870000 x870001 x871000 x871001 x887000 x887001 x903000 x903001) else (laws_FnExactFreeProduct.j1 k x7 true x870000 x870001 x871000 x871001 x887000 x887001 x903000 x903001)))))) else (some false)))) else (some false))))
def laws_FnExactFreeProduct.j1 : Nat → Int → Bool → Int → List Int → Int → List Int → Int → List Int → Int → List Int → Option (Bool)
 | 0, _, _, _, _, _, _, _, _, _, _ => none
 | k + 1, x7, x82, x870000, x870001, x871000, x871001, x887000, x887001, x903000, x903001 => if x82 = true then (some false) else ((laws_markAlphabet.f k x903000 x903001 1).bind fun bt919 => ((laws_heldAlphabet.f k x903000 bt919.2 1).bind fun t921 => (if t921 < 0 then (some false) else (if t921 = bt919.1 then ((laws_toAlphabet.f k x870000 x870001).bind fun bt922 => ((laws_toAlphabet.f k x871000 x871001).bind fun bt926 => ((impl_FreeProduct.f k bt922.1 bt922.2 bt926.1 bt926.2).bind fun bt930 => ((laws_eqAlphabet.f k bt930.1 bt930.2.1 x887000 x887001).bind fun t936 => (if t936 = true then (laws_FnExactFreeProduct.j2 k bt919.1 (bt930.2.2 != x7) x903000 bt919.2) else (laws_FnExactFreeProduct.j2 k bt919.1 true x903000 bt919.2)))))) else (some false)))))
def laws_FnExactFreeProduct.j2 : Nat → Int → Bool → Int → List Int → Option (Bool)
 | 0, _, _, _, _ => none
 | k + 1, x13, x110, x903000, x903001 => if x110 = true then (some false) else ((laws_heldAlphabet.f k x903000 x903001 1).bind fun t937 => (if t937 < 0 then (some false) else (if t937 = x13 then (some true) else (some false))))
end
def laws_FnExactFreeProduct.f (k : Nat) (a0_0 : Int) (l0_1 : List Int) (a1_0 : Int) (l1_1 : List Int) : Option (Bool) := (laws_szAlphabet.f a0_0 l0_1 1048576).bind fun t871 => (if t871 < 0 then (some true) else ((laws_szAlphabet.f a1_0 l1_1 t871).bind fun t872 => (if t872 < 0 then (some true) else ((laws_toAlphabet.f k a0_0 l0_1).bind fun bt873 => ((laws_toAlphabet.f k a1_0 l1_1).bind fun bt877 => ((spec_FreeProduct.f k bt873.1 bt873.2 bt877.1 bt877.2).bind fun bt881 => ((laws_toAlphabet.f k a0_0 l0_1).bind fun bt887 => ((laws_toAlphabet.f k a1_0 l1_1).bind fun bt892 => ((impl_FreeProduct.f k bt887.1 bt887.2 bt892.1 bt892.2).bind fun bt897 => ((laws_eqAlphabet.f k bt897.1 bt897.2.1 bt881.1 bt881.2.1).bind fun t903 => (if t903 = true then (laws_FnExactFreeProduct.j0 k bt881.2.2 bt897.2.2 (bt897.2.2 != bt881.2.2) a0_0 l0_1 a1_0 l1_1 bt881.1 bt881.2.1 bt887.1 bt887.2 bt892.1 bt892.2 bt897.1 bt897.2.1) else (laws_FnExactFreeProduct.j0 k bt881.2.2 bt897.2.2 true a0_0 l0_1 a1_0 l1_1 bt881.1 bt881.2.1 bt887.1 bt887.2 bt892.1 bt892.2 bt897.1 bt897.2.1))))))))))))
theorem laws_FnExactFreeProduct.mono_l : ∀ k, (∀ y0 y1 y2 y3 y4 y5 y6 y7 y8 y9 y10 y11 y12 y13 y14, LeO (laws_FnExactFreeProduct.j0 k y0 y1 y2 y3 y4 y5 y6 y7 y8 y9 y10 y11 y12 y13 y14) (laws_FnExactFreeProduct.j0 (k + 1) y0 y1 y2 y3 y4 y5 y6 y7 y8 y9 y10 y11 y12 y13 y14)) ∧ (∀ y0 y1 y2 y3 y4 y5 y6 y7 y8 y9, LeO (laws_FnExactFreeProduct.j1 k y0 y1 y2 y3 y4 y5 y6 y7 y8 y9) (laws_FnExactFreeProduct.j1 (k + 1) y0 y1 y2 y3 y4 y5 y6 y7 y8 y9)) ∧ (∀ y0 y1 y2 y3, LeO (laws_FnExactFreeProduct.j2 k y0 y1 y2 y3) (laws_FnExactFreeProduct.j2 (k + 1) y0 y1 y2 y3))
 | 0 => ⟨fun _ _ _ _ _ _ _ _ _ _ _ _ _ _ _ r h => by simp [laws_FnExactFreeProduct.j0] at h, fun _ _ _ _ _ _ _ _ _ _ r h => by simp [laws_FnExactFreeProduct.j1] at h, fun _ _ _ _ r h => by simp [laws_FnExactFreeProduct.j2] at h⟩
 | k + 1 => by
  obtain ⟨ih0, ih1, ih2⟩ := laws_FnExactFreeProduct.mono_l k
  refine ⟨?_, ?_, ?_⟩
  ·intro y0 y1 y2 y3 y4 y5 y6 y7 y8 y9 y10 y11 y12 y13 y14
   unfold laws_FnExactFreeProduct.j0
   repeat' first
   | (with_reducible exact ih0 _ _ _ _ _ _ _ _ _ _ _ _ _ _ _)
   | (with_reducible exact ih1 _ _ _ _ _ _ _ _ _ _)
   | (with_reducible exact ih2 _ _ _ _)
   | (with_reducible exact impl_FreeProduct.mono _ _ _ _ _)
   | (with_reducible exact laws_eqAlphabet.mono _ _ _ _ _)
   | (with_reducible exact laws_heldAlphabet.mono _ _ _ _)
   | (with_reducible exact laws_markAlphabet.mono _ _ _ _)
   | (with_reducible exact laws_toAlphabet.mono _ _ _)
   | (with_reducible exact spec_FreeProduct.mono _ _ _ _ _)
   | (with_reducible exact LeO.refl _)
   | (with_reducible exact LeO.none _)
   | (with_reducible refine LeO.ite ?_ ?_)
   | (with_reducible refine LeO.bind ?_ (fun _ => ?_))
   | exact ih0 _ _ _ _ _ _ _ _ _ _ _ _ _ _ _
   | exact ih1 _ _ _ _ _ _ _ _ _ _
   | exact ih2 _ _ _ _
   | exact impl_FreeProduct.mono _ _ _ _ _
   | exact laws_eqAlphabet.mono _ _ _ _ _
   | exact laws_heldAlphabet.mono _ _ _ _
   | exact laws_markAlphabet.mono _ _ _ _
   | exact laws_toAlphabet.mono _ _ _
   | exact spec_FreeProduct.mono _ _ _ _ _
   | exact LeO.none _
   | refine LeO.ite ?_ ?_
   | refine LeO.bind ?_ (fun _ => ?_)
  ·intro y0 y1 y2 y3 y4 y5 y6 y7 y8 y9
   unfold laws_FnExactFreeProduct.j1
   repeat' first
   | (with_reducible exact ih0 _ _ _ _ _ _ _ _ _ _ _ _ _ _ _)
   | (with_reducible exact ih1 _ _ _ _ _ _ _ _ _ _)
   | (with_reducible exact ih2 _ _ _ _)
   | (with_reducible exact impl_FreeProduct.mono _ _ _ _ _)
   | (with_reducible exact laws_eqAlphabet.mono _ _ _ _ _)
   | (with_reducible exact laws_heldAlphabet.mono _ _ _ _)
   | (with_reducible exact laws_markAlphabet.mono _ _ _ _)
   | (with_reducible exact laws_toAlphabet.mono _ _ _)
   | (with_reducible exact spec_FreeProduct.mono _ _ _ _ _)
   | (with_reducible exact LeO.refl _)
   | (with_reducible exact LeO.none _)
   | (with_reducible refine LeO.ite ?_ ?_)
   | (with_reducible refine LeO.bind ?_ (fun _ => ?_))
   | exact ih0 _ _ _ _ _ _ _ _ _ _ _ _ _ _ _
   | exact ih1 _ _ _ _ _ _ _ _ _ _
   | exact ih2 _ _ _ _
   | exact impl_FreeProduct.mono _ _ _ _ _
   | exact laws_eqAlphabet.mono _ _ _ _ _
   | exact laws_heldAlphabet.mono _ _ _ _
   | exact laws_markAlphabet.mono _ _ _ _
   | exact laws_toAlphabet.mono _ _ _
   | exact spec_FreeProduct.mono _ _ _ _ _
   | exact LeO.none _
   | refine LeO.ite ?_ ?_
   | refine LeO.bind ?_ (fun _ => ?_)
  ·intro y0 y1 y2 y3
   unfold laws_FnExactFreeProduct.j2
   repeat' first
   | (with_reducible exact ih0 _ _ _ _ _ _ _ _ _ _ _ _ _ _ _)
   | (with_reducible exact ih1 _ _ _ _ _ _ _ _ _ _)
   | (with_reducible exact ih2 _ _ _ _)
   | (with_reducible exact impl_FreeProduct.mono _ _ _ _ _)
   | (with_reducible exact laws_eqAlphabet.mono _ _ _ _ _)
   | (with_reducible exact laws_heldAlphabet.mono _ _ _ _)
   | (with_reducible exact laws_markAlphabet.mono _ _ _ _)
   | (with_reducible exact laws_toAlphabet.mono _ _ _)
   | (with_reducible exact spec_FreeProduct.mono _ _ _ _ _)
   | (with_reducible exact LeO.refl _)
   | (with_reducible exact LeO.none _)
   | (with_reducible refine LeO.ite ?_ ?_)
   | (with_reducible refine LeO.bind ?_ (fun _ => ?_))
   | exact ih0 _ _ _ _ _ _ _ _ _ _ _ _ _ _ _
   | exact ih1 _ _ _ _ _ _ _ _ _ _
   | exact ih2 _ _ _ _
   | exact impl_FreeProduct.mono _ _ _ _ _
   | exact laws_eqAlphabet.mono _ _ _ _ _
   | exact laws_heldAlphabet.mono _ _ _ _
   | exact laws_markAlphabet.mono _ _ _ _
   | exact laws_toAlphabet.mono _ _ _
   | exact spec_FreeProduct.mono _ _ _ _ _
   | exact LeO.none _
   | refine LeO.ite ?_ ?_
   | refine LeO.bind ?_ (fun _ => ?_)
theorem laws_FnExactFreeProduct.mono : ∀ a0 a1 a2 a3 k, LeO (laws_FnExactFreeProduct.f k a0 a1 a2 a3) (laws_FnExactFreeProduct.f (k + 1) a0 a1 a2 a3) := by
 intro a0 a1 a2 a3 k
 obtain ⟨ih0, ih1, ih2⟩ := laws_FnExactFreeProduct.mono_l k
 unfold laws_FnExactFreeProduct.f
 repeat' first
   | (with_reducible exact ih0 _ _ _ _ _ _ _ _ _ _ _ _ _ _ _)
   | (with_reducible exact ih1 _ _ _ _ _ _ _ _ _ _)
   | (with_reducible exact ih2 _ _ _ _)
   | (with_reducible exact impl_FreeProduct.mono _ _ _ _ _)
   | (with_reducible exact laws_eqAlphabet.mono _ _ _ _ _)
   | (with_reducible exact laws_heldAlphabet.mono _ _ _ _)
   | (with_reducible exact laws_markAlphabet.mono _ _ _ _)
   | (with_reducible exact laws_toAlphabet.mono _ _ _)
   | (with_reducible exact spec_FreeProduct.mono _ _ _ _ _)
   | (with_reducible exact LeO.refl _)
   | (with_reducible exact LeO.none _)
   | (with_reducible refine LeO.ite ?_ ?_)
   | (with_reducible refine LeO.bind ?_ (fun _ => ?_))
   | exact ih0 _ _ _ _ _ _ _ _ _ _ _ _ _ _ _
   | exact ih1 _ _ _ _ _ _ _ _ _ _
   | exact ih2 _ _ _ _
   | exact impl_FreeProduct.mono _ _ _ _ _
   | exact laws_eqAlphabet.mono _ _ _ _ _
   | exact laws_heldAlphabet.mono _ _ _ _
   | exact laws_markAlphabet.mono _ _ _ _
   | exact laws_toAlphabet.mono _ _ _
   | exact spec_FreeProduct.mono _ _ _ _ _
   | exact LeO.none _
   | refine LeO.ite ?_ ?_
   | refine LeO.bind ?_ (fun _ => ?_)
def laws_FnExactFreeProduct.T8 : Bool × List (List Nat × List Nat) := (true, [([], []), ([0], [0]), ([], []), ([2, 1], [2]), ([1, 3, 3], [1, 3]), ([4], [4]), ([5], [5]), ([5], [5]), ([], []), ([8, 6, 4, 0, 1, 2, 3, 4, 5, 6, 8], [6, 8]), ([7, 9, 0, 1, 2, 3, 4, 5, 6, 7, 8, 9], [7])])
def laws_FnExactFreeProduct.B8 : List Nat := [0, 1, 0, 7, 15, 31, 63, 63, 0, 383, 1023]
theorem laws_FnExactFreeProduct.tab8 : rtab .any (opsOf Tryd.f12 8) = laws_FnExactFreeProduct.T8 := by kernel_rfl
theorem laws_FnExactFreeProduct.bits8 : waitsOk laws_FnExactFreeProduct.T8.2 laws_FnExactFreeProduct.B8 = true := by kernel_rfl
def laws_FnExactFreeProduct.T31 : Bool × List (List Nat × List Nat) := (true, [([], []), ([0], [0]), ([], []), ([2, 1], [2]), ([1, 3, 3], [1, 3]), ([4], [4]), ([5], [5]), ([5], [5]), ([], []), ([8, 6, 4, 0, 1, 2, 3, 4, 5, 6, 8], [6, 8]), ([7, 9, 0, 1, 2, 3, 4, 5, 6, 7, 8, 9], [7])])
def laws_FnExactFreeProduct.B31 : List Nat := [0, 1, 0, 7, 15, 31, 63, 63, 0, 383, 1023]
theorem laws_FnExactFreeProduct.tab31 : rtab .any (opsOf Tryd.f12 31) = laws_FnExactFreeProduct.T31 := by kernel_rfl
theorem laws_FnExactFreeProduct.bits31 : waitsOk laws_FnExactFreeProduct.T31.2 laws_FnExactFreeProduct.B31 = true := by kernel_rfl
set_option maxHeartbeats 8000000 in
set_option maxRecDepth 100000 in
theorem laws_FnExactFreeProduct.calls (k : Nat) (a0_0 : Int) (A0_1 : Option Addr) (c0_1 : Nat) (l0_1 : List Int) (a1_0 : Int) (A1_1 : Option Addr) (c1_1 : Nat) (l1_1 : List Int) (r : Bool) (w : World) (hr0_1 : Kd.C (Kd.int .i64) w A0_1 l0_1.length l0_1) (hc0_1 : l0_1.length ≤ c0_1) (hr1_1 : Kd.C (Kd.int .i64) w A1_1 l1_1.length l1_1) (hc1_1 : l1_1.length ≤ c1_1) (hT : TabW w) (h : laws_FnExactFreeProduct.f k a0_0 l0_1 a1_0 l1_1 = some r) :
  Calls Tryd.prog 12 #[.agg #[.int .i64 a0_0, .slice A0_1 l0_1.length c0_1], .agg #[.int .i64 a1_0, .slice A1_1 l1_1.length c1_1]] w fun e w' => e = .returned (.bool r) ∧ Below w.heap.size w w' := by
 have hu46 := Tryd.underlying46; have hu38 := Tryd.underlying38; have HT := Aside0.mk hT; clear hT; have HR0_1 := Aside0.mk hr0_1; have HC0_1 := Aside0.mk hc0_1; clear hr0_1 hc0_1; have HR1_1 := Aside0.mk hr1_1; have HC1_1 := Aside0.mk hc1_1; clear hr1_1 hc1_1; have HB := Aside0.mk (Below.refl w.heap.size w)
 have H : ((laws_szAlphabet.f a0_0 l0_1 1048576).bind fun t871 => (if t871 < 0 then (some true) else ((laws_szAlphabet.f a1_0 l1_1 t871).bind fun t872 => (if t872 < 0 then (some true) else ((laws_toAlphabet.f k a0_0 l0_1).bind fun bt873 => ((laws_toAlphabet.f k a1_0 l1_1).bind fun bt877 => ((spec_FreeProduct.f k bt873.1 bt873.2 bt877.1 bt877.2).bind fun bt881 => ((laws_toAlphabet.f k a0_0 l0_1).bind fun bt887 => ((laws_toAlphabet.f k a1_0 l1_1).bind fun bt892 => ((impl_FreeProduct.f k bt887.1 bt887.2 bt892.1 bt892.2).bind fun bt897 => ((laws_eqAlphabet.f k bt897.1 bt897.2.1 bt881.1 bt881.2.1).bind fun t903 => (if t903 = true then (laws_FnExactFreeProduct.j0 k bt881.2.2 bt897.2.2 (bt897.2.2 != bt881.2.2) a0_0 l0_1 a1_0 l1_1 bt881.1 bt881.2.1 bt887.1 bt887.2 bt892.1 bt892.2 bt897.1 bt897.2.1) else (laws_FnExactFreeProduct.j0 k bt881.2.2 bt897.2.2 true a0_0 l0_1 a1_0 l1_1 bt881.1 bt881.2.1 bt887.1 bt887.2 bt892.1 bt892.2 bt897.1 bt897.2.1))))))))))))) = some r := h
 clear h; replace H := Option.bind_eq_some_iff.mp H; obtain ⟨t871, A30, H⟩ := H
 replace H : (if t871 < 0 then (some true) else ((laws_szAlphabet.f a1_0 l1_1 t871).bind fun t872 => (if t872 < 0 then (some true) else ((laws_toAlphabet.f k a0_0 l0_1).bind fun bt873 => ((laws_toAlphabet.f k a1_0 l1_1).bind fun bt877 => ((spec_FreeProduct.f k bt873.1 bt873.2 bt877.1 bt877.2).bind fun bt881 => ((laws_toAlphabet.f k a0_0 l0_1).bind fun bt887 => ((laws_toAlphabet.f k a1_0 l1_1).bind fun bt892 => ((impl_FreeProduct.f k bt887.1 bt887.2 bt892.1 bt892.2).bind fun bt897 => ((laws_eqAlphabet.f k bt897.1 bt897.2.1 bt881.1 bt881.2.1).bind fun t903 => (if t903 = true then (laws_FnExactFreeProduct.j0 k bt881.2.2 bt897.2.2 (bt897.2.2 != bt881.2.2) a0_0 l0_1 a1_0 l1_1 bt881.1 bt881.2.1 bt887.1 bt887.2 bt892.1 bt892.2 bt897.1 bt897.2.1) else (laws_FnExactFreeProduct.j0 k bt881.2.2 bt897.2.2 true a0_0 l0_1 a1_0 l1_1 bt881.1 bt881.2.1 bt887.1 bt887.2 bt892.1 bt892.2 bt897.1 bt897.2.1)))))))))))) = some r := H
 have A3 := Aside0.mk A30; clear A30
 by_cases c4 : t871 < 0
 ·rw [if_pos c4] at H
  have c4b0 : decide (t871 < 0) = true := decide_eq_true c4
  clear c4
  obtain rfl := Option.some.inj H
  go_enter Tryd.func12, Tryd.ntmps12
  go_wp2_with (first | ((with_reducible refine gate_dst (N := 2) rfl ?_); refine box_event ?hg (N := 2) ?hd (cs := #[.int .i64 a0_0, .slice A0_1 l0_1.length c0_1]) (t := 46) ?hr ?_; (case hd => rfl); (case hg => rfl); (case hr => first | (go_simp; done) | (go_simp; rfl)); intro gb869 hg w5 hbox hb; have BK869 := Aside0.mk (hbox); have GW869 := Aside0.mk ((by rw [hg]; exact (below_size (beQ HB)) : w.heap.size ≤ gb869)); have GE869 := Aside0.mk ((by rw [hg]; exact (below_size (beQ HB)) : w.heap.size ≤ gb869)); replace HB := Aside0.mk (below_step (beQ HB) hb); clear hb hbox hg) | ((with_reducible refine gate_dst (N := 3) rfl ?_); refine box_event ?hg (N := 3) ?hd (cs := #[.int .i64 a1_0, .slice A1_1 l1_1.length c1_1]) (t := 46) ?hr ?_; (case hd => rfl); (case hg => rfl); (case hr => first | (go_simp; done) | (go_simp; rfl)); intro gb870 hg w6 hbox hb; have BK870 := Aside0.mk (hbox); have GW870 := Aside0.mk ((by rw [hg]; exact (below_size (beQ HB)) : w.heap.size ≤ gb870)); have GE870 := Aside0.mk ((by rw [hg]; exact (below_size (beQ HB)) : w.heap.size ≤ gb870)); replace HB := Aside0.mk (below_step (beQ HB) hb); have NB869_870 := Aside0.mk ((by rw [hg]; exact Nat.ne_of_lt (blk_lt (blkQ BK869)) : gb869 ≠ gb870)); have NB870_869 := Aside0.mk ((by rw [hg]; exact Nat.ne_of_gt (blk_lt (blkQ BK869)) : gb870 ≠ gb869)); replace BK869 := bb BK869 hb; clear hb hbox hg; have hnb7 := NB869_870.out; have hnc7 := NB870_869.out; have hcz8_0 : w6.cell? ⟨gb869, 0, none⟩ = some (.int .i64 a0_0) := bc BK869 0; have hcz8_1 : w6.cell? ⟨gb869, 1, none⟩ = some (.slice A0_1 l0_1.length c0_1) := bc BK869 1; have hfz8_0 := blk_frozen BK869.out 0; have hfz8_1 := blk_frozen BK869.out 1) | ((with_reducible refine gate_callee (f := 35) rfl ?_); refine goesL_ (some 19) rfl rfl Tryd.func35 (by kernel_rfl) rfl #[.agg #[.int .i64 a0_0, .slice A0_1 l0_1.length c0_1], .int .i64 1048576] rfl lz ?_; (with_reducible refine (laws_szAlphabet.calls a0_0 _ _ l0_1 1048576 t871 _ ?side1 ?side2 A3.out).mono ?_); (case side1 => have q_ := Aside0.mk (Kd.C_below HR0_1.out HB.out); exact cQ q_); (case side2 => exact HC0_1.out); rintro e w9 ⟨rfl, hb⟩; refine ⟨_, rfl, ?_⟩; replace BK869 := bb BK869 hb; replace BK870 := bb BK870 hb; replace HB := Aside0.mk (below_step (beQ HB) hb); (try clear hb); (try clear hb2); (try clear hk); (try clear hi)))
  go_ret
  exact ⟨rz, beQ HB⟩
 ·rw [if_neg c4] at H
  have c4b0 : decide (t871 < 0) = false := decide_eq_false c4
  clear c4; replace H := Option.bind_eq_some_iff.mp H; obtain ⟨t872, A100, H⟩ := H
  replace H : (if t872 < 0 then (some true) else ((laws_toAlphabet.f k a0_0 l0_1).bind fun bt873 => ((laws_toAlphabet.f k a1_0 l1_1).bind fun bt877 => ((spec_FreeProduct.f k bt873.1 bt873.2 bt877.1 bt877.2).bind fun bt881 => ((laws_toAlphabet.f k a0_0 l0_1).bind fun bt887 => ((laws_toAlphabet.f k a1_0 l1_1).bind fun bt892 => ((impl_FreeProduct.f k bt887.1 bt887.2 bt892.1 bt892.2).bind fun bt897 => ((laws_eqAlphabet.f k bt897.1 bt897.2.1 bt881.1 bt881.2.1).bind fun t903 => (if t903 = true then (laws_FnExactFreeProduct.j0 k bt881.2.2 bt897.2.2 (bt897.2.2 != bt881.2.2) a0_0 l0_1 a1_0 l1_1 bt881.1 bt881.2.1 bt887.1 bt887.2 bt892.1 bt892.2 bt897.1 bt897.2.1) else (laws_FnExactFreeProduct.j0 k bt881.2.2 bt897.2.2 true a0_0 l0_1 a1_0 l1_1 bt881.1 bt881.2.1 bt887.1 bt887.2 bt892.1 bt892.2 bt897.1 bt897.2.1)))))))))) = some r := H
  have A10 := Aside0.mk A100; clear A100
  by_cases c11 : t872 < 0
  ·rw [if_pos c11] at H
   have c11b0 : decide (t872 < 0) = true := decide_eq_true c11
   clear c11
   obtain rfl := Option.some.inj H
   go_enter Tryd.func12, Tryd.ntmps12
   go_wp2_with (first | ((with_reducible refine gate_dst (N := 2) rfl ?_); refine box_event ?hg (N := 2) ?hd (cs := #[.int .i64 a0_0, .slice A0_1 l0_1.length c0_1]) (t := 46) ?hr ?_; (case hd => rfl); (case hg => rfl); (case hr => first | (go_simp; done) | (go_simp; rfl)); intro gb869 hg w12 hbox hb; have BK869 := Aside0.mk (hbox); have GW869 := Aside0.mk ((by rw [hg]; exact (below_size (beQ HB)) : w.heap.size ≤ gb869)); have GE869 := Aside0.mk ((by rw [hg]; exact (below_size (beQ HB)) : w.heap.size ≤ gb869)); replace HB := Aside0.mk (below_step (beQ HB) hb); clear hb hbox hg) | ((with_reducible refine gate_dst (N := 3) rfl ?_); refine box_event ?hg (N := 3) ?hd (cs := #[.int .i64 a1_0, .slice A1_1 l1_1.length c1_1]) (t := 46) ?hr ?_; (case hd => rfl); (case hg => rfl); (case hr => first | (go_simp; done) | (go_simp; rfl)); intro gb870 hg w13 hbox hb; have BK870 := Aside0.mk (hbox); have GW870 := Aside0.mk ((by rw [hg]; exact (below_size (beQ HB)) : w.heap.size ≤ gb870)); have GE870 := Aside0.mk ((by rw [hg]; exact (below_size (beQ HB)) : w.heap.size ≤ gb870)); replace HB := Aside0.mk (below_step (beQ HB) hb); have NB869_870 := Aside0.mk ((by rw [hg]; exact Nat.ne_of_lt (blk_lt (blkQ BK869)) : gb869 ≠ gb870)); have NB870_869 := Aside0.mk ((by rw [hg]; exact Nat.ne_of_gt (blk_lt (blkQ BK869)) : gb870 ≠ gb869)); replace BK869 := bb BK869 hb; clear hb hbox hg; have hnb14 := NB869_870.out; have hnc14 := NB870_869.out; have hcz15_0 : w13.cell? ⟨gb869, 0, none⟩ = some (.int .i64 a0_0) := bc BK869 0; have hcz15_1 : w13.cell? ⟨gb869, 1, none⟩ = some (.slice A0_1 l0_1.length c0_1) := bc BK869 1; have hfz15_0 := blk_frozen BK869.out 0; have hfz15_1 := blk_frozen BK869.out 1) | ((with_reducible refine gate_callee (f := 35) rfl ?_); refine goesL_ (some 19) rfl rfl Tryd.func35 (by kernel_rfl) rfl #[.agg #[.int .i64 a0_0, .slice A0_1 l0_1.length c0_1], .int .i64 1048576] rfl lz ?_; (with_reducible refine (laws_szAlphabet.calls a0_0 _ _ l0_1 1048576 t871 _ ?side1 ?side2 A3.out).mono ?_); (case side1 => have q_ := Aside0.mk (Kd.C_below HR0_1.out HB.out); exact cQ q_); (case side2 => exact HC0_1.out); rintro e w16 ⟨rfl, hb⟩; refine ⟨_, rfl, ?_⟩; replace BK869 := bb BK869 hb; replace BK870 := bb BK870 hb; replace HB := Aside0.mk (below_step (beQ HB) hb); (try clear hb); (try clear hb2); (try clear hk); (try clear hi); have hcz17_0 : w16.cell? ⟨gb870, 0, none⟩ = some (.int .i64 a1_0) := bc BK870 0; have hcz17_1 : w16.cell? ⟨gb870, 1, none⟩ = some (.slice A1_1 l1_1.length c1_1) := bc BK870 1; have hfz17_0 := blk_frozen BK870.out 0; have hfz17_1 := blk_frozen BK870.out 1) | ((with_reducible refine gate_callee (f := 35) rfl ?_); refine goesL_ (some 24) rfl rfl Tryd.func35 (by kernel_rfl) rfl #[.agg #[.int .i64 a1_0, .slice A1_1 l1_1.length c1_1], .int .i64 t871] rfl lz ?_; (with_reducible refine (laws_szAlphabet.calls a1_0 _ _ l1_1 t871 t872 _ ?side1 ?side2 A10.out).mono ?_); (case side1 => have q_ := Aside0.mk (Kd.C_below HR1_1.out HB.out); exact cQ q_); (case side2 => exact HC1_1.out); rintro e w18 ⟨rfl, hb⟩; refine ⟨_, rfl, ?_⟩; replace BK869 := bb BK869 hb; replace BK870 := bb BK870 hb; replace HB := Aside0.mk (below_step (beQ HB) hb); (try clear hb); (try clear hb2); (try clear hk); (try clear hi)))
   go_ret
   exact ⟨rz, beQ HB⟩
  ·rw [if_neg c11] at H
   have c11b0 : decide (t872 < 0) = false := decide_eq_false c11
   clear c11; replace H := Option.bind_eq_some_iff.mp H
   obtain ⟨⟨t873, t874⟩, A190, H⟩ := H
   replace H : ((laws_toAlphabet.f k a1_0 l1_1).bind fun bt877 => ((spec_FreeProduct.f k t873 t874 bt877.1 bt877.2).bind fun bt881 => ((laws_toAlphabet.f k a0_0 l0_1).bind fun bt887 => ((laws_toAlphabet.f k a1_0 l1_1).bind fun bt892 => ((impl_FreeProduct.f k bt887.1 bt887.2 bt892.1 bt892.2).bind fun bt897 => ((laws_eqAlphabet.f k bt897.1 bt897.2.1 bt881.1 bt881.2.1).bind fun t903 => (if t903 = true then (laws_FnExactFreeProduct.j0 k bt881.2.2 bt897.2.2 (bt897.2.2 != bt881.2.2) a0_0 l0_1 a1_0 l1_1 bt881.1 bt881.2.1 bt887.1 bt887.2 bt892.1 bt892.2 bt897.1 bt897.2.1) else (laws_FnExactFreeProduct.j0 k bt881.2.2 bt897.2.2 true a0_0 l0_1 a1_0 l1_1 bt881.1 bt881.2.1 bt887.1 bt887.2 bt892.1 bt892.2 bt897.1 bt897.2.1)))))))) = some r := H
   have A19 := Aside0.mk A190; clear A190; replace H := Option.bind_eq_some_iff.mp H
   obtain ⟨⟨t877, t878⟩, A200, H⟩ := H
   replace H : ((spec_FreeProduct.f k t873 t874 t877 t878).bind fun bt881 => ((laws_toAlphabet.f k a0_0 l0_1).bind fun bt887 => ((laws_toAlphabet.f k a1_0 l1_1).bind fun bt892 => ((impl_FreeProduct.f k bt887.1 bt887.2 bt892.1 bt892.2).bind fun bt897 => ((laws_eqAlphabet.f k bt897.1 bt897.2.1 bt881.1 bt881.2.1).bind fun t903 => (if t903 = true then (laws_FnExactFreeProduct.j0 k bt881.2.2 bt897.2.2 (bt897.2.2 != bt881.2.2) a0_0 l0_1 a1_0 l1_1 bt881.1 bt881.2.1 bt887.1 bt887.2 bt892.1 bt892.2 bt897.1 bt897.2.1) else (laws_FnExactFreeProduct.j0 k bt881.2.2 bt897.2.2 true a0_0 l0_1 a1_0 l1_1 bt881.1 bt881.2.1 bt887.1 bt887.2 bt892.1 bt892.2 bt897.1 bt897.2.1))))))) = some r := H
   have A20 := Aside0.mk A200; clear A200; replace H := Option.bind_eq_some_iff.mp H
   obtain ⟨⟨t881, t882, t885⟩, A210, H⟩ := H
   replace H : ((laws_toAlphabet.f k a0_0 l0_1).bind fun bt887 => ((laws_toAlphabet.f k a1_0 l1_1).bind fun bt892 => ((impl_FreeProduct.f k bt887.1 bt887.2 bt892.1 bt892.2).bind fun bt897 => ((laws_eqAlphabet.f k bt897.1 bt897.2.1 t881 t882).bind fun t903 => (if t903 = true then (laws_FnExactFreeProduct.j0 k t885 bt897.2.2 (bt897.2.2 != t885) a0_0 l0_1 a1_0 l1_1 t881 t882 bt887.1 bt887.2 bt892.1 bt892.2 bt897.1 bt897.2.1) else (laws_FnExactFreeProduct.j0 k t885 bt897.2.2 true a0_0 l0_1 a1_0 l1_1 t881 t882 bt887.1 bt887.2 bt892.1 bt892.2 bt897.1 bt897.2.1)))))) = some r := H
   have A21 := Aside0.mk A210; clear A210; replace H := Option.bind_eq_some_iff.mp H
   obtain ⟨⟨t887, t888⟩, A220, H⟩ := H
   replace H : ((laws_toAlphabet.f k a1_0 l1_1).bind fun bt892 => ((impl_FreeProduct.f k t887 t888 bt892.1 bt892.2).bind fun bt897 => ((laws_eqAlphabet.f k bt897.1 bt897.2.1 t881 t882).bind fun t903 => (if t903 = true then (laws_FnExactFreeProduct.j0 k t885 bt897.2.2 (bt897.2.2 != t885) a0_0 l0_1 a1_0 l1_1 t881 t882 t887 t888 bt892.1 bt892.2 bt897.1 bt897.2.1) else (laws_FnExactFreeProduct.j0 k t885 bt897.2.2 true a0_0 l0_1 a1_0 l1_1 t881 t882 t887 t888 bt892.1 bt892.2 bt897.1 bt897.2.1))))) = some r := H
   have A22 := Aside0.mk A220; clear A220; replace H := Option.bind_eq_some_iff.mp H
   obtain ⟨⟨t892, t893⟩, A230, H⟩ := H
   replace H : ((impl_FreeProduct.f k t887 t888 t892 t893).bind fun bt897 => ((laws_eqAlphabet.f k bt897.1 bt897.2.1 t881 t882).bind fun t903 => (if t903 = true then (laws_FnExactFreeProduct.j0 k t885 bt897.2.2 (bt897.2.2 != t885) a0_0 l0_1 a1_0 l1_1 t881 t882 t887 t888 t892 t893 bt897.1 bt897.2.1) else (laws_FnExactFreeProduct.j0 k t885 bt897.2.2 true a0_0 l0_1 a1_0 l1_1 t881 t882 t887 t888 t892 t893 bt897.1 bt897.2.1)))) = some r := H
   have A23 := Aside0.mk A230; clear A230; replace H := Option.bind_eq_some_iff.mp H
   obtain ⟨⟨t897, t898, t901⟩, A240, H⟩ := H
   replace H : ((laws_eqAlphabet.f k t897 t898 t881 t882).bind fun t903 => (if t903 = true then (laws_FnExactFreeProduct.j0 k t885 t901 (t901 != t885) a0_0 l0_1 a1_0 l1_1 t881 t882 t887 t888 t892 t893 t897 t898) else (laws_FnExactFreeProduct.j0 k t885 t901 true a0_0 l0_1 a1_0 l1_1 t881 t882 t887 t888 t892 t893 t897 t898))) = some r := H
   have A24 := Aside0.mk A240; clear A240; have HC25 := Aside0.mk H; clear H
   go_enter Tryd.func12, Tryd.ntmps12
   try go_wp2_with (first | ((with_reducible refine gate_dst (N := 2) rfl ?_); refine box_event ?hg (N := 2) ?hd (cs := #[.int .i64 a0_0, .slice A0_1 l0_1.length c0_1]) (t := 46) ?hr ?_; (case hd => rfl); (case hg => rfl); (case hr => first | (go_simp; done) | (go_simp; rfl)); intro gb869 hg w26 hbox hb; have BK869 := Aside0.mk (hbox); have GW869 := Aside0.mk ((by rw [hg]; exact (below_size (beQ HB)) : w.heap.size ≤ gb869)); have GE869 := Aside0.mk ((by rw [hg]; exact (below_size (beQ HB)) : w.heap.size ≤ gb869)); replace HB := Aside0.mk (below_step (beQ HB) hb); clear hb hbox hg) | ((with_reducible refine gate_dst (N := 3) rfl ?_); refine box_event ?hg (N := 3) ?hd (cs := #[.int .i64 a1_0, .slice A1_1 l1_1.length c1_1]) (t := 46) ?hr ?_; (case hd => rfl); (case hg => rfl); (case hr => first | (go_simp; done) | (go_simp; rfl)); intro gb870 hg w27 hbox hb; have BK870 := Aside0.mk (hbox); have GW870 := Aside0.mk ((by rw [hg]; exact (below_size (beQ HB)) : w.heap.size ≤ gb870)); have GE870 := Aside0.mk ((by rw [hg]; exact (below_size (beQ HB)) : w.heap.size ≤ gb870)); replace HB := Aside0.mk (below_step (beQ HB) hb); have NB869_870 := Aside0.mk ((by rw [hg]; exact Nat.ne_of_lt (blk_lt (blkQ BK869)) : gb869 ≠ gb870)); have NB870_869 := Aside0.mk ((by rw [hg]; exact Nat.ne_of_gt (blk_lt (blkQ BK869)) : gb870 ≠ gb869)); replace BK869 := bb BK869 hb; clear hb hbox hg; have hnb28 := NB869_870.out; have hnc28 := NB870_869.out; have hcz29_0 : w27.cell? ⟨gb869, 0, none⟩ = some (.int .i64 a0_0) := bc BK869 0; have hcz29_1 : w27.cell? ⟨gb869, 1, none⟩ = some (.slice A0_1 l0_1.length c0_1) := bc BK869 1; have hfz29_0 := blk_frozen BK869.out 0; have hfz29_1 := blk_frozen BK869.out 1) | ((with_reducible refine gate_callee (f := 35) rfl ?_); refine goesL_ (some 19) rfl rfl Tryd.func35 (by kernel_rfl) rfl #[.agg #[.int .i64 a0_0, .slice A0_1 l0_1.length c0_1], .int .i64 1048576] rfl lz ?_; (with_reducible refine (laws_szAlphabet.calls a0_0 _ _ l0_1 1048576 t871 _ ?side1 ?side2 A3.out).mono ?_); (case side1 => have q_ := Aside0.mk (Kd.C_below HR0_1.out HB.out); exact cQ q_); (case side2 => exact HC0_1.out); rintro e w30 ⟨rfl, hb⟩; refine ⟨_, rfl, ?_⟩; replace BK869 := bb BK869 hb; replace BK870 := bb BK870 hb; replace HB := Aside0.mk (below_step (beQ HB) hb); (try clear hb); (try clear hb2); (try clear hk); (try clear hi); have hcz31_0 : w30.cell? ⟨gb870, 0, none⟩ = some (.int .i64 a1_0) := bc BK870 0; have hcz31_1 : w30.cell? ⟨gb870, 1, none⟩ = some (.slice A1_1 l1_1.length c1_1) := bc BK870 1; have hfz31_0 := blk_frozen BK870.out 0; have hfz31_1 := blk_frozen BK870.out 1) | ((with_reducible refine gate_callee (f := 35) rfl ?_); refine goesL_ (some 24) rfl rfl Tryd.func35 (by kernel_rfl) rfl #[.agg #[.int .i64 a1_0, .slice A1_1 l1_1.length c1_1], .int .i64 t871] rfl lz ?_; (with_reducible refine (laws_szAlphabet.calls a1_0 _ _ l1_1 t871 t872 _ ?side1 ?side2 A10.out).mono ?_); (case side1 => have q_ := Aside0.mk (Kd.C_below HR1_1.out HB.out); exact cQ q_); (case side2 => exact HC1_1.out); rintro e w32 ⟨rfl, hb⟩; refine ⟨_, rfl, ?_⟩; replace BK869 := bb BK869 hb; replace BK870 := bb BK870 hb; replace HB := Aside0.mk (below_step (beQ HB) hb); (try clear hb); (try clear hb2); (try clear hk); (try clear hi)))
   replace BK869 := Aside0.mk (blk_drew BK869.out); replace BK870 := Aside0.mk (blk_drew BK870.out); replace HB := Aside0.mk (below_drew1 HB.out)
   refine start_ (n := 11) (S := fun w' => w'.cell? ⟨gb869, 0, none⟩ = some (.int .i64 a0_0) ∧ w'.cell? ⟨gb869, 1, none⟩ = some (.slice A0_1 l0_1.length c0_1) ∧ w'.cell? ⟨gb870, 0, none⟩ = some (.int .i64 a1_0) ∧ w'.cell? ⟨gb870, 1, none⟩ = some (.slice A1_1 l1_1.length c1_1)) (ds := []) #[false, false, false, false, false, false, false, false, false, false, false] (by kernel_rfl) rfl rfl ⟨bc BK869 0, bc BK869 1, bc BK870 0, bc BK870 1⟩ (fun hHeld => ?_); refine with_tabW laws_FnExactFreeProduct.tab8 laws_FnExactFreeProduct.bits8 (fun HT_ HW_ => ?_)
   generalize w32.drew = w33 at BK869 BK870 HB hHeld ⊢
   refine take_ (i := 0) (N := some 28) (v := ?_) (a' := ?_) #[true, false, false, false, false, false, false, false, false, false, false] rfl rfl (take_ofW HT_.out HW_.out (by kernel_rfl)) (fun _ _ _ h => h) (Or.inl ⟨by rfl, ?_⟩) hHeld ?_ ?_
   rotate_left
   ·rintro w' ⟨s0, s1, s2, s3⟩
    go_simp
    with_reducible rfl
   rotate_left
   ·simp only [Act.put, s1, s2, s3, i64_w, i32_w]
    rfl
   refine take_ (i := 2) (N := some 30) (v := ?_) (a' := ?_) #[true, false, true, false, false, false, false, false, false, false, false] rfl rfl (take_ofW HT_.out HW_.out (by kernel_rfl)) (fun _ _ _ h => h) (Or.inl ⟨by rfl, ?_⟩) hHeld ?_ ?_
   rotate_left
   ·rintro w' ⟨s0, s1, s2, s3⟩
    go_simp
    with_reducible rfl
   rotate_left
   ·simp only [Act.put, s1, s2, s3, i64_w, i32_w]
    rfl
   refine join_ (σ := Value × Value × Value × Nat) 2 #[true, true, true, true, true, true, true, true, true, false, false] (fun s_ => [(29, .agg #[.int .i64 t873, s_.1]), (31, .agg #[.int .i64 t877, s_.2.1]), (32, .tuple #[.agg #[.int .i64 t881, s_.2.2.1], .int .i64 t885]), (6, .pointer (some ⟨s_.2.2.2, 0, none⟩)), (27, .tuple #[.agg #[.int .i64 t881, s_.2.2.1], .int .i64 t885]), (33, .agg #[.int .i64 t881, s_.2.2.1]), (34, .int .i64 t885)]) (fun s_ w' => (w'.cell? ⟨gb869, 0, none⟩ = some (.int .i64 a0_0) ∧ w'.cell? ⟨gb869, 1, none⟩ = some (.slice A0_1 l0_1.length c0_1) ∧ w'.cell? ⟨gb870, 0, none⟩ = some (.int .i64 a1_0) ∧ w'.cell? ⟨gb870, 1, none⟩ = some (.slice A1_1 l1_1.length c1_1)) ∧ (Kd.R (Kd.int .i64) 2 w' w.heap.size (fun k_ => some k_ ≠ (s_.2.1 : Value).ownBlock ∧ some k_ ≠ (s_.2.2.1 : Value).ownBlock) s_.1 t874) ∧ (Kd.R (Kd.int .i64) 2 w' w.heap.size (fun k_ => some k_ ≠ (s_.1 : Value).ownBlock ∧ some k_ ≠ (s_.2.2.1 : Value).ownBlock) s_.2.1 t878) ∧ (Kd.R (Kd.int .i64) 2 w' w.heap.size (fun k_ => some k_ ≠ (s_.1 : Value).ownBlock ∧ some k_ ≠ (s_.2.1 : Value).ownBlock) s_.2.2.1 t882) ∧ (w'.heap[gb869]? = some (.cells #[.int .i64 a0_0, .slice A0_1 l0_1.length c0_1] 46 (0, 0))) ∧ (w'.heap[gb870]? = some (.cells #[.int .i64 a1_0, .slice A1_1 l1_1.length c1_1] 46 (0, 0))) ∧ (w'.heap[s_.2.2.2]? = some (.cells #[.int .i64 0, .slice none 0 0] 38 (0, 0))) ∧ (w.heap.size ≤ s_.2.2.2) ∧ (w.heap.size ≤ s_.2.2.2) ∧ (gb869 ≠ s_.2.2.2) ∧ (s_.2.2.2 ≠ gb869) ∧ (gb870 ≠ s_.2.2.2) ∧ (s_.2.2.2 ≠ gb870) ∧ (Below w.heap.size w w')) ?_ ?_
   rotate_left
   ·intro hCont
    refine two_ (i := 1) (j := 8) (Ni := some 29) (Nj := some 6) #[true, true, true, false, false, false, false, false, false, false, false] #[true, false, true, false, false, false, false, false, true, false, false] rfl rfl rfl rfl (two_of HT_.out (by kernel_rfl)) (by decide) (by decide) (fun K hK => ?_) (fun K hK => ?_)
    ·skip
     refine goes_ Tryd.func37 (by kernel_rfl) rfl #[.agg #[.int .i64 a0_0, .slice A0_1 l0_1.length c0_1]] (by rfl) rfl rfl lz ?_
     with_reducible refine (laws_toAlphabet.calls k a0_0 _ _ l0_1 t873 t874 _ ?side1 ?side2 A19.out).mono ?_
     (case side1 => have q_ := Aside0.mk (Kd.C_below HR0_1.out HB.out); exact cQ q_)
     (case side2 => exact HC0_1.out)
     rintro e w34 ⟨v875, rfl, ho0, hb⟩
     refine ⟨_, rfl, ?_⟩
     have HO876 := Aside0.mk (Kd.R_lower ho0 (below_size (beQ HB))); replace BK869 := bb BK869 hb; replace BK870 := bb BK870 hb; replace HB := Aside0.mk (below_step (beQ HB) hb)
     (try clear hb)
     (try clear hb2)
     (try clear hk)
     (try clear hi)
     (try clear ho0)
     refine hK.out _ _ ⟨bc BK869 0, bc BK869 1, bc BK870 0, bc BK870 1⟩ (fun hHeld => ?_)
     clear hK K
     refine norm_ (a' := ?_) ?_ ?_
     rotate_left
     ·show Act.put _ (some 29) _ = _
      simp only [Act.put, s1, s2, s3, i64_w, i32_w]
      rfl
     refine two_ (i := 3) (j := 8) (Ni := some 31) (Nj := some 6) #[true, true, true, true, false, false, false, false, false, false, false] #[true, true, true, false, false, false, false, false, true, false, false] rfl rfl rfl rfl (two_of HT_.out (by kernel_rfl)) (by decide) (by decide) (fun K hK => ?_) (fun K hK => ?_)
     ·skip
      refine goes_ Tryd.func37 (by kernel_rfl) rfl #[.agg #[.int .i64 a1_0, .slice A1_1 l1_1.length c1_1]] (by rfl) rfl rfl lz ?_
      with_reducible refine (laws_toAlphabet.calls k a1_0 _ _ l1_1 t877 t878 _ ?side1 ?side2 A20.out).mono ?_
      (case side1 => have q_ := Aside0.mk (Kd.C_below HR1_1.out HB.out); exact cQ q_)
      (case side2 => exact HC1_1.out)
      rintro e w35 ⟨v879, rfl, ho0, hb⟩
      refine ⟨_, rfl, ?_⟩
      have HO880 := Aside0.mk (Kd.R_lower (Kd.R_new' ho0 (Kd.R_lt (kdQ HO876))) (below_size (beQ HB))); replace HO876 := Aside0.mk (Kd.R_elder' (kdQ HO876) (Kd.R_base ho0) hb); replace BK869 := bb BK869 hb; replace BK870 := bb BK870 hb; replace HB := Aside0.mk (below_step (beQ HB) hb)
      (try clear hb)
      (try clear hb2)
      (try clear hk)
      (try clear hi)
      (try clear ho0)
      obtain ⟨Ao36, co36, eo36⟩ := Kd.R_slice HO876.out
      (first | subst eo36 | (injection eo36 with f1_ f2_ f3_; have f4_ := f1_.symm; have f5_ := f3_.symm; clear f1_ f2_ f3_; subst f4_; subst f5_))
      obtain ⟨Ao37, co37, eo37⟩ := Kd.R_slice HO880.out
      (first | subst eo37 | (injection eo37 with f1_ f2_ f3_; have f4_ := f1_.symm; have f5_ := f3_.symm; clear f1_ f2_ f3_; subst f4_; subst f5_))
      refine hK.out _ _ ⟨bc BK869 0, bc BK869 1, bc BK870 0, bc BK870 1⟩ (fun hHeld => ?_)
      clear hK K
      refine norm_ (a' := ?_) ?_ ?_
      rotate_left
      ·show Act.put _ (some 31) _ = _
       simp only [Act.put, s1, s2, s3, i64_w, i32_w]
       rfl
      refine two_ (i := 4) (j := 8) (Ni := some 32) (Nj := some 6) #[true, true, true, true, true, false, false, false, false, false, false] #[true, true, true, true, false, false, false, false, true, false, false] rfl rfl rfl rfl (two_of HT_.out (by kernel_rfl)) (by decide) (by decide) (fun K hK => ?_) (fun K hK => ?_)
      ·skip
       refine goes_ Tryd.func45 (by kernel_rfl) rfl #[.agg #[.int .i64 t873, .slice Ao36 t874.length co36], .agg #[.int .i64 t877, .slice Ao37 t878.length co37]] (by rfl) rfl rfl lz ?_
       with_reducible refine (spec_FreeProduct.calls k t873 _ _ t874 t877 _ _ t878 t881 t882 t885 _ ?side1 ?side2 ?side3 ?side4 A21.out).mono ?_
       (case side1 => have q_ := Aside0.mk (Kd.R_reads' HO876.out).2.2; exact cQ q_)
       (case side2 => exact (Kd.R_reads' HO876.out).2.1)
       (case side3 => have q_ := Aside0.mk (Kd.R_reads' HO880.out).2.2; exact cQ q_)
       (case side4 => exact (Kd.R_reads' HO880.out).2.1)
       rintro e w38 ⟨v883, rfl, ho0, hb⟩
       refine ⟨_, rfl, ?_⟩
       have HO884 := Aside0.mk (Kd.R_lower (Kd.R_new' (Kd.R_new' ho0 (Kd.R_lt (kdQ HO876))) (Kd.R_lt (kdQ HO880))) (below_size (beQ HB))); replace HO876 := Aside0.mk (Kd.R_elder' (kdQ HO876) (Kd.R_base ho0) hb); replace HO880 := Aside0.mk (Kd.R_elder' (kdQ HO880) (Kd.R_base ho0) hb); replace BK869 := bb BK869 hb; replace BK870 := bb BK870 hb; replace HB := Aside0.mk (below_step (beQ HB) hb)
       (try clear hb)
       (try clear hb2)
       (try clear hk)
       (try clear hi)
       (try clear ho0)
       refine hK.out _ _ ⟨bc BK869 0, bc BK869 1, bc BK870 0, bc BK870 1⟩ (fun hHeld => ?_)
       clear hK K
       refine norm_ (a' := ?_) ?_ ?_
       rotate_left
       ·show Act.put _ (some 32) _ = _
        simp only [Act.put, s1, s2, s3, i64_w, i32_w]
        rfl
       refine pure_ (i := 5) (N := some 27) (v := ?_) (a' := ?_) #[true, true, true, true, true, true, false, false, false, false, false] rfl rfl (any_of HT_.out (by kernel_rfl)) (fun _ _ _ h => h) (Or.inl ⟨by rfl, ?_⟩) ?_ ?_
       rotate_left
       ·intro w'
        go_simp
        with_reducible rfl
       rotate_left
       ·simp only [Act.put, s1, s2, s3, i64_w, i32_w]
        rfl
       refine pure_ (i := 6) (N := some 33) (v := ?_) (a' := ?_) #[true, true, true, true, true, true, true, false, false, false, false] rfl rfl (any_of HT_.out (by kernel_rfl)) (fun _ _ _ h => h) (Or.inl ⟨by rfl, ?_⟩) ?_ ?_
       rotate_left
       ·intro w'
        go_simp
        with_reducible rfl
       rotate_left
       ·simp only [Act.put, s1, s2, s3, i64_w, i32_w]
        rfl
       refine pure_ (i := 7) (N := some 34) (v := ?_) (a' := ?_) #[true, true, true, true, true, true, true, true, false, false, false] rfl rfl (any_of HT_.out (by kernel_rfl)) (fun _ _ _ h => h) (Or.inl ⟨by rfl, ?_⟩) ?_ ?_
       rotate_left
       ·intro w'
        go_simp
        with_reducible rfl
       rotate_left
       ·simp only [Act.put, s1, s2, s3, i64_w, i32_w]
        rfl
       refine one_ (i := 8) (N := some 6) #[true, true, true, true, true, true, true, true, true, false, false] rfl rfl (one_of HT_.out (by kernel_rfl)) (by decide) (fun K hK => ?_)
       refine box_step ?hg (N := 6) ?hd (cs := #[.int .i64 0, .slice none 0 0]) (t := 38) ?hr ?_; (case hd => rfl); (case hg => rfl); (case hr => first | (go_simp; done) | (go_simp; rfl))
       intro gb886 hg w39 hbox hb
       replace HO876 := kb HO876 hb; replace HO880 := kb HO880 hb; replace HO884 := kb HO884 hb; have BK886 := Aside0.mk (hbox)
       have GW886 := Aside0.mk ((by rw [hg]; exact (below_size (beQ HB)) : w.heap.size ≤ gb886))
       have GE886 := Aside0.mk ((by rw [hg]; exact (below_size (beQ HB)) : w.heap.size ≤ gb886))
       replace HB := Aside0.mk (below_step (beQ HB) hb)
       have NB869_886 := Aside0.mk ((by rw [hg]; exact Nat.ne_of_lt (blk_lt (blkQ BK869)) : gb869 ≠ gb886))
       have NB886_869 := Aside0.mk ((by rw [hg]; exact Nat.ne_of_gt (blk_lt (blkQ BK869)) : gb886 ≠ gb869))
       replace BK869 := bb BK869 hb
       have NB870_886 := Aside0.mk ((by rw [hg]; exact Nat.ne_of_lt (blk_lt (blkQ BK870)) : gb870 ≠ gb886))
       have NB886_870 := Aside0.mk ((by rw [hg]; exact Nat.ne_of_gt (blk_lt (blkQ BK870)) : gb886 ≠ gb870))
       replace BK870 := bb BK870 hb; clear hb hbox hg
       refine hK.out _ _ ⟨bc BK869 0, bc BK869 1, bc BK870 0, bc BK870 1⟩ (fun hHeld => ?_)
       clear hK K
       refine norm_ (a' := ?_) ?_ ?_
       rotate_left
       ·show Act.put _ (some 6) _ = _
        simp only [Act.put, s1, s2, s3, i64_w, i32_w]
        rfl
       exact norm_ (by simp only [putAll, Act.put, List.setIfInBounds_toArray, List.set_cons_zero, List.set_cons_succ]) (hCont (.slice Ao36 t874.length co36, .slice Ao37 t878.length co37, v883, gb886) _ ⟨hHeld, (by (with_reducible repeat (first | apply Kd.R_alloc | apply Kd.R_drewN | apply Kd.R_drew)); exact Kd.R_mono HO876.out (fun _ hk => ⟨hk.1.2, hk.2⟩)), (by (with_reducible repeat (first | apply Kd.R_alloc | apply Kd.R_drewN | apply Kd.R_drew)); exact Kd.R_mono HO880.out (fun _ hk => ⟨hk.1.2, hk.2⟩)), (by (with_reducible repeat (first | apply Kd.R_alloc | apply Kd.R_drewN | apply Kd.R_drew)); exact Kd.R_mono HO884.out (fun _ hk => ⟨hk.1.2, hk.2⟩)), (blkQ BK869), (blkQ BK870), (blkQ BK886), GW886.out, GE886.out, NB869_886.out, NB886_869.out, NB870_886.out, NB886_870.out, (beQ HB)⟩)
      ·skip
       refine box_step ?hg (N := 6) ?hd (cs := #[.int .i64 0, .slice none 0 0]) (t := 38) ?hr ?_; (case hd => rfl); (case hg => rfl); (case hr => first | (go_simp; done) | (go_simp; rfl))
       intro gb886 hg w36 hbox hb
       replace HO876 := kb HO876 hb; replace HO880 := kb HO880 hb; have BK886 := Aside0.mk (hbox)
       have GW886 := Aside0.mk ((by rw [hg]; exact (below_size (beQ HB)) : w.heap.size ≤ gb886))
       have GE886 := Aside0.mk ((by rw [hg]; exact (below_size (beQ HB)) : w.heap.size ≤ gb886))
       replace HB := Aside0.mk (below_step (beQ HB) hb)
       have NB869_886 := Aside0.mk ((by rw [hg]; exact Nat.ne_of_lt (blk_lt (blkQ BK869)) : gb869 ≠ gb886))
       have NB886_869 := Aside0.mk ((by rw [hg]; exact Nat.ne_of_gt (blk_lt (blkQ BK869)) : gb886 ≠ gb869))
       replace BK869 := bb BK869 hb
       have NB870_886 := Aside0.mk ((by rw [hg]; exact Nat.ne_of_lt (blk_lt (blkQ BK870)) : gb870 ≠ gb886))
       have NB886_870 := Aside0.mk ((by rw [hg]; exact Nat.ne_of_gt (blk_lt (blkQ BK870)) : gb886 ≠ gb870))
       replace BK870 := bb BK870 hb; clear hb hbox hg; obtain ⟨Ao37, co37, eo37⟩ := Kd.R_slice HO876.out
       (first | subst eo37 | (injection eo37 with f1_ f2_ f3_; have f4_ := f1_.symm; have f5_ := f3_.symm; clear f1_ f2_ f3_; subst f4_; subst f5_))
       obtain ⟨Ao38, co38, eo38⟩ := Kd.R_slice HO880.out
       (first | subst eo38 | (injection eo38 with f1_ f2_ f3_; have f4_ := f1_.symm; have f5_ := f3_.symm; clear f1_ f2_ f3_; subst f4_; subst f5_))
       refine hK.out _ _ ⟨bc BK869 0, bc BK869 1, bc BK870 0, bc BK870 1⟩ (fun hHeld => ?_)
       clear hK K
       refine norm_ (a' := ?_) ?_ ?_
       rotate_left
       ·show Act.put _ (some 6) _ = _
        simp only [Act.put, s1, s2, s3, i64_w, i32_w]
        rfl
       refine one_ (i := 4) (N := some 32) #[true, true, true, true, true, false, false, false, true, false, false] rfl rfl (one_of HT_.out (by kernel_rfl)) (by decide) (fun K hK => ?_)
       refine goes_ Tryd.func45 (by kernel_rfl) rfl #[.agg #[.int .i64 t873, .slice Ao37 t874.length co37], .agg #[.int .i64 t877, .slice Ao38 t878.length co38]] (by rfl) rfl rfl lz ?_
       with_reducible refine (spec_FreeProduct.calls k t873 _ _ t874 t877 _ _ t878 t881 t882 t885 _ ?side1 ?side2 ?side3 ?side4 A21.out).mono ?_
       (case side1 => have q_ := Aside0.mk (Kd.R_reads' HO876.out).2.2; exact cQ q_)
       (case side2 => exact (Kd.R_reads' HO876.out).2.1)
       (case side3 => have q_ := Aside0.mk (Kd.R_reads' HO880.out).2.2; exact cQ q_)
       (case side4 => exact (Kd.R_reads' HO880.out).2.1)
       rintro e w39 ⟨v883, rfl, ho0, hb⟩
       refine ⟨_, rfl, ?_⟩
       have HO884 := Aside0.mk (Kd.R_lower (Kd.R_new' (Kd.R_new' ho0 (Kd.R_lt (kdQ HO876))) (Kd.R_lt (kdQ HO880))) (below_size (beQ HB))); replace HO876 := Aside0.mk (Kd.R_elder' (kdQ HO876) (Kd.R_base ho0) hb); replace HO880 := Aside0.mk (Kd.R_elder' (kdQ HO880) (Kd.R_base ho0) hb); replace BK869 := bb BK869 hb; replace BK870 := bb BK870 hb; replace BK886 := bb BK886 hb; replace HB := Aside0.mk (below_step (beQ HB) hb)
       (try clear hb)
       (try clear hb2)
       (try clear hk)
       (try clear hi)
       (try clear ho0)
       refine hK.out _ _ ⟨bc BK869 0, bc BK869 1, bc BK870 0, bc BK870 1⟩ (fun hHeld => ?_)
       clear hK K
       refine norm_ (a' := ?_) ?_ ?_
       rotate_left
       ·show Act.put _ (some 32) _ = _
        simp only [Act.put, s1, s2, s3, i64_w, i32_w]
        rfl
       refine pure_ (i := 5) (N := some 27) (v := ?_) (a' := ?_) #[true, true, true, true, true, true, false, false, true, false, false] rfl rfl (any_of HT_.out (by kernel_rfl)) (fun _ _ _ h => h) (Or.inl ⟨by rfl, ?_⟩) ?_ ?_
       rotate_left
       ·intro w'
        go_simp
        with_reducible rfl
       rotate_left
       ·simp only [Act.put, s1, s2, s3, i64_w, i32_w]
        rfl
       refine pure_ (i := 6) (N := some 33) (v := ?_) (a' := ?_) #[true, true, true, true, true, true, true, false, true, false, false] rfl rfl (any_of HT_.out (by kernel_rfl)) (fun _ _ _ h => h) (Or.inl ⟨by rfl, ?_⟩) ?_ ?_
       rotate_left
       ·intro w'
        go_simp
        with_reducible rfl
       rotate_left
       ·simp only [Act.put, s1, s2, s3, i64_w, i32_w]
        rfl
       refine pure_ (i := 7) (N := some 34) (v := ?_) (a' := ?_) #[true, true, true, true, true, true, true, true, true, false, false] rfl rfl (any_of HT_.out (by kernel_rfl)) (fun _ _ _ h => h) (Or.inl ⟨by rfl, ?_⟩) ?_ ?_
       rotate_left
       ·intro w'
        go_simp
        with_reducible rfl
       rotate_left
       ·simp only [Act.put, s1, s2, s3, i64_w, i32_w]
        rfl
       exact norm_ (by simp only [putAll, Act.put, List.setIfInBounds_toArray, List.set_cons_zero, List.set_cons_succ]) (hCont (.slice Ao37 t874.length co37, .slice Ao38 t878.length co38, v883, gb886) _ ⟨hHeld, (by (with_reducible repeat (first | apply Kd.R_alloc | apply Kd.R_drewN | apply Kd.R_drew)); exact Kd.R_mono HO876.out (fun _ hk => ⟨hk.1.2, hk.2⟩)), (by (with_reducible repeat (first | apply Kd.R_alloc | apply Kd.R_drewN | apply Kd.R_drew)); exact Kd.R_mono HO880.out (fun _ hk => ⟨hk.1.2, hk.2⟩)), (by (with_reducible repeat (first | apply Kd.R_alloc | apply Kd.R_drewN | apply Kd.R_drew)); exact Kd.R_mono HO884.out (fun _ hk => ⟨hk.1.2, hk.2⟩)), (blkQ BK869), (blkQ BK870), (blkQ BK886), GW886.out, GE886.out, NB869_886.out, NB886_869.out, NB870_886.out, NB886_870.out, (beQ HB)⟩)
     ·skip
      refine box_step ?hg (N := 6) ?hd (cs := #[.int .i64 0, .slice none 0 0]) (t := 38) ?hr ?_; (case hd => rfl); (case hg => rfl); (case hr => first | (go_simp; done) | (go_simp; rfl))
      intro gb886 hg w35 hbox hb
      replace HO876 := kb HO876 hb; have BK886 := Aside0.mk (hbox)
      have GW886 := Aside0.mk ((by rw [hg]; exact (below_size (beQ HB)) : w.heap.size ≤ gb886))
      have GE886 := Aside0.mk ((by rw [hg]; exact (below_size (beQ HB)) : w.heap.size ≤ gb886))
      replace HB := Aside0.mk (below_step (beQ HB) hb)
      have NB869_886 := Aside0.mk ((by rw [hg]; exact Nat.ne_of_lt (blk_lt (blkQ BK869)) : gb869 ≠ gb886))
      have NB886_869 := Aside0.mk ((by rw [hg]; exact Nat.ne_of_gt (blk_lt (blkQ BK869)) : gb886 ≠ gb869))
      replace BK869 := bb BK869 hb
      have NB870_886 := Aside0.mk ((by rw [hg]; exact Nat.ne_of_lt (blk_lt (blkQ BK870)) : gb870 ≠ gb886))
      have NB886_870 := Aside0.mk ((by rw [hg]; exact Nat.ne_of_gt (blk_lt (blkQ BK870)) : gb886 ≠ gb870))
      replace BK870 := bb BK870 hb; clear hb hbox hg
      refine hK.out _ _ ⟨bc BK869 0, bc BK869 1, bc BK870 0, bc BK870 1⟩ (fun hHeld => ?_)
      clear hK K
      refine norm_ (a' := ?_) ?_ ?_
      rotate_left
      ·show Act.put _ (some 6) _ = _
       simp only [Act.put, s1, s2, s3, i64_w, i32_w]
       rfl
      refine one_ (i := 3) (N := some 31) #[true, true, true, true, false, false, false, false, true, false, false] rfl rfl (one_of HT_.out (by kernel_rfl)) (by decide) (fun K hK => ?_)
      refine goes_ Tryd.func37 (by kernel_rfl) rfl #[.agg #[.int .i64 a1_0, .slice A1_1 l1_1.length c1_1]] (by rfl) rfl rfl lz ?_
      with_reducible refine (laws_toAlphabet.calls k a1_0 _ _ l1_1 t877 t878 _ ?side1 ?side2 A20.out).mono ?_
      (case side1 => have q_ := Aside0.mk (Kd.C_below HR1_1.out HB.out); exact cQ q_)
      (case side2 => exact HC1_1.out)
      rintro e w36 ⟨v879, rfl, ho0, hb⟩
      refine ⟨_, rfl, ?_⟩
      have HO880 := Aside0.mk (Kd.R_lower (Kd.R_new' ho0 (Kd.R_lt (kdQ HO876))) (below_size (beQ HB))); replace HO876 := Aside0.mk (Kd.R_elder' (kdQ HO876) (Kd.R_base ho0) hb); replace BK869 := bb BK869 hb; replace BK870 := bb BK870 hb; replace BK886 := bb BK886 hb; replace HB := Aside0.mk (below_step (beQ HB) hb)
      (try clear hb)
      (try clear hb2)
      (try clear hk)
      (try clear hi)
      (try clear ho0)
      obtain ⟨Ao37, co37, eo37⟩ := Kd.R_slice HO876.out
      (first | subst eo37 | (injection eo37 with f1_ f2_ f3_; have f4_ := f1_.symm; have f5_ := f3_.symm; clear f1_ f2_ f3_; subst f4_; subst f5_))
      obtain ⟨Ao38, co38, eo38⟩ := Kd.R_slice HO880.out
      (first | subst eo38 | (injection eo38 with f1_ f2_ f3_; have f4_ := f1_.symm; have f5_ := f3_.symm; clear f1_ f2_ f3_; subst f4_; subst f5_))
      refine hK.out _ _ ⟨bc BK869 0, bc BK869 1, bc BK870 0, bc BK870 1⟩ (fun hHeld => ?_)
      clear hK K
      refine norm_ (a' := ?_) ?_ ?_
      rotate_left
      ·show Act.put _ (some 31) _ = _
       simp only [Act.put, s1, s2, s3, i64_w, i32_w]
       rfl
      refine one_ (i := 4) (N := some 32) #[true, true, true, true, true, false, false, false, true, false, false] rfl rfl (one_of HT_.out (by kernel_rfl)) (by decide) (fun K hK => ?_)
      refine goes_ Tryd.func45 (by kernel_rfl) rfl #[.agg #[.int .i64 t873, .slice Ao37 t874.length co37], .agg #[.int .i64 t877, .slice Ao38 t878.length co38]] (by rfl) rfl rfl lz ?_
      with_reducible refine (spec_FreeProduct.calls k t873 _ _ t874 t877 _ _ t878 t881 t882 t885 _ ?side1 ?side2 ?side3 ?side4 A21.out).mono ?_
      (case side1 => have q_ := Aside0.mk (Kd.R_reads' HO876.out).2.2; exact cQ q_)
      (case side2 => exact (Kd.R_reads' HO876.out).2.1)
      (case side3 => have q_ := Aside0.mk (Kd.R_reads' HO880.out).2.2; exact cQ q_)
      (case side4 => exact (Kd.R_reads' HO880.out).2.1)
      rintro e w39 ⟨v883, rfl, ho0, hb⟩
      refine ⟨_, rfl, ?_⟩
      have HO884 := Aside0.mk (Kd.R_lower (Kd.R_new' (Kd.R_new' ho0 (Kd.R_lt (kdQ HO876))) (Kd.R_lt (kdQ HO880))) (below_size (beQ HB))); replace HO876 := Aside0.mk (Kd.R_elder' (kdQ HO876) (Kd.R_base ho0) hb); replace HO880 := Aside0.mk (Kd.R_elder' (kdQ HO880) (Kd.R_base ho0) hb); replace BK869 := bb BK869 hb; replace BK870 := bb BK870 hb; replace BK886 := bb BK886 hb; replace HB := Aside0.mk (below_step (beQ HB) hb)
      (try clear hb)
      (try clear hb2)
      (try clear hk)
      (try clear hi)
      (try clear ho0)
      refine hK.out _ _ ⟨bc BK869 0, bc BK869 1, bc BK870 0, bc BK870 1⟩ (fun hHeld => ?_)
      clear hK K
      refine norm_ (a' := ?_) ?_ ?_
      rotate_left
      ·show Act.put _ (some 32) _ = _
       simp only [Act.put, s1, s2, s3, i64_w, i32_w]
       rfl
      refine pure_ (i := 5) (N := some 27) (v := ?_) (a' := ?_) #[true, true, true, true, true, true, false, false, true, false, false] rfl rfl (any_of HT_.out (by kernel_rfl)) (fun _ _ _ h => h) (Or.inl ⟨by rfl, ?_⟩) ?_ ?_
      rotate_left
      ·intro w'
       go_simp
       with_reducible rfl
      rotate_left
      ·simp only [Act.put, s1, s2, s3, i64_w, i32_w]
       rfl
      refine pure_ (i := 6) (N := some 33) (v := ?_) (a' := ?_) #[true, true, true, true, true, true, true, false, true, false, false] rfl rfl (any_of HT_.out (by kernel_rfl)) (fun _ _ _ h => h) (Or.inl ⟨by rfl, ?_⟩) ?_ ?_
      rotate_left
      ·intro w'
       go_simp
       with_reducible rfl
      rotate_left
      ·simp only [Act.put, s1, s2, s3, i64_w, i32_w]
       rfl
      refine pure_ (i := 7) (N := some 34) (v := ?_) (a' := ?_) #[true, true, true, true, true, true, true, true, true, false, false] rfl rfl (any_of HT_.out (by kernel_rfl)) (fun _ _ _ h => h) (Or.inl ⟨by rfl, ?_⟩) ?_ ?_
      rotate_left
      ·intro w'
       go_simp
       with_reducible rfl
      rotate_left
      ·simp only [Act.put, s1, s2, s3, i64_w, i32_w]
       rfl
      exact norm_ (by simp only [putAll, Act.put, List.setIfInBounds_toArray, List.set_cons_zero, List.set_cons_succ]) (hCont (.slice Ao37 t874.length co37, .slice Ao38 t878.length co38, v883, gb886) _ ⟨hHeld, (by (with_reducible repeat (first | apply Kd.R_alloc | apply Kd.R_drewN | apply Kd.R_drew)); exact Kd.R_mono HO876.out (fun _ hk => ⟨hk.1.2, hk.2⟩)), (by (with_reducible repeat (first | apply Kd.R_alloc | apply Kd.R_drewN | apply Kd.R_drew)); exact Kd.R_mono HO880.out (fun _ hk => ⟨hk.1.2, hk.2⟩)), (by (with_reducible repeat (first | apply Kd.R_alloc | apply Kd.R_drewN | apply Kd.R_drew)); exact Kd.R_mono HO884.out (fun _ hk => ⟨hk.1.2, hk.2⟩)), (blkQ BK869), (blkQ BK870), (blkQ BK886), GW886.out, GE886.out, NB869_886.out, NB886_869.out, NB870_886.out, NB886_870.out, (beQ HB)⟩)
    ·skip
     refine box_step ?hg (N := 6) ?hd (cs := #[.int .i64 0, .slice none 0 0]) (t := 38) ?hr ?_; (case hd => rfl); (case hg => rfl); (case hr => first | (go_simp; done) | (go_simp; rfl))
     intro gb886 hg w34 hbox hb
     have BK886 := Aside0.mk (hbox)
     have GW886 := Aside0.mk ((by rw [hg]; exact (below_size (beQ HB)) : w.heap.size ≤ gb886))
     have GE886 := Aside0.mk ((by rw [hg]; exact (below_size (beQ HB)) : w.heap.size ≤ gb886))
     replace HB := Aside0.mk (below_step (beQ HB) hb)
     have NB869_886 := Aside0.mk ((by rw [hg]; exact Nat.ne_of_lt (blk_lt (blkQ BK869)) : gb869 ≠ gb886))
     have NB886_869 := Aside0.mk ((by rw [hg]; exact Nat.ne_of_gt (blk_lt (blkQ BK869)) : gb886 ≠ gb869))
     replace BK869 := bb BK869 hb
     have NB870_886 := Aside0.mk ((by rw [hg]; exact Nat.ne_of_lt (blk_lt (blkQ BK870)) : gb870 ≠ gb886))
     have NB886_870 := Aside0.mk ((by rw [hg]; exact Nat.ne_of_gt (blk_lt (blkQ BK870)) : gb886 ≠ gb870))
     replace BK870 := bb BK870 hb; clear hb hbox hg
     refine hK.out _ _ ⟨bc BK869 0, bc BK869 1, bc BK870 0, bc BK870 1⟩ (fun hHeld => ?_)
     clear hK K
     refine norm_ (a' := ?_) ?_ ?_
     rotate_left
     ·show Act.put _ (some 6) _ = _
      simp only [Act.put, s1, s2, s3, i64_w, i32_w]
      rfl
     refine one_ (i := 1) (N := some 29) #[true, true, true, false, false, false, false, false, true, false, false] rfl rfl (one_of HT_.out (by kernel_rfl)) (by decide) (fun K hK => ?_)
     refine goes_ Tryd.func37 (by kernel_rfl) rfl #[.agg #[.int .i64 a0_0, .slice A0_1 l0_1.length c0_1]] (by rfl) rfl rfl lz ?_
     with_reducible refine (laws_toAlphabet.calls k a0_0 _ _ l0_1 t873 t874 _ ?side1 ?side2 A19.out).mono ?_
     (case side1 => have q_ := Aside0.mk (Kd.C_below HR0_1.out HB.out); exact cQ q_)
     (case side2 => exact HC0_1.out)
     rintro e w35 ⟨v875, rfl, ho0, hb⟩
     refine ⟨_, rfl, ?_⟩
     have HO876 := Aside0.mk (Kd.R_lower ho0 (below_size (beQ HB))); replace BK869 := bb BK869 hb; replace BK870 := bb BK870 hb; replace BK886 := bb BK886 hb; replace HB := Aside0.mk (below_step (beQ HB) hb)
     (try clear hb)
     (try clear hb2)
     (try clear hk)
     (try clear hi)
     (try clear ho0)
     refine hK.out _ _ ⟨bc BK869 0, bc BK869 1, bc BK870 0, bc BK870 1⟩ (fun hHeld => ?_)
     clear hK K
     refine norm_ (a' := ?_) ?_ ?_
     rotate_left
     ·show Act.put _ (some 29) _ = _
      simp only [Act.put, s1, s2, s3, i64_w, i32_w]
      rfl
     refine one_ (i := 3) (N := some 31) #[true, true, true, true, false, false, false, false, true, false, false] rfl rfl (one_of HT_.out (by kernel_rfl)) (by decide) (fun K hK => ?_)
     refine goes_ Tryd.func37 (by kernel_rfl) rfl #[.agg #[.int .i64 a1_0, .slice A1_1 l1_1.length c1_1]] (by rfl) rfl rfl lz ?_
     with_reducible refine (laws_toAlphabet.calls k a1_0 _ _ l1_1 t877 t878 _ ?side1 ?side2 A20.out).mono ?_
     (case side1 => have q_ := Aside0.mk (Kd.C_below HR1_1.out HB.out); exact cQ q_)
     (case side2 => exact HC1_1.out)
     rintro e w36 ⟨v879, rfl, ho0, hb⟩
     refine ⟨_, rfl, ?_⟩
     have HO880 := Aside0.mk (Kd.R_lower (Kd.R_new' ho0 (Kd.R_lt (kdQ HO876))) (below_size (beQ HB))); replace HO876 := Aside0.mk (Kd.R_elder' (kdQ HO876) (Kd.R_base ho0) hb); replace BK869 := bb BK869 hb; replace BK870 := bb BK870 hb; replace BK886 := bb BK886 hb; replace HB := Aside0.mk (below_step (beQ HB) hb)
     (try clear hb)
     (try clear hb2)
     (try clear hk)
     (try clear hi)
     (try clear ho0)
     obtain ⟨Ao37, co37, eo37⟩ := Kd.R_slice HO876.out
     (first | subst eo37 | (injection eo37 with f1_ f2_ f3_; have f4_ := f1_.symm; have f5_ := f3_.symm; clear f1_ f2_ f3_; subst f4_; subst f5_))
     obtain ⟨Ao38, co38, eo38⟩ := Kd.R_slice HO880.out
     (first | subst eo38 | (injection eo38 with f1_ f2_ f3_; have f4_ := f1_.symm; have f5_ := f3_.symm; clear f1_ f2_ f3_; subst f4_; subst f5_))
     refine hK.out _ _ ⟨bc BK869 0, bc BK869 1, bc BK870 0, bc BK870 1⟩ (fun hHeld => ?_)
     clear hK K
     refine norm_ (a' := ?_) ?_ ?_
     rotate_left
     ·show Act.put _ (some 31) _ = _
      simp only [Act.put, s1, s2, s3, i64_w, i32_w]
      rfl
     refine one_ (i := 4) (N := some 32) #[true, true, true, true, true, false, false, false, true, false, false] rfl rfl (one_of HT_.out (by kernel_rfl)) (by decide) (fun K hK => ?_)
     refine goes_ Tryd.func45 (by kernel_rfl) rfl #[.agg #[.int .i64 t873, .slice Ao37 t874.length co37], .agg #[.int .i64 t877, .slice Ao38 t878.length co38]] (by rfl) rfl rfl lz ?_
     with_reducible refine (spec_FreeProduct.calls k t873 _ _ t874 t877 _ _ t878 t881 t882 t885 _ ?side1 ?side2 ?side3 ?side4 A21.out).mono ?_
     (case side1 => have q_ := Aside0.mk (Kd.R_reads' HO876.out).2.2; exact cQ q_)
     (case side2 => exact (Kd.R_reads' HO876.out).2.1)
     (case side3 => have q_ := Aside0.mk (Kd.R_reads' HO880.out).2.2; exact cQ q_)
     (case side4 => exact (Kd.R_reads' HO880.out).2.1)
     rintro e w39 ⟨v883, rfl, ho0, hb⟩
     refine ⟨_, rfl, ?_⟩
     have HO884 := Aside0.mk (Kd.R_lower (Kd.R_new' (Kd.R_new' ho0 (Kd.R_lt (kdQ HO876))) (Kd.R_lt (kdQ HO880))) (below_size (beQ HB))); replace HO876 := Aside0.mk (Kd.R_elder' (kdQ HO876) (Kd.R_base ho0) hb); replace HO880 := Aside0.mk (Kd.R_elder' (kdQ HO880) (Kd.R_base ho0) hb); replace BK869 := bb BK869 hb; replace BK870 := bb BK870 hb; replace BK886 := bb BK886 hb; replace HB := Aside0.mk (below_step (beQ HB) hb)
     (try clear hb)
     (try clear hb2)
     (try clear hk)
     (try clear hi)
     (try clear ho0)
     refine hK.out _ _ ⟨bc BK869 0, bc BK869 1, bc BK870 0, bc BK870 1⟩ (fun hHeld => ?_)
     clear hK K
     refine norm_ (a' := ?_) ?_ ?_
     rotate_left
     ·show Act.put _ (some 32) _ = _
      simp only [Act.put, s1, s2, s3, i64_w, i32_w]
      rfl
     refine pure_ (i := 5) (N := some 27) (v := ?_) (a' := ?_) #[true, true, true, true, true, true, false, false, true, false, false] rfl rfl (any_of HT_.out (by kernel_rfl)) (fun _ _ _ h => h) (Or.inl ⟨by rfl, ?_⟩) ?_ ?_
     rotate_left
     ·intro w'
      go_simp
      with_reducible rfl
     rotate_left
     ·simp only [Act.put, s1, s2, s3, i64_w, i32_w]
      rfl
     refine pure_ (i := 6) (N := some 33) (v := ?_) (a' := ?_) #[true, true, true, true, true, true, true, false, true, false, false] rfl rfl (any_of HT_.out (by kernel_rfl)) (fun _ _ _ h => h) (Or.inl ⟨by rfl, ?_⟩) ?_ ?_
     rotate_left
     ·intro w'
      go_simp
      with_reducible rfl
     rotate_left
     ·simp only [Act.put, s1, s2, s3, i64_w, i32_w]
      rfl
     refine pure_ (i := 7) (N := some 34) (v := ?_) (a' := ?_) #[true, true, true, true, true, true, true, true, true, false, false] rfl rfl (any_of HT_.out (by kernel_rfl)) (fun _ _ _ h => h) (Or.inl ⟨by rfl, ?_⟩) ?_ ?_
     rotate_left
     ·intro w'
      go_simp
      with_reducible rfl
     rotate_left
     ·simp only [Act.put, s1, s2, s3, i64_w, i32_w]
      rfl
     exact norm_ (by simp only [putAll, Act.put, List.setIfInBounds_toArray, List.set_cons_zero, List.set_cons_succ]) (hCont (.slice Ao37 t874.length co37, .slice Ao38 t878.length co38, v883, gb886) _ ⟨hHeld, (by (with_reducible repeat (first | apply Kd.R_alloc | apply Kd.R_drewN | apply Kd.R_drew)); exact Kd.R_mono HO876.out (fun _ hk => ⟨hk.1.2, hk.2⟩)), (by (with_reducible repeat (first | apply Kd.R_alloc | apply Kd.R_drewN | apply Kd.R_drew)); exact Kd.R_mono HO880.out (fun _ hk => ⟨hk.1.2, hk.2⟩)), (by (with_reducible repeat (first | apply Kd.R_alloc | apply Kd.R_drewN | apply Kd.R_drew)); exact Kd.R_mono HO884.out (fun _ hk => ⟨hk.1.2, hk.2⟩)), (blkQ BK869), (blkQ BK870), (blkQ BK886), GW886.out, GE886.out, NB869_886.out, NB886_869.out, NB870_886.out, NB886_870.out, (beQ HB)⟩)
   rintro ⟨v875, v879, v883, gb886⟩ w40 ⟨hS_, h0_, h1_, h2_, h3_, h4_, h5_, h6_, h7_, h8_, h9_, h10_, h11_, h12_⟩
   have n0_ : Aside0 (Kd.R (Kd.int .i64) 2 w40 w.heap.size (fun k_ => some k_ ≠ (v879 : Value).ownBlock ∧ some k_ ≠ (v883 : Value).ownBlock) v875 t874) := ⟨h0_⟩
   have n1_ : Aside0 (Kd.R (Kd.int .i64) 2 w40 w.heap.size (fun k_ => some k_ ≠ (v875 : Value).ownBlock ∧ some k_ ≠ (v883 : Value).ownBlock) v879 t878) := ⟨h1_⟩
   have n2_ : Aside0 (Kd.R (Kd.int .i64) 2 w40 w.heap.size (fun k_ => some k_ ≠ (v875 : Value).ownBlock ∧ some k_ ≠ (v879 : Value).ownBlock) v883 t882) := ⟨h2_⟩
   have n3_ : Aside0 (w40.heap[gb869]? = some (.cells #[.int .i64 a0_0, .slice A0_1 l0_1.length c0_1] 46 (0, 0))) := ⟨h3_⟩
   have n4_ : Aside0 (w40.heap[gb870]? = some (.cells #[.int .i64 a1_0, .slice A1_1 l1_1.length c1_1] 46 (0, 0))) := ⟨h4_⟩
   have n5_ : Aside0 (w40.heap[gb886]? = some (.cells #[.int .i64 0, .slice none 0 0] 38 (0, 0))) := ⟨h5_⟩
   have n6_ : Aside0 (w.heap.size ≤ gb886) := ⟨h6_⟩
   have n7_ : Aside0 (w.heap.size ≤ gb886) := ⟨h7_⟩
   have n8_ : Aside0 (gb869 ≠ gb886) := ⟨h8_⟩
   have n9_ : Aside0 (gb886 ≠ gb869) := ⟨h9_⟩
   have n10_ : Aside0 (gb870 ≠ gb886) := ⟨h10_⟩
   have n11_ : Aside0 (gb886 ≠ gb870) := ⟨h11_⟩
   have n12_ : Aside0 (Below w.heap.size w w40) := ⟨h12_⟩
   clear BK869; clear BK870; clear HB; clear h0_ h1_ h2_ h3_ h4_ h5_ h6_ h7_ h8_ h9_ h10_ h11_ h12_; have HO876 := n0_; have HO880 := n1_; have HO884 := n2_; have BK869 := n3_; have BK870 := n4_; have BK886 := n5_; have GW886 := n6_; have GE886 := n7_; have NB869_886 := n8_; have NB886_869 := n9_; have NB870_886 := n10_; have NB886_870 := n11_; have HB := n12_; clear n0_ n1_ n2_ n3_ n4_ n5_ n6_ n7_ n8_ n9_ n10_ n11_ n12_
   have hHeld : w40.cell? ⟨gb869, 0, none⟩ = some (.int .i64 a0_0) ∧ w40.cell? ⟨gb869, 1, none⟩ = some (.slice A0_1 l0_1.length c0_1) ∧ w40.cell? ⟨gb870, 0, none⟩ = some (.int .i64 a1_0) ∧ w40.cell? ⟨gb870, 1, none⟩ = some (.slice A1_1 l1_1.length c1_1) := hS_
   obtain ⟨Ao42, co42, eo42⟩ := Kd.R_slice HO884.out
   (first | subst eo42 | (injection eo42 with f1_ f2_ f3_; have f4_ := f1_.symm; have f5_ := f3_.symm; clear f1_ f2_ f3_; subst f4_; subst f5_))
   refine norm_ (a' := ?_) ?_ ?_
   rotate_left
   ·simp only [putAll, Act.put, List.setIfInBounds_toArray, List.set_cons_zero, List.set_cons_succ]
    rfl
   refine one_ (i := 9) (N := none) #[true, true, true, true, true, true, true, true, true, true, false] rfl rfl (one_of HT_.out (by kernel_rfl)) (by decide) (fun K hK => ?_)
   have hs41 : w40.cell? ⟨gb886, 0, none⟩ = some (.int .i64 0) := bc BK886 0
   have hfs41 := blk_frozen BK886.out 0; have hns41_0 := NB869_886.out; have hns41_1 := NB870_886.out; have hms41_0 := NB886_869.out; have hms41_1 := NB886_870.out
   have hs43 : w40.cell? ⟨gb886, 1, none⟩ = some (.slice none 0 0) := bc BK886 1
   have hfs43 := blk_frozen BK886.out 1; have hns43_0 := NB869_886.out; have hns43_1 := NB870_886.out; have hms43_0 := NB886_869.out; have hms43_1 := NB886_870.out
   refine skip_ (w1 := ?_) (by rfl) rfl ?_ ?_
   rotate_left
   ·go_simp
    rfl
   refine hK.out _ _ ⟨((cell_far (p := ⟨gb886, _, none⟩) NB869_886.out _).trans (((cell_far (p := ⟨gb886, _, none⟩) NB869_886.out _).trans (hHeld.1)))), ((cell_far (p := ⟨gb886, _, none⟩) NB869_886.out _).trans (((cell_far (p := ⟨gb886, _, none⟩) NB869_886.out _).trans (hHeld.2.1)))), ((cell_far (p := ⟨gb886, _, none⟩) NB870_886.out _).trans (((cell_far (p := ⟨gb886, _, none⟩) NB870_886.out _).trans (hHeld.2.2.1)))), ((cell_far (p := ⟨gb886, _, none⟩) NB870_886.out _).trans (((cell_far (p := ⟨gb886, _, none⟩) NB870_886.out _).trans (hHeld.2.2.2))))⟩ (fun hHeld => ?_)
   clear hK K
   refine pure_ (i := 10) (N := some 7) (v := ?_) (a' := ?_) #[true, true, true, true, true, true, true, true, true, true, true] rfl rfl (any_of HT_.out (by kernel_rfl)) (fun _ _ _ h => h) (Or.inl ⟨by rfl, ?_⟩) ?_ ?_
   rotate_left
   ·intro w'
    go_simp
    with_reducible rfl
   rotate_left
   ·simp only [Act.put, s1, s2, s3, i64_w, i32_w]
    rfl
   refine done_ (done_of HT_.out (by kernel_rfl)) ?_
   have hnb44 := NB869_886.out; have hnc44 := NB886_869.out
   have hcz45_0 : w40.cell? ⟨gb869, 0, none⟩ = some (.int .i64 a0_0) := bc BK869 0
   have hcz45_1 : w40.cell? ⟨gb869, 1, none⟩ = some (.slice A0_1 l0_1.length c0_1) := bc BK869 1
   have hfz45_0 := blk_frozen BK869.out 0; have hfz45_1 := blk_frozen BK869.out 1
   go_upto_region 12 with (first | ((with_reducible refine gate_callee (f := 37) rfl ?_); refine goesL_ (some 36) rfl rfl Tryd.func37 (by kernel_rfl) rfl #[.agg #[.int .i64 a0_0, .slice A0_1 l0_1.length c0_1]] rfl lz ?_; (with_reducible refine (laws_toAlphabet.calls k a0_0 _ _ l0_1 t887 t888 _ ?side1 ?side2 A22.out).mono ?_); (case side1 => exact Kd.C_below HR0_1.out (beQ HB)); (case side2 => exact HC0_1.out); rintro e w46 ⟨v889, rfl, ho0, hb⟩; refine ⟨_, rfl, ?_⟩; have HO890 := Aside0.mk (Kd.R_lower (Kd.R_new' (Kd.R_new' (Kd.R_new' ho0 (Kd.R_lt (by (with_reducible repeat (first | apply Kd.R_alloc | apply Kd.R_drewN | apply Kd.R_drew)); exact (Kd.R_mono (Kd.R_far (p := ⟨gb886, 1, none⟩) (Kd.R_far (p := ⟨gb886, 0, none⟩) (Kd.R_types HO876.out BK886.out (by decide)) (fun _ hk => hk.2) (.int .i64 t881)) (fun _ hk => hk.2) (.slice Ao42 t882.length co42)) (fun _ h_ => h_.1))))) (Kd.R_lt (by (with_reducible repeat (first | apply Kd.R_alloc | apply Kd.R_drewN | apply Kd.R_drew)); exact (Kd.R_mono (Kd.R_far (p := ⟨gb886, 1, none⟩) (Kd.R_far (p := ⟨gb886, 0, none⟩) (Kd.R_types HO880.out BK886.out (by decide)) (fun _ hk => hk.2) (.int .i64 t881)) (fun _ hk => hk.2) (.slice Ao42 t882.length co42)) (fun _ h_ => h_.1))))) (Kd.R_lt (by (with_reducible repeat (first | apply Kd.R_alloc | apply Kd.R_drewN | apply Kd.R_drew)); exact (Kd.R_mono (Kd.R_far (p := ⟨gb886, 1, none⟩) (Kd.R_far (p := ⟨gb886, 0, none⟩) (Kd.R_types HO884.out BK886.out (by decide)) (fun _ hk => hk.2) (.int .i64 t881)) (fun _ hk => hk.2) (.slice Ao42 t882.length co42)) (fun _ h_ => h_.1))))) (below_size (beQ HB))); replace HO876 := Aside0.mk (Kd.R_elder' (by (with_reducible repeat (first | apply Kd.R_alloc | apply Kd.R_drewN | apply Kd.R_drew)); exact (Kd.R_mono (Kd.R_far (p := ⟨gb886, 1, none⟩) (Kd.R_far (p := ⟨gb886, 0, none⟩) (Kd.R_types HO876.out BK886.out (by decide)) (fun _ hk => hk.2) (.int .i64 t881)) (fun _ hk => hk.2) (.slice Ao42 t882.length co42)) (fun _ h_ => h_.1))) (Kd.R_base ho0) hb); replace HO880 := Aside0.mk (Kd.R_elder' (by (with_reducible repeat (first | apply Kd.R_alloc | apply Kd.R_drewN | apply Kd.R_drew)); exact (Kd.R_mono (Kd.R_far (p := ⟨gb886, 1, none⟩) (Kd.R_far (p := ⟨gb886, 0, none⟩) (Kd.R_types HO880.out BK886.out (by decide)) (fun _ hk => hk.2) (.int .i64 t881)) (fun _ hk => hk.2) (.slice Ao42 t882.length co42)) (fun _ h_ => h_.1))) (Kd.R_base ho0) hb); replace HO884 := Aside0.mk (Kd.R_elder' (by (with_reducible repeat (first | apply Kd.R_alloc | apply Kd.R_drewN | apply Kd.R_drew)); exact (Kd.R_mono (Kd.R_far (p := ⟨gb886, 1, none⟩) (Kd.R_far (p := ⟨gb886, 0, none⟩) (Kd.R_types HO884.out BK886.out (by decide)) (fun _ hk => hk.2) (.int .i64 t881)) (fun _ hk => hk.2) (.slice Ao42 t882.length co42)) (fun _ h_ => h_.1))) (Kd.R_base ho0) hb); replace BK869 := Aside0.mk (blk_below (blkF BK869) hb); replace BK870 := Aside0.mk (blk_below (blkF BK870) hb); replace BK886 := Aside0.mk (blk_below (g := gb886) (o := .cells #[.int .i64 t881, .slice Ao42 t882.length co42] 38 (0, 0)) (by (with_reducible repeat (first | refine blk_drewN ?_ _ | refine blk_drew ?_ | refine blk_alloc ?_ _)); refine blk_put (cs := #[.int .i64 t881, .slice none 0 0]) ?_ 1 _ rfl; (with_reducible repeat (first | refine blk_drewN ?_ _ | refine blk_drew ?_ | refine blk_alloc ?_ _)); refine blk_put (cs := #[.int .i64 0, .slice none 0 0]) ?_ 0 _ rfl; (with_reducible repeat (first | refine blk_drewN ?_ _ | refine blk_drew ?_ | refine blk_alloc ?_ _)); exact BK886.out) hb); replace HB := Aside0.mk (below_step (beQ HB) hb); (try clear hb); (try clear hb2); (try clear hk); (try clear hi); (try clear ho0)) | ((with_reducible refine gate_dst (N := 8) rfl ?_); refine box_event ?hg (N := 8) ?hd (cs := #[.int .i64 0, .slice none 0 0]) (t := 38) ?hr ?_; (case hd => rfl); (case hg => rfl); (case hr => first | (go_simp; done) | (go_simp; rfl)); intro gb891 hg w47 hbox hb; replace HO876 := kb HO876 hb; replace HO880 := kb HO880 hb; replace HO884 := kb HO884 hb; replace HO890 := kb HO890 hb; have BK891 := Aside0.mk (hbox); have GW891 := Aside0.mk ((by rw [hg]; exact (below_size (beQ HB)) : w.heap.size ≤ gb891)); have GE891 := Aside0.mk ((by rw [hg]; exact (below_size (beQ HB)) : w.heap.size ≤ gb891)); replace HB := Aside0.mk (below_step (beQ HB) hb); have NB869_891 := Aside0.mk ((by rw [hg]; exact Nat.ne_of_lt (blk_lt (blkQ BK869)) : gb869 ≠ gb891)); have NB891_869 := Aside0.mk ((by rw [hg]; exact Nat.ne_of_gt (blk_lt (blkQ BK869)) : gb891 ≠ gb869)); replace BK869 := bb BK869 hb; have NB870_891 := Aside0.mk ((by rw [hg]; exact Nat.ne_of_lt (blk_lt (blkQ BK870)) : gb870 ≠ gb891)); have NB891_870 := Aside0.mk ((by rw [hg]; exact Nat.ne_of_gt (blk_lt (blkQ BK870)) : gb891 ≠ gb870)); replace BK870 := bb BK870 hb; have NB886_891 := Aside0.mk ((by rw [hg]; exact Nat.ne_of_lt (blk_lt (blkQ BK886)) : gb886 ≠ gb891)); have NB891_886 := Aside0.mk ((by rw [hg]; exact Nat.ne_of_gt (blk_lt (blkQ BK886)) : gb891 ≠ gb886)); replace BK886 := bb BK886 hb; clear hb hbox hg; have hnb48 := NB891_869.out; have hnc48 := NB869_891.out; have hnb49 := NB891_870.out; have hnc49 := NB870_891.out; have hnb50 := NB891_886.out; have hnc50 := NB886_891.out; have hcz51_0 : w47.cell? ⟨gb891, 0, none⟩ = some (.int .i64 0) := bc BK891 0; have hcz51_1 : w47.cell? ⟨gb891, 1, none⟩ = some (.slice none 0 0) := bc BK891 1; have hfz51_0 := blk_frozen BK891.out 0; have hfz51_1 := blk_frozen BK891.out 1; obtain ⟨Ao52, co52, eo52⟩ := Kd.R_slice HO890.out; subst eo52; have hnb53 := NB870_886.out; have hnc53 := NB886_870.out; have hcz54_0 : w47.cell? ⟨gb870, 0, none⟩ = some (.int .i64 a1_0) := bc BK870 0; have hcz54_1 : w47.cell? ⟨gb870, 1, none⟩ = some (.slice A1_1 l1_1.length c1_1) := bc BK870 1; have hfz54_0 := blk_frozen BK870.out 0; have hfz54_1 := blk_frozen BK870.out 1) | ((with_reducible refine gate_callee (f := 37) rfl ?_); refine goesL_ (some 38) rfl rfl Tryd.func37 (by kernel_rfl) rfl #[.agg #[.int .i64 a1_0, .slice A1_1 l1_1.length c1_1]] rfl lz ?_; (with_reducible refine (laws_toAlphabet.calls k a1_0 _ _ l1_1 t892 t893 _ ?side1 ?side2 A23.out).mono ?_); (case side1 => exact Kd.C_below HR1_1.out (beQ HB)); (case side2 => exact HC1_1.out); rintro e w55 ⟨v894, rfl, ho0, hb⟩; refine ⟨_, rfl, ?_⟩; have HO895 := Aside0.mk (Kd.R_lower (Kd.R_new' (Kd.R_new' (Kd.R_new' (Kd.R_new' ho0 (Kd.R_lt (by (with_reducible repeat (first | apply Kd.R_alloc | apply Kd.R_drewN | apply Kd.R_drew)); exact (Kd.R_mono (Kd.R_far (p := ⟨gb891, 1, none⟩) (Kd.R_far (p := ⟨gb891, 0, none⟩) (Kd.R_types HO876.out BK891.out (by decide)) (fun _ hk => hk.2) (.int .i64 t887)) (fun _ hk => hk.2) (.slice Ao52 t888.length co52)) (fun _ h_ => h_.1))))) (Kd.R_lt (by (with_reducible repeat (first | apply Kd.R_alloc | apply Kd.R_drewN | apply Kd.R_drew)); exact (Kd.R_mono (Kd.R_far (p := ⟨gb891, 1, none⟩) (Kd.R_far (p := ⟨gb891, 0, none⟩) (Kd.R_types HO880.out BK891.out (by decide)) (fun _ hk => hk.2) (.int .i64 t887)) (fun _ hk => hk.2) (.slice Ao52 t888.length co52)) (fun _ h_ => h_.1))))) (Kd.R_lt (by (with_reducible repeat (first | apply Kd.R_alloc | apply Kd.R_drewN | apply Kd.R_drew)); exact (Kd.R_mono (Kd.R_far (p := ⟨gb891, 1, none⟩) (Kd.R_far (p := ⟨gb891, 0, none⟩) (Kd.R_types HO884.out BK891.out (by decide)) (fun _ hk => hk.2) (.int .i64 t887)) (fun _ hk => hk.2) (.slice Ao52 t888.length co52)) (fun _ h_ => h_.1))))) (Kd.R_lt (by (with_reducible repeat (first | apply Kd.R_alloc | apply Kd.R_drewN | apply Kd.R_drew)); exact (Kd.R_mono (Kd.R_far (p := ⟨gb891, 1, none⟩) (Kd.R_far (p := ⟨gb891, 0, none⟩) (Kd.R_types HO890.out BK891.out (by decide)) (fun _ hk => hk.2) (.int .i64 t887)) (fun _ hk => hk.2) (.slice Ao52 t888.length co52)) (fun _ h_ => h_.1))))) (below_size (beQ HB))); replace HO876 := Aside0.mk (Kd.R_elder' (by (with_reducible repeat (first | apply Kd.R_alloc | apply Kd.R_drewN | apply Kd.R_drew)); exact (Kd.R_mono (Kd.R_far (p := ⟨gb891, 1, none⟩) (Kd.R_far (p := ⟨gb891, 0, none⟩) (Kd.R_types HO876.out BK891.out (by decide)) (fun _ hk => hk.2) (.int .i64 t887)) (fun _ hk => hk.2) (.slice Ao52 t888.length co52)) (fun _ h_ => h_.1))) (Kd.R_base ho0) hb); replace HO880 := Aside0.mk (Kd.R_elder' (by (with_reducible repeat (first | apply Kd.R_alloc | apply Kd.R_drewN | apply Kd.R_drew)); exact (Kd.R_mono (Kd.R_far (p := ⟨gb891, 1, none⟩) (Kd.R_far (p := ⟨gb891, 0, none⟩) (Kd.R_types HO880.out BK891.out (by decide)) (fun _ hk => hk.2) (.int .i64 t887)) (fun _ hk => hk.2) (.slice Ao52 t888.length co52)) (fun _ h_ => h_.1))) (Kd.R_base ho0) hb); replace HO884 := Aside0.mk (Kd.R_elder' (by (with_reducible repeat (first | apply Kd.R_alloc | apply Kd.R_drewN | apply Kd.R_drew)); exact (Kd.R_mono (Kd.R_far (p := ⟨gb891, 1, none⟩) (Kd.R_far (p := ⟨gb891, 0, none⟩) (Kd.R_types HO884.out BK891.out (by decide)) (fun _ hk => hk.2) (.int .i64 t887)) (fun _ hk => hk.2) (.slice Ao52 t888.length co52)) (fun _ h_ => h_.1))) (Kd.R_base ho0) hb); replace HO890 := Aside0.mk (Kd.R_elder' (by (with_reducible repeat (first | apply Kd.R_alloc | apply Kd.R_drewN | apply Kd.R_drew)); exact (Kd.R_mono (Kd.R_far (p := ⟨gb891, 1, none⟩) (Kd.R_far (p := ⟨gb891, 0, none⟩) (Kd.R_types HO890.out BK891.out (by decide)) (fun _ hk => hk.2) (.int .i64 t887)) (fun _ hk => hk.2) (.slice Ao52 t888.length co52)) (fun _ h_ => h_.1))) (Kd.R_base ho0) hb); replace BK869 := Aside0.mk (blk_below (blkF BK869) hb); replace BK870 := Aside0.mk (blk_below (blkF BK870) hb); replace BK886 := Aside0.mk (blk_below (blkF BK886) hb); replace BK891 := Aside0.mk (blk_below (g := gb891) (o := .cells #[.int .i64 t887, .slice Ao52 t888.length co52] 38 (0, 0)) (by (with_reducible repeat (first | refine blk_drewN ?_ _ | refine blk_drew ?_ | refine blk_alloc ?_ _)); refine blk_put (cs := #[.int .i64 t887, .slice none 0 0]) ?_ 1 _ rfl; (with_reducible repeat (first | refine blk_drewN ?_ _ | refine blk_drew ?_ | refine blk_alloc ?_ _)); refine blk_put (cs := #[.int .i64 0, .slice none 0 0]) ?_ 0 _ rfl; (with_reducible repeat (first | refine blk_drewN ?_ _ | refine blk_drew ?_ | refine blk_alloc ?_ _)); exact BK891.out) hb); replace HB := Aside0.mk (below_step (beQ HB) hb); (try clear hb); (try clear hb2); (try clear hk); (try clear hi); (try clear ho0)) | ((with_reducible refine gate_dst (N := 9) rfl ?_); refine box_event ?hg (N := 9) ?hd (cs := #[.int .i64 0, .slice none 0 0]) (t := 38) ?hr ?_; (case hd => rfl); (case hg => rfl); (case hr => first | (go_simp; done) | (go_simp; rfl)); intro gb896 hg w56 hbox hb; replace HO876 := kb HO876 hb; replace HO880 := kb HO880 hb; replace HO884 := kb HO884 hb; replace HO890 := kb HO890 hb; replace HO895 := kb HO895 hb; have BK896 := Aside0.mk (hbox); have GW896 := Aside0.mk ((by rw [hg]; exact (below_size (beQ HB)) : w.heap.size ≤ gb896)); have GE896 := Aside0.mk ((by rw [hg]; exact (below_size (beQ HB)) : w.heap.size ≤ gb896)); replace HB := Aside0.mk (below_step (beQ HB) hb); have NB869_896 := Aside0.mk ((by rw [hg]; exact Nat.ne_of_lt (blk_lt (blkQ BK869)) : gb869 ≠ gb896)); have NB896_869 := Aside0.mk ((by rw [hg]; exact Nat.ne_of_gt (blk_lt (blkQ BK869)) : gb896 ≠ gb869)); replace BK869 := bb BK869 hb; have NB870_896 := Aside0.mk ((by rw [hg]; exact Nat.ne_of_lt (blk_lt (blkQ BK870)) : gb870 ≠ gb896)); have NB896_870 := Aside0.mk ((by rw [hg]; exact Nat.ne_of_gt (blk_lt (blkQ BK870)) : gb896 ≠ gb870)); replace BK870 := bb BK870 hb; have NB886_896 := Aside0.mk ((by rw [hg]; exact Nat.ne_of_lt (blk_lt (blkQ BK886)) : gb886 ≠ gb896)); have NB896_886 := Aside0.mk ((by rw [hg]; exact Nat.ne_of_gt (blk_lt (blkQ BK886)) : gb896 ≠ gb886)); replace BK886 := bb BK886 hb; have NB891_896 := Aside0.mk ((by rw [hg]; exact Nat.ne_of_lt (blk_lt (blkQ BK891)) : gb891 ≠ gb896)); have NB896_891 := Aside0.mk ((by rw [hg]; exact Nat.ne_of_gt (blk_lt (blkQ BK891)) : gb896 ≠ gb891)); replace BK891 := bb BK891 hb; clear hb hbox hg; have hnb57 := NB896_869.out; have hnc57 := NB869_896.out; have hnb58 := NB896_870.out; have hnc58 := NB870_896.out; have hnb59 := NB896_886.out; have hnc59 := NB886_896.out; have hnb60 := NB896_891.out; have hnc60 := NB891_896.out; have hcz61_0 : w56.cell? ⟨gb896, 0, none⟩ = some (.int .i64 0) := bc BK896 0; have hcz61_1 : w56.cell? ⟨gb896, 1, none⟩ = some (.slice none 0 0) := bc BK896 1; have hfz61_0 := blk_frozen BK896.out 0; have hfz61_1 := blk_frozen BK896.out 1; obtain ⟨Ao62, co62, eo62⟩ := Kd.R_slice HO895.out; subst eo62; have hcz63_0 : w56.cell? ⟨gb891, 0, none⟩ = some (.int .i64 t887) := bc BK891 0; have hcz63_1 : w56.cell? ⟨gb891, 1, none⟩ = some (.slice Ao52 t888.length co52) := bc BK891 1; have hfz63_0 := blk_frozen BK891.out 0; have hfz63_1 := blk_frozen BK891.out 1) | ((with_reducible refine gate_callee (f := 46) rfl ?_); refine goesL_ (some 42) rfl rfl Tryd.func46 (by kernel_rfl) rfl #[.agg #[.int .i64 t887, .slice Ao52 t888.length co52], .agg #[.int .i64 t892, .slice Ao62 t893.length co62]] rfl lz ?_; (with_reducible refine (impl_FreeProduct.calls k t887 _ _ t888 t892 _ _ t893 t897 t898 t901 _ ?side1 ?side2 ?side3 ?side4 ?side5 A24.out).mono ?_); (case side1 => refine (Kd.R_reads' (e := 2) (base := w.heap.size) (ok := fun k_ => ((((True ∧ some k_ ≠ (v875 : Value).ownBlock) ∧ some k_ ≠ (v879 : Value).ownBlock) ∧ some k_ ≠ (.slice Ao42 t882.length co42 : Value).ownBlock) ∧ some k_ ≠ (.slice Ao62 t893.length co62 : Value).ownBlock)) (n := t888.length) (c := co52) ?_).2.2; exact (by (with_reducible repeat (first | apply Kd.R_alloc | apply Kd.R_drewN | apply Kd.R_drew)); exact (Kd.R_mono (Kd.R_far (p := ⟨gb896, 1, none⟩) (Kd.R_far (p := ⟨gb896, 0, none⟩) (Kd.R_types HO890.out BK896.out (by decide)) (fun _ hk => hk.2) (.int .i64 t892)) (fun _ hk => hk.2) (.slice Ao62 t893.length co62)) (fun _ h_ => h_.1)))); (case side2 => exact (Kd.R_reads' HO890.out).2.1); (case side3 => refine (Kd.R_reads' (e := 2) (base := w.heap.size) (ok := fun k_ => ((((True ∧ some k_ ≠ (v875 : Value).ownBlock) ∧ some k_ ≠ (v879 : Value).ownBlock) ∧ some k_ ≠ (.slice Ao42 t882.length co42 : Value).ownBlock) ∧ some k_ ≠ (.slice Ao52 t888.length co52 : Value).ownBlock)) (n := t893.length) (c := co62) ?_).2.2; exact (by (with_reducible repeat (first | apply Kd.R_alloc | apply Kd.R_drewN | apply Kd.R_drew)); exact (Kd.R_mono (Kd.R_far (p := ⟨gb896, 1, none⟩) (Kd.R_far (p := ⟨gb896, 0, none⟩) (Kd.R_types HO895.out BK896.out (by decide)) (fun _ hk => hk.2) (.int .i64 t892)) (fun _ hk => hk.2) (.slice Ao62 t893.length co62)) (fun _ h_ => h_.1)))); (case side4 => exact (Kd.R_reads' HO895.out).2.1); (case side5 => exact TabW.below HT.out (beQ HB)); rintro e w64 ⟨v899, rfl, ho0, hb⟩; refine ⟨_, rfl, ?_⟩; have HO900 := Aside0.mk (Kd.R_lower (Kd.R_new' (Kd.R_new' (Kd.R_new' (Kd.R_new' (Kd.R_new' ho0 (Kd.R_lt (by (with_reducible repeat (first | apply Kd.R_alloc | apply Kd.R_drewN | apply Kd.R_drew)); exact (Kd.R_mono (Kd.R_far (p := ⟨gb896, 1, none⟩) (Kd.R_far (p := ⟨gb896, 0, none⟩) (Kd.R_types HO876.out BK896.out (by decide)) (fun _ hk => hk.2) (.int .i64 t892)) (fun _ hk => hk.2) (.slice Ao62 t893.length co62)) (fun _ h_ => h_.1))))) (Kd.R_lt (by (with_reducible repeat (first | apply Kd.R_alloc | apply Kd.R_drewN | apply Kd.R_drew)); exact (Kd.R_mono (Kd.R_far (p := ⟨gb896, 1, none⟩) (Kd.R_far (p := ⟨gb896, 0, none⟩) (Kd.R_types HO880.out BK896.out (by decide)) (fun _ hk => hk.2) (.int .i64 t892)) (fun _ hk => hk.2) (.slice Ao62 t893.length co62)) (fun _ h_ => h_.1))))) (Kd.R_lt (by (with_reducible repeat (first | apply Kd.R_alloc | apply Kd.R_drewN | apply Kd.R_drew)); exact (Kd.R_mono (Kd.R_far (p := ⟨gb896, 1, none⟩) (Kd.R_far (p := ⟨gb896, 0, none⟩) (Kd.R_types HO884.out BK896.out (by decide)) (fun _ hk => hk.2) (.int .i64 t892)) (fun _ hk => hk.2) (.slice Ao62 t893.length co62)) (fun _ h_ => h_.1))))) (Kd.R_lt (by (with_reducible repeat (first | apply Kd.R_alloc | apply Kd.R_drewN | apply Kd.R_drew)); exact (Kd.R_mono (Kd.R_far (p := ⟨gb896, 1, none⟩) (Kd.R_far (p := ⟨gb896, 0, none⟩) (Kd.R_types HO890.out BK896.out (by decide)) (fun _ hk => hk.2) (.int .i64 t892)) (fun _ hk => hk.2) (.slice Ao62 t893.length co62)) (fun _ h_ => h_.1))))) (Kd.R_lt (by (with_reducible repeat (first | apply Kd.R_alloc | apply Kd.R_drewN | apply Kd.R_drew)); exact (Kd.R_mono (Kd.R_far (p := ⟨gb896, 1, none⟩) (Kd.R_far (p := ⟨gb896, 0, none⟩) (Kd.R_types HO895.out BK896.out (by decide)) (fun _ hk => hk.2) (.int .i64 t892)) (fun _ hk => hk.2) (.slice Ao62 t893.length co62)) (fun _ h_ => h_.1))))) (below_size (beQ HB))); replace HO876 := Aside0.mk (Kd.R_elder' (by (with_reducible repeat (first | apply Kd.R_alloc | apply Kd.R_drewN | apply Kd.R_drew)); exact (Kd.R_mono (Kd.R_far (p := ⟨gb896, 1, none⟩) (Kd.R_far (p := ⟨gb896, 0, none⟩) (Kd.R_types HO876.out BK896.out (by decide)) (fun _ hk => hk.2) (.int .i64 t892)) (fun _ hk => hk.2) (.slice Ao62 t893.length co62)) (fun _ h_ => h_.1))) (Kd.R_base ho0) hb); replace HO880 := Aside0.mk (Kd.R_elder' (by (with_reducible repeat (first | apply Kd.R_alloc | apply Kd.R_drewN | apply Kd.R_drew)); exact (Kd.R_mono (Kd.R_far (p := ⟨gb896, 1, none⟩) (Kd.R_far (p := ⟨gb896, 0, none⟩) (Kd.R_types HO880.out BK896.out (by decide)) (fun _ hk => hk.2) (.int .i64 t892)) (fun _ hk => hk.2) (.slice Ao62 t893.length co62)) (fun _ h_ => h_.1))) (Kd.R_base ho0) hb); replace HO884 := Aside0.mk (Kd.R_elder' (by (with_reducible repeat (first | apply Kd.R_alloc | apply Kd.R_drewN | apply Kd.R_drew)); exact (Kd.R_mono (Kd.R_far (p := ⟨gb896, 1, none⟩) (Kd.R_far (p := ⟨gb896, 0, none⟩) (Kd.R_types HO884.out BK896.out (by decide)) (fun _ hk => hk.2) (.int .i64 t892)) (fun _ hk => hk.2) (.slice Ao62 t893.length co62)) (fun _ h_ => h_.1))) (Kd.R_base ho0) hb); replace HO890 := Aside0.mk (Kd.R_elder' (by (with_reducible repeat (first | apply Kd.R_alloc | apply Kd.R_drewN | apply Kd.R_drew)); exact (Kd.R_mono (Kd.R_far (p := ⟨gb896, 1, none⟩) (Kd.R_far (p := ⟨gb896, 0, none⟩) (Kd.R_types HO890.out BK896.out (by decide)) (fun _ hk => hk.2) (.int .i64 t892)) (fun _ hk => hk.2) (.slice Ao62 t893.length co62)) (fun _ h_ => h_.1))) (Kd.R_base ho0) hb); replace HO895 := Aside0.mk (Kd.R_elder' (by (with_reducible repeat (first | apply Kd.R_alloc | apply Kd.R_drewN | apply Kd.R_drew)); exact (Kd.R_mono (Kd.R_far (p := ⟨gb896, 1, none⟩) (Kd.R_far (p := ⟨gb896, 0, none⟩) (Kd.R_types HO895.out BK896.out (by decide)) (fun _ hk => hk.2) (.int .i64 t892)) (fun _ hk => hk.2) (.slice Ao62 t893.length co62)) (fun _ h_ => h_.1))) (Kd.R_base ho0) hb); replace BK869 := Aside0.mk (blk_below (blkF BK869) hb); replace BK870 := Aside0.mk (blk_below (blkF BK870) hb); replace BK886 := Aside0.mk (blk_below (blkF BK886) hb); replace BK891 := Aside0.mk (blk_below (blkF BK891) hb); replace BK896 := Aside0.mk (blk_below (g := gb896) (o := .cells #[.int .i64 t892, .slice Ao62 t893.length co62] 38 (0, 0)) (by (with_reducible repeat (first | refine blk_drewN ?_ _ | refine blk_drew ?_ | refine blk_alloc ?_ _)); refine blk_put (cs := #[.int .i64 t892, .slice none 0 0]) ?_ 1 _ rfl; (with_reducible repeat (first | refine blk_drewN ?_ _ | refine blk_drew ?_ | refine blk_alloc ?_ _)); refine blk_put (cs := #[.int .i64 0, .slice none 0 0]) ?_ 0 _ rfl; (with_reducible repeat (first | refine blk_drewN ?_ _ | refine blk_drew ?_ | refine blk_alloc ?_ _)); exact BK896.out) hb); replace HB := Aside0.mk (below_step (beQ HB) hb); (try clear hb); (try clear hb2); (try clear hk); (try clear hi); (try clear ho0)) | ((with_reducible refine gate_dst (N := 10) rfl ?_); refine box_event ?hg (N := 10) ?hd (cs := #[.int .i64 0, .slice none 0 0]) (t := 38) ?hr ?_; (case hd => rfl); (case hg => rfl); (case hr => first | (go_simp; done) | (go_simp; rfl)); intro gb902 hg w65 hbox hb; replace HO876 := kb HO876 hb; replace HO880 := kb HO880 hb; replace HO884 := kb HO884 hb; replace HO890 := kb HO890 hb; replace HO895 := kb HO895 hb; replace HO900 := kb HO900 hb; have BK902 := Aside0.mk (hbox); have GW902 := Aside0.mk ((by rw [hg]; exact (below_size (beQ HB)) : w.heap.size ≤ gb902)); have GE902 := Aside0.mk ((by rw [hg]; exact (below_size (beQ HB)) : w.heap.size ≤ gb902)); replace HB := Aside0.mk (below_step (beQ HB) hb); have NB869_902 := Aside0.mk ((by rw [hg]; exact Nat.ne_of_lt (blk_lt (blkQ BK869)) : gb869 ≠ gb902)); have NB902_869 := Aside0.mk ((by rw [hg]; exact Nat.ne_of_gt (blk_lt (blkQ BK869)) : gb902 ≠ gb869)); replace BK869 := bb BK869 hb; have NB870_902 := Aside0.mk ((by rw [hg]; exact Nat.ne_of_lt (blk_lt (blkQ BK870)) : gb870 ≠ gb902)); have NB902_870 := Aside0.mk ((by rw [hg]; exact Nat.ne_of_gt (blk_lt (blkQ BK870)) : gb902 ≠ gb870)); replace BK870 := bb BK870 hb; have NB886_902 := Aside0.mk ((by rw [hg]; exact Nat.ne_of_lt (blk_lt (blkQ BK886)) : gb886 ≠ gb902)); have NB902_886 := Aside0.mk ((by rw [hg]; exact Nat.ne_of_gt (blk_lt (blkQ BK886)) : gb902 ≠ gb886)); replace BK886 := bb BK886 hb; have NB891_902 := Aside0.mk ((by rw [hg]; exact Nat.ne_of_lt (blk_lt (blkQ BK891)) : gb891 ≠ gb902)); have NB902_891 := Aside0.mk ((by rw [hg]; exact Nat.ne_of_gt (blk_lt (blkQ BK891)) : gb902 ≠ gb891)); replace BK891 := bb BK891 hb; have NB896_902 := Aside0.mk ((by rw [hg]; exact Nat.ne_of_lt (blk_lt (blkQ BK896)) : gb896 ≠ gb902)); have NB902_896 := Aside0.mk ((by rw [hg]; exact Nat.ne_of_gt (blk_lt (blkQ BK896)) : gb902 ≠ gb896)); replace BK896 := bb BK896 hb; clear hb hbox hg; have hnb66 := NB902_869.out; have hnc66 := NB869_902.out; have hnb67 := NB902_870.out; have hnc67 := NB870_902.out; have hnb68 := NB902_886.out; have hnc68 := NB886_902.out; have hnb69 := NB902_891.out; have hnc69 := NB891_902.out; have hnb70 := NB902_896.out; have hnc70 := NB896_902.out; have hcz71_0 : w65.cell? ⟨gb902, 0, none⟩ = some (.int .i64 0) := bc BK902 0; have hcz71_1 : w65.cell? ⟨gb902, 1, none⟩ = some (.slice none 0 0) := bc BK902 1; have hfz71_0 := blk_frozen BK902.out 0; have hfz71_1 := blk_frozen BK902.out 1; obtain ⟨Ao72, co72, eo72⟩ := Kd.R_slice HO900.out; subst eo72))
   (try simp only [Act.put, List.setIfInBounds_toArray, List.set_cons_zero, List.set_cons_succ])
   go_cut [53] (fun v53 wc => ∃ (kq : Nat) (x53_24 : Bool), v53 = .bool x53_24 ∧ Aside0 (laws_FnExactFreeProduct.j0 kq t885 t901 x53_24 a0_0 l0_1 a1_0 l1_1 t881 t882 t887 t888 t892 t893 t897 t898 = some r) ∧ Aside0 (kq ≤ k) ∧ Aside0 (Kd.R (Kd.int .i64) 2 wc w.heap.size (fun k_ => some k_ ≠ ((.slice Ao52 t888.length co52) : Value).ownBlock ∧ some k_ ≠ ((.slice Ao62 t893.length co62) : Value).ownBlock ∧ some k_ ≠ ((.slice Ao72 t898.length co72) : Value).ownBlock) (.slice Ao42 t882.length co42) t882) ∧ Aside0 (Kd.R (Kd.int .i64) 2 wc w.heap.size (fun k_ => some k_ ≠ ((.slice Ao42 t882.length co42) : Value).ownBlock ∧ some k_ ≠ ((.slice Ao62 t893.length co62) : Value).ownBlock ∧ some k_ ≠ ((.slice Ao72 t898.length co72) : Value).ownBlock) (.slice Ao52 t888.length co52) t888) ∧ Aside0 (Kd.R (Kd.int .i64) 2 wc w.heap.size (fun k_ => some k_ ≠ ((.slice Ao42 t882.length co42) : Value).ownBlock ∧ some k_ ≠ ((.slice Ao52 t888.length co52) : Value).ownBlock ∧ some k_ ≠ ((.slice Ao72 t898.length co72) : Value).ownBlock) (.slice Ao62 t893.length co62) t893) ∧ Aside0 (Kd.R (Kd.int .i64) 2 wc w.heap.size (fun k_ => some k_ ≠ ((.slice Ao42 t882.length co42) : Value).ownBlock ∧ some k_ ≠ ((.slice Ao52 t888.length co52) : Value).ownBlock ∧ some k_ ≠ ((.slice Ao62 t893.length co62) : Value).ownBlock) (.slice Ao72 t898.length co72) t898) ∧ Aside0 (wc.heap[gb869]? = some (.cells #[.int .i64 a0_0, (.slice A0_1 l0_1.length c0_1)] 46 (0, 0))) ∧ Aside0 (wc.heap[gb870]? = some (.cells #[.int .i64 a1_0, (.slice A1_1 l1_1.length c1_1)] 46 (0, 0))) ∧ Aside0 (wc.heap[gb886]? = some (.cells #[.int .i64 t881, (.slice Ao42 t882.length co42)] 38 (0, 0))) ∧ Aside0 (wc.heap[gb891]? = some (.cells #[.int .i64 t887, (.slice Ao52 t888.length co52)] 38 (0, 0))) ∧ Aside0 (wc.heap[gb896]? = some (.cells #[.int .i64 t892, (.slice Ao62 t893.length co62)] 38 (0, 0))) ∧ Aside0 (wc.heap[gb902]? = some (.cells #[.int .i64 t897, (.slice Ao72 t898.length co72)] 38 (0, 0))) ∧ Aside0 (Below w.heap.size w wc))
   case first =>
    have H := HC25.out; clear HC25; replace H := Option.bind_eq_some_iff.mp H; obtain ⟨t903, A730, H⟩ := H
    replace H : (if t903 = true then (laws_FnExactFreeProduct.j0 k t885 t901 (t901 != t885) a0_0 l0_1 a1_0 l1_1 t881 t882 t887 t888 t892 t893 t897 t898) else (laws_FnExactFreeProduct.j0 k t885 t901 true a0_0 l0_1 a1_0 l1_1 t881 t882 t887 t888 t892 t893 t897 t898)) = some r := H
    have A73 := Aside0.mk A730; clear A730
    by_cases c74 : t903 = true
    ·subst c74
     have H1 : (laws_FnExactFreeProduct.j0 k t885 t901 (t901 != t885) a0_0 l0_1 a1_0 l1_1 t881 t882 t887 t888 t892 t893 t897 t898) = some r := by rw [if_pos rfl] at H; exact H
     clear H; have H := H1; clear H1
     have H' := Aside0.mk H
     clear H; have hnb75 := NB902_869.out; have hnc75 := NB869_902.out; have hnb76 := NB902_870.out; have hnc76 := NB870_902.out; have hnb77 := NB902_886.out; have hnc77 := NB886_902.out; have hnb78 := NB902_891.out; have hnc78 := NB891_902.out; have hnb79 := NB902_896.out; have hnc79 := NB896_902.out
     have hcz80_0 : w65.cell? ⟨gb902, 0, none⟩ = some (.int .i64 0) := bc BK902 0
     have hcz80_1 : w65.cell? ⟨gb902, 1, none⟩ = some (.slice none 0 0) := bc BK902 1
     have hfz80_0 := blk_frozen BK902.out 0; have hfz80_1 := blk_frozen BK902.out 1; have hnb81 := NB886_869.out; have hnc81 := NB869_886.out; have hnb82 := NB886_870.out; have hnc82 := NB870_886.out; have hnb83 := NB886_891.out; have hnc83 := NB891_886.out; have hnb84 := NB886_896.out; have hnc84 := NB896_886.out
     have hcz85_0 : w65.cell? ⟨gb886, 0, none⟩ = some (.int .i64 t881) := bc BK886 0
     have hcz85_1 : w65.cell? ⟨gb886, 1, none⟩ = some (.slice Ao42 t882.length co42) := bc BK886 1
     have hfz85_0 := blk_frozen BK886.out 0; have hfz85_1 := blk_frozen BK886.out 1
     go_wp2_with (first | ((with_reducible refine gate_callee (f := 26) rfl ?_); refine goesL_ (some 47) rfl rfl Tryd.func26 (by kernel_rfl) rfl #[.agg #[.int .i64 t897, .slice Ao72 t898.length co72], .agg #[.int .i64 t881, .slice Ao42 t882.length co42]] rfl lz ?_; (with_reducible refine (laws_eqAlphabet.calls k t897 _ _ t898 t881 _ _ t882 true _ ?side1 ?side2 ?side3 ?side4 A73.out).mono ?_); (case side1 => refine (Kd.R_reads' (e := 2) (base := w.heap.size) (ok := fun k_ => (((((True ∧ some k_ ≠ (v875 : Value).ownBlock) ∧ some k_ ≠ (v879 : Value).ownBlock) ∧ some k_ ≠ (.slice Ao42 t882.length co42 : Value).ownBlock) ∧ some k_ ≠ (.slice Ao52 t888.length co52 : Value).ownBlock) ∧ some k_ ≠ (.slice Ao62 t893.length co62 : Value).ownBlock)) (n := t898.length) (c := co72) ?_).2.2; exact (by (with_reducible repeat (first | apply Kd.R_alloc | apply Kd.R_drewN | apply Kd.R_drew)); exact (Kd.R_mono (Kd.R_far (p := ⟨gb902, 1, none⟩) (Kd.R_far (p := ⟨gb902, 0, none⟩) (Kd.R_types HO900.out BK902.out (by decide)) (fun _ hk => hk.2) (.int .i64 t897)) (fun _ hk => hk.2) (.slice Ao72 t898.length co72)) (fun _ h_ => h_.1)))); (case side2 => exact (Kd.R_reads' HO900.out).2.1); (case side3 => refine (Kd.R_reads' (e := 2) (base := w.heap.size) (ok := fun k_ => ((((some k_ ≠ (v875 : Value).ownBlock ∧ some k_ ≠ (v879 : Value).ownBlock) ∧ some k_ ≠ (.slice Ao52 t888.length co52 : Value).ownBlock) ∧ some k_ ≠ (.slice Ao62 t893.length co62 : Value).ownBlock) ∧ some k_ ≠ (.slice Ao72 t898.length co72 : Value).ownBlock)) (n := t882.length) (c := co42) ?_).2.2; exact (by (with_reducible repeat (first | apply Kd.R_alloc | apply Kd.R_drewN | apply Kd.R_drew)); exact (Kd.R_mono (Kd.R_far (p := ⟨gb902, 1, none⟩) (Kd.R_far (p := ⟨gb902, 0, none⟩) (Kd.R_types HO884.out BK902.out (by decide)) (fun _ hk => hk.2) (.int .i64 t897)) (fun _ hk => hk.2) (.slice Ao72 t898.length co72)) (fun _ h_ => h_.1)))); (case side4 => exact (Kd.R_reads' HO884.out).2.1); rintro e w86 ⟨rfl, hb⟩; refine ⟨_, rfl, ?_⟩; replace HO876 := Aside0.mk (Kd.R_below (by (with_reducible repeat (first | apply Kd.R_alloc | apply Kd.R_drewN | apply Kd.R_drew)); exact (Kd.R_mono (Kd.R_far (p := ⟨gb902, 1, none⟩) (Kd.R_far (p := ⟨gb902, 0, none⟩) (Kd.R_types HO876.out BK902.out (by decide)) (fun _ hk => hk.2) (.int .i64 t897)) (fun _ hk => hk.2) (.slice Ao72 t898.length co72)) (fun _ h_ => h_.1))) hb); replace HO880 := Aside0.mk (Kd.R_below (by (with_reducible repeat (first | apply Kd.R_alloc | apply Kd.R_drewN | apply Kd.R_drew)); exact (Kd.R_mono (Kd.R_far (p := ⟨gb902, 1, none⟩) (Kd.R_far (p := ⟨gb902, 0, none⟩) (Kd.R_types HO880.out BK902.out (by decide)) (fun _ hk => hk.2) (.int .i64 t897)) (fun _ hk => hk.2) (.slice Ao72 t898.length co72)) (fun _ h_ => h_.1))) hb); replace HO884 := Aside0.mk (Kd.R_below (by (with_reducible repeat (first | apply Kd.R_alloc | apply Kd.R_drewN | apply Kd.R_drew)); exact (Kd.R_mono (Kd.R_far (p := ⟨gb902, 1, none⟩) (Kd.R_far (p := ⟨gb902, 0, none⟩) (Kd.R_types HO884.out BK902.out (by decide)) (fun _ hk => hk.2) (.int .i64 t897)) (fun _ hk => hk.2) (.slice Ao72 t898.length co72)) (fun _ h_ => h_.1))) hb); replace HO890 := Aside0.mk (Kd.R_below (by (with_reducible repeat (first | apply Kd.R_alloc | apply Kd.R_drewN | apply Kd.R_drew)); exact (Kd.R_mono (Kd.R_far (p := ⟨gb902, 1, none⟩) (Kd.R_far (p := ⟨gb902, 0, none⟩) (Kd.R_types HO890.out BK902.out (by decide)) (fun _ hk => hk.2) (.int .i64 t897)) (fun _ hk => hk.2) (.slice Ao72 t898.length co72)) (fun _ h_ => h_.1))) hb); replace HO895 := Aside0.mk (Kd.R_below (by (with_reducible repeat (first | apply Kd.R_alloc | apply Kd.R_drewN | apply Kd.R_drew)); exact (Kd.R_mono (Kd.R_far (p := ⟨gb902, 1, none⟩) (Kd.R_far (p := ⟨gb902, 0, none⟩) (Kd.R_types HO895.out BK902.out (by decide)) (fun _ hk => hk.2) (.int .i64 t897)) (fun _ hk => hk.2) (.slice Ao72 t898.length co72)) (fun _ h_ => h_.1))) hb); replace HO900 := Aside0.mk (Kd.R_below (by (with_reducible repeat (first | apply Kd.R_alloc | apply Kd.R_drewN | apply Kd.R_drew)); exact (Kd.R_mono (Kd.R_far (p := ⟨gb902, 1, none⟩) (Kd.R_far (p := ⟨gb902, 0, none⟩) (Kd.R_types HO900.out BK902.out (by decide)) (fun _ hk => hk.2) (.int .i64 t897)) (fun _ hk => hk.2) (.slice Ao72 t898.length co72)) (fun _ h_ => h_.1))) hb); replace BK869 := Aside0.mk (blk_below (blkF BK869) hb); replace BK870 := Aside0.mk (blk_below (blkF BK870) hb); replace BK886 := Aside0.mk (blk_below (blkF BK886) hb); replace BK891 := Aside0.mk (blk_below (blkF BK891) hb); replace BK896 := Aside0.mk (blk_below (blkF BK896) hb); replace BK902 := Aside0.mk (blk_below (g := gb902) (o := .cells #[.int .i64 t897, .slice Ao72 t898.length co72] 38 (0, 0)) (by (with_reducible repeat (first | refine blk_drewN ?_ _ | refine blk_drew ?_ | refine blk_alloc ?_ _)); refine blk_put (cs := #[.int .i64 t897, .slice none 0 0]) ?_ 1 _ rfl; (with_reducible repeat (first | refine blk_drewN ?_ _ | refine blk_drew ?_ | refine blk_alloc ?_ _)); refine blk_put (cs := #[.int .i64 0, .slice none 0 0]) ?_ 0 _ rfl; (with_reducible repeat (first | refine blk_drewN ?_ _ | refine blk_drew ?_ | refine blk_alloc ?_ _)); exact BK902.out) hb); replace HB := Aside0.mk (below_step (beQ HB) hb); (try clear hb); (try clear hb2); (try clear hk); (try clear hi)))
     go_meet
     case rel => exact ⟨_, ((t901 != t885)), sz, H', ⟨by first | omega | exact Nat.le_refl _⟩, ⟨by (with_reducible repeat (first | apply Kd.R_alloc | apply Kd.R_drewN | apply Kd.R_drew)); exact Kd.R_mono HO884.out (fun _ hk => ⟨hk.1.1.2, ⟨hk.1.2, hk.2⟩⟩)⟩, ⟨by (with_reducible repeat (first | apply Kd.R_alloc | apply Kd.R_drewN | apply Kd.R_drew)); exact Kd.R_mono HO890.out (fun _ hk => ⟨hk.1.1.2, ⟨hk.1.2, hk.2⟩⟩)⟩, ⟨by (with_reducible repeat (first | apply Kd.R_alloc | apply Kd.R_drewN | apply Kd.R_drew)); exact Kd.R_mono HO895.out (fun _ hk => ⟨hk.1.1.2, ⟨hk.1.2, hk.2⟩⟩)⟩, ⟨by (with_reducible repeat (first | apply Kd.R_alloc | apply Kd.R_drewN | apply Kd.R_drew)); exact Kd.R_mono HO900.out (fun _ hk => ⟨hk.1.1.2, ⟨hk.1.2, hk.2⟩⟩)⟩, ⟨blkQ BK869⟩, ⟨blkQ BK870⟩, ⟨blkQ BK886⟩, ⟨blkQ BK891⟩, ⟨blkQ BK896⟩, ⟨blkQ BK902⟩, ⟨beQ HB⟩⟩
    ·replace c74 := Bool.eq_false_iff.mpr c74
     subst c74
     have H1 : (laws_FnExactFreeProduct.j0 k t885 t901 true a0_0 l0_1 a1_0 l1_1 t881 t882 t887 t888 t892 t893 t897 t898) = some r := by rw [if_neg (show ¬ (false = true) by decide)] at H; exact H
     clear H; have H := H1; clear H1
     have H' := Aside0.mk H
     clear H; have hnb87 := NB902_869.out; have hnc87 := NB869_902.out; have hnb88 := NB902_870.out; have hnc88 := NB870_902.out; have hnb89 := NB902_886.out; have hnc89 := NB886_902.out; have hnb90 := NB902_891.out; have hnc90 := NB891_902.out; have hnb91 := NB902_896.out; have hnc91 := NB896_902.out
     have hcz92_0 : w65.cell? ⟨gb902, 0, none⟩ = some (.int .i64 0) := bc BK902 0
     have hcz92_1 : w65.cell? ⟨gb902, 1, none⟩ = some (.slice none 0 0) := bc BK902 1
     have hfz92_0 := blk_frozen BK902.out 0; have hfz92_1 := blk_frozen BK902.out 1; have hnb93 := NB886_869.out; have hnc93 := NB869_886.out; have hnb94 := NB886_870.out; have hnc94 := NB870_886.out; have hnb95 := NB886_891.out; have hnc95 := NB891_886.out; have hnb96 := NB886_896.out; have hnc96 := NB896_886.out
     have hcz97_0 : w65.cell? ⟨gb886, 0, none⟩ = some (.int .i64 t881) := bc BK886 0
     have hcz97_1 : w65.cell? ⟨gb886, 1, none⟩ = some (.slice Ao42 t882.length co42) := bc BK886 1
     have hfz97_0 := blk_frozen BK886.out 0; have hfz97_1 := blk_frozen BK886.out 1
     go_wp2_with (first | ((with_reducible refine gate_callee (f := 26) rfl ?_); refine goesL_ (some 47) rfl rfl Tryd.func26 (by kernel_rfl) rfl #[.agg #[.int .i64 t897, .slice Ao72 t898.length co72], .agg #[.int .i64 t881, .slice Ao42 t882.length co42]] rfl lz ?_; (with_reducible refine (laws_eqAlphabet.calls k t897 _ _ t898 t881 _ _ t882 false _ ?side1 ?side2 ?side3 ?side4 A73.out).mono ?_); (case side1 => refine (Kd.R_reads' (e := 2) (base := w.heap.size) (ok := fun k_ => (((((True ∧ some k_ ≠ (v875 : Value).ownBlock) ∧ some k_ ≠ (v879 : Value).ownBlock) ∧ some k_ ≠ (.slice Ao42 t882.length co42 : Value).ownBlock) ∧ some k_ ≠ (.slice Ao52 t888.length co52 : Value).ownBlock) ∧ some k_ ≠ (.slice Ao62 t893.length co62 : Value).ownBlock)) (n := t898.length) (c := co72) ?_).2.2; exact (by (with_reducible repeat (first | apply Kd.R_alloc | apply Kd.R_drewN | apply Kd.R_drew)); exact (Kd.R_mono (Kd.R_far (p := ⟨gb902, 1, none⟩) (Kd.R_far (p := ⟨gb902, 0, none⟩) (Kd.R_types HO900.out BK902.out (by decide)) (fun _ hk => hk.2) (.int .i64 t897)) (fun _ hk => hk.2) (.slice Ao72 t898.length co72)) (fun _ h_ => h_.1)))); (case side2 => exact (Kd.R_reads' HO900.out).2.1); (case side3 => refine (Kd.R_reads' (e := 2) (base := w.heap.size) (ok := fun k_ => ((((some k_ ≠ (v875 : Value).ownBlock ∧ some k_ ≠ (v879 : Value).ownBlock) ∧ some k_ ≠ (.slice Ao52 t888.length co52 : Value).ownBlock) ∧ some k_ ≠ (.slice Ao62 t893.length co62 : Value).ownBlock) ∧ some k_ ≠ (.slice Ao72 t898.length co72 : Value).ownBlock)) (n := t882.length) (c := co42) ?_).2.2; exact (by (with_reducible repeat (first | apply Kd.R_alloc | apply Kd.R_drewN | apply Kd.R_drew)); exact (Kd.R_mono (Kd.R_far (p := ⟨gb902, 1, none⟩) (Kd.R_far (p := ⟨gb902, 0, none⟩) (Kd.R_types HO884.out BK902.out (by decide)) (fun _ hk => hk.2) (.int .i64 t897)) (fun _ hk => hk.2) (.slice Ao72 t898.length co72)) (fun _ h_ => h_.1)))); (case side4 => exact (Kd.R_reads' HO884.out).2.1); rintro e w98 ⟨rfl, hb⟩; refine ⟨_, rfl, ?_⟩; replace HO876 := Aside0.mk (Kd.R_below (by (with_reducible repeat (first | apply Kd.R_alloc | apply Kd.R_drewN | apply Kd.R_drew)); exact (Kd.R_mono (Kd.R_far (p := ⟨gb902, 1, none⟩) (Kd.R_far (p := ⟨gb902, 0, none⟩) (Kd.R_types HO876.out BK902.out (by decide)) (fun _ hk => hk.2) (.int .i64 t897)) (fun _ hk => hk.2) (.slice Ao72 t898.length co72)) (fun _ h_ => h_.1))) hb); replace HO880 := Aside0.mk (Kd.R_below (by (with_reducible repeat (first | apply Kd.R_alloc | apply Kd.R_drewN | apply Kd.R_drew)); exact (Kd.R_mono (Kd.R_far (p := ⟨gb902, 1, none⟩) (Kd.R_far (p := ⟨gb902, 0, none⟩) (Kd.R_types HO880.out BK902.out (by decide)) (fun _ hk => hk.2) (.int .i64 t897)) (fun _ hk => hk.2) (.slice Ao72 t898.length co72)) (fun _ h_ => h_.1))) hb); replace HO884 := Aside0.mk (Kd.R_below (by (with_reducible repeat (first | apply Kd.R_alloc | apply Kd.R_drewN | apply Kd.R_drew)); exact (Kd.R_mono (Kd.R_far (p := ⟨gb902, 1, none⟩) (Kd.R_far (p := ⟨gb902, 0, none⟩) (Kd.R_types HO884.out BK902.out (by decide)) (fun _ hk => hk.2) (.int .i64 t897)) (fun _ hk => hk.2) (.slice Ao72 t898.length co72)) (fun _ h_ => h_.1))) hb); replace HO890 := Aside0.mk (Kd.R_below (by (with_reducible repeat (first | apply Kd.R_alloc | apply Kd.R_drewN | apply Kd.R_drew)); exact (Kd.R_mono (Kd.R_far (p := ⟨gb902, 1, none⟩) (Kd.R_far (p := ⟨gb902, 0, none⟩) (Kd.R_types HO890.out BK902.out (by decide)) (fun _ hk => hk.2) (.int .i64 t897)) (fun _ hk => hk.2) (.slice Ao72 t898.length co72)) (fun _ h_ => h_.1))) hb); replace HO895 := Aside0.mk (Kd.R_below (by (with_reducible repeat (first | apply Kd.R_alloc | apply Kd.R_drewN | apply Kd.R_drew)); exact (Kd.R_mono (Kd.R_far (p := ⟨gb902, 1, none⟩) (Kd.R_far (p := ⟨gb902, 0, none⟩) (Kd.R_types HO895.out BK902.out (by decide)) (fun _ hk => hk.2) (.int .i64 t897)) (fun _ hk => hk.2) (.slice Ao72 t898.length co72)) (fun _ h_ => h_.1))) hb); replace HO900 := Aside0.mk (Kd.R_below (by (with_reducible repeat (first | apply Kd.R_alloc | apply Kd.R_drewN | apply Kd.R_drew)); exact (Kd.R_mono (Kd.R_far (p := ⟨gb902, 1, none⟩) (Kd.R_far (p := ⟨gb902, 0, none⟩) (Kd.R_types HO900.out BK902.out (by decide)) (fun _ hk => hk.2) (.int .i64 t897)) (fun _ hk => hk.2) (.slice Ao72 t898.length co72)) (fun _ h_ => h_.1))) hb); replace BK869 := Aside0.mk (blk_below (blkF BK869) hb); replace BK870 := Aside0.mk (blk_below (blkF BK870) hb); replace BK886 := Aside0.mk (blk_below (blkF BK886) hb); replace BK891 := Aside0.mk (blk_below (blkF BK891) hb); replace BK896 := Aside0.mk (blk_below (blkF BK896) hb); replace BK902 := Aside0.mk (blk_below (g := gb902) (o := .cells #[.int .i64 t897, .slice Ao72 t898.length co72] 38 (0, 0)) (by (with_reducible repeat (first | refine blk_drewN ?_ _ | refine blk_drew ?_ | refine blk_alloc ?_ _)); refine blk_put (cs := #[.int .i64 t897, .slice none 0 0]) ?_ 1 _ rfl; (with_reducible repeat (first | refine blk_drewN ?_ _ | refine blk_drew ?_ | refine blk_alloc ?_ _)); refine blk_put (cs := #[.int .i64 0, .slice none 0 0]) ?_ 0 _ rfl; (with_reducible repeat (first | refine blk_drewN ?_ _ | refine blk_drew ?_ | refine blk_alloc ?_ _)); exact BK902.out) hb); replace HB := Aside0.mk (below_step (beQ HB) hb); (try clear hb); (try clear hb2); (try clear hk); (try clear hi)))
     go_meet
     case rel => exact ⟨_, (true), sz, H', ⟨by first | omega | exact Nat.le_refl _⟩, ⟨by (with_reducible repeat (first | apply Kd.R_alloc | apply Kd.R_drewN | apply Kd.R_drew)); exact Kd.R_mono HO884.out (fun _ hk => ⟨hk.1.1.2, ⟨hk.1.2, hk.2⟩⟩)⟩, ⟨by (with_reducible repeat (first | apply Kd.R_alloc | apply Kd.R_drewN | apply Kd.R_drew)); exact Kd.R_mono HO890.out (fun _ hk => ⟨hk.1.1.2, ⟨hk.1.2, hk.2⟩⟩)⟩, ⟨by (with_reducible repeat (first | apply Kd.R_alloc | apply Kd.R_drewN | apply Kd.R_drew)); exact Kd.R_mono HO895.out (fun _ hk => ⟨hk.1.1.2, ⟨hk.1.2, hk.2⟩⟩)⟩, ⟨by (with_reducible repeat (first | apply Kd.R_alloc | apply Kd.R_drewN | apply Kd.R_drew)); exact Kd.R_mono HO900.out (fun _ hk => ⟨hk.1.1.2, ⟨hk.1.2, hk.2⟩⟩)⟩, ⟨blkQ BK869⟩, ⟨blkQ BK870⟩, ⟨blkQ BK886⟩, ⟨blkQ BK891⟩, ⟨blkQ BK896⟩, ⟨blkQ BK902⟩, ⟨beQ HB⟩⟩
   case rest =>
    clear HC25
    try clear c1
    try clear c2
    try clear p2
    try clear c3
    try clear c4
    try clear c5
    try clear c6
    try clear c7
    try clear c8
    try clear c9
    try clear c26
    try clear c37
    try clear c44
    try clear c45
    try clear c46
    try clear c48
    try clear c49
    try clear c50
    try clear c53
    try clear c57
    try clear c58
    try clear c59
    try clear c60
    try clear c66
    try clear c67
    try clear c68
    try clear c69
    try clear c70
    try clear c74
    try clear c75
    try clear c76
    try clear c77
    try clear c78
    try clear c79
    try clear c81
    try clear c82
    try clear c83
    try clear c84
    try clear c87
    try clear c88
    try clear c89
    try clear c90
    try clear c91
    try clear c93
    try clear c94
    try clear c95
    try clear c96
    try clear hcz45_0
    try clear hcz45_1
    try clear hcz51_0
    try clear hcz51_1
    try clear hcz54_0
    try clear hcz54_1
    try clear hcz61_0
    try clear hcz61_1
    try clear hcz63_0
    try clear hcz63_1
    try clear hcz71_0
    try clear hcz71_1
    try clear hcz80_0
    try clear hcz80_1
    try clear hcz85_0
    try clear hcz85_1
    try clear hcz92_0
    try clear hcz92_1
    try clear hcz97_0
    try clear hcz97_1
    try clear hfz45_0
    try clear hfz45_1
    try clear hfz51_0
    try clear hfz51_1
    try clear hfz54_0
    try clear hfz54_1
    try clear hfz61_0
    try clear hfz61_1
    try clear hfz63_0
    try clear hfz63_1
    try clear hfz71_0
    try clear hfz71_1
    try clear hfz80_0
    try clear hfz80_1
    try clear hfz85_0
    try clear hfz85_1
    try clear hfz92_0
    try clear hfz92_1
    try clear hfz97_0
    try clear hfz97_1
    obtain ⟨kq, x53_24, rfl, HA, HJ24, HO_887001, HO_892001, HO_897001, HO_903001, BK869, BK870, BK886, BK891, BK896, BK902, HB⟩ := hcut
    cases kq with
    | zero => exact absurd HA.out (by simp [laws_FnExactFreeProduct.j0])
    | succ kj24 =>
     have H := HA.out; clear HA
     simp only [laws_FnExactFreeProduct.j0] at H
     by_cases c99 : x53_24 = true
     ·subst c99
      have H1 : (some false) = some r := by rw [if_pos rfl] at H; exact H
      clear H; have H := H1; clear H1
      obtain rfl := Option.some.inj H
      go_wp2
      go_ret
      exact ⟨rz, beQ HB⟩
     ·replace c99 := Bool.eq_false_iff.mpr c99
      subst c99
      have H1 : ((laws_toAlphabet.f kj24 a0_0 l0_1).bind fun bt904 => ((laws_eqAlphabet.f kj24 t887 t888 bt904.1 bt904.2).bind fun t908 => (if t908 = true then ((laws_toAlphabet.f kj24 a1_0 l1_1).bind fun bt909 => ((laws_eqAlphabet.f kj24 t892 t893 bt909.1 bt909.2).bind fun t913 => (if t913 = true then ((laws_markAlphabet.f kj24 t887 t888 1).bind fun bt914 => ((laws_markAlphabet.f kj24 t892 t893 bt914.1).bind fun bt916 => (if bt916.1 < 0 then (laws_FnExactFreeProduct.j1 kj24 t885 true a0_0 l0_1 a1_0 l1_1 t881 t882 t897 t898) else ((laws_eqAlphabet.f kj24 t897 t898 t881 t882).bind fun t918 => (if t918 = true then (laws_FnExactFreeProduct.j1 kj24 t885 (t901 != t885) a0_0 l0_1 a1_0 l1_1 t881 t882 t897 t898) else (laws_FnExactFreeProduct.j1 kj24 t885 true a0_0 l0_1 a1_0 l1_1 t881 t882 t897 t898)))))) else (some false)))) else (some false)))) = some r := by rw [if_neg (show ¬ (false = true) by decide)] at H; exact H
      clear H; have H := H1; clear H1; replace H := Option.bind_eq_some_iff.mp H
      obtain ⟨⟨t904, t905⟩, A1000, H⟩ := H
      replace H : ((laws_eqAlphabet.f kj24 t887 t888 t904 t905).bind fun t908 => (if t908 = true then ((laws_toAlphabet.f kj24 a1_0 l1_1).bind fun bt909 => ((laws_eqAlphabet.f kj24 t892 t893 bt909.1 bt909.2).bind fun t913 => (if t913 = true then ((laws_markAlphabet.f kj24 t887 t888 1).bind fun bt914 => ((laws_markAlphabet.f kj24 t892 t893 bt914.1).bind fun bt916 => (if bt916.1 < 0 then (laws_FnExactFreeProduct.j1 kj24 t885 true a0_0 l0_1 a1_0 l1_1 t881 t882 t897 t898) else ((laws_eqAlphabet.f kj24 t897 t898 t881 t882).bind fun t918 => (if t918 = true then (laws_FnExactFreeProduct.j1 kj24 t885 (t901 != t885) a0_0 l0_1 a1_0 l1_1 t881 t882 t897 t898) else (laws_FnExactFreeProduct.j1 kj24 t885 true a0_0 l0_1 a1_0 l1_1 t881 t882 t897 t898)))))) else (some false)))) else (some false))) = some r := H
      have A100 := Aside0.mk A1000; clear A1000; replace H := Option.bind_eq_some_iff.mp H; obtain ⟨t908, A1010, H⟩ := H
      replace H : (if t908 = true then ((laws_toAlphabet.f kj24 a1_0 l1_1).bind fun bt909 => ((laws_eqAlphabet.f kj24 t892 t893 bt909.1 bt909.2).bind fun t913 => (if t913 = true then ((laws_markAlphabet.f kj24 t887 t888 1).bind fun bt914 => ((laws_markAlphabet.f kj24 t892 t893 bt914.1).bind fun bt916 => (if bt916.1 < 0 then (laws_FnExactFreeProduct.j1 kj24 t885 true a0_0 l0_1 a1_0 l1_1 t881 t882 t897 t898) else ((laws_eqAlphabet.f kj24 t897 t898 t881 t882).bind fun t918 => (if t918 = true then (laws_FnExactFreeProduct.j1 kj24 t885 (t901 != t885) a0_0 l0_1 a1_0 l1_1 t881 t882 t897 t898) else (laws_FnExactFreeProduct.j1 kj24 t885 true a0_0 l0_1 a1_0 l1_1 t881 t882 t897 t898)))))) else (some false)))) else (some false)) = some r := H
      have A101 := Aside0.mk A1010; clear A1010
      by_cases c102 : t908 = true
      ·subst c102
       have H1 : ((laws_toAlphabet.f kj24 a1_0 l1_1).bind fun bt909 => ((laws_eqAlphabet.f kj24 t892 t893 bt909.1 bt909.2).bind fun t913 => (if t913 = true then ((laws_markAlphabet.f kj24 t887 t888 1).bind fun bt914 => ((laws_markAlphabet.f kj24 t892 t893 bt914.1).bind fun bt916 => (if bt916.1 < 0 then (laws_FnExactFreeProduct.j1 kj24 t885 true a0_0 l0_1 a1_0 l1_1 t881 t882 t897 t898) else ((laws_eqAlphabet.f kj24 t897 t898 t881 t882).bind fun t918 => (if t918 = true then (laws_FnExactFreeProduct.j1 kj24 t885 (t901 != t885) a0_0 l0_1 a1_0 l1_1 t881 t882 t897 t898) else (laws_FnExactFreeProduct.j1 kj24 t885 true a0_0 l0_1 a1_0 l1_1 t881 t882 t897 t898)))))) else (some false)))) = some r := by rw [if_pos rfl] at H; exact H
       clear H; have H := H1; clear H1; replace H := Option.bind_eq_some_iff.mp H
       obtain ⟨⟨t909, t910⟩, A1030, H⟩ := H
       replace H : ((laws_eqAlphabet.f kj24 t892 t893 t909 t910).bind fun t913 => (if t913 = true then ((laws_markAlphabet.f kj24 t887 t888 1).bind fun bt914 => ((laws_markAlphabet.f kj24 t892 t893 bt914.1).bind fun bt916 => (if bt916.1 < 0 then (laws_FnExactFreeProduct.j1 kj24 t885 true a0_0 l0_1 a1_0 l1_1 t881 t882 t897 t898) else ((laws_eqAlphabet.f kj24 t897 t898 t881 t882).bind fun t918 => (if t918 = true then (laws_FnExactFreeProduct.j1 kj24 t885 (t901 != t885) a0_0 l0_1 a1_0 l1_1 t881 t882 t897 t898) else (laws_FnExactFreeProduct.j1 kj24 t885 true a0_0 l0_1 a1_0 l1_1 t881 t882 t897 t898)))))) else (some false))) = some r := H
       have A103 := Aside0.mk A1030; clear A1030; replace H := Option.bind_eq_some_iff.mp H; obtain ⟨t913, A1040, H⟩ := H
       replace H : (if t913 = true then ((laws_markAlphabet.f kj24 t887 t888 1).bind fun bt914 => ((laws_markAlphabet.f kj24 t892 t893 bt914.1).bind fun bt916 => (if bt916.1 < 0 then (laws_FnExactFreeProduct.j1 kj24 t885 true a0_0 l0_1 a1_0 l1_1 t881 t882 t897 t898) else ((laws_eqAlphabet.f kj24 t897 t898 t881 t882).bind fun t918 => (if t918 = true then (laws_FnExactFreeProduct.j1 kj24 t885 (t901 != t885) a0_0 l0_1 a1_0 l1_1 t881 t882 t897 t898) else (laws_FnExactFreeProduct.j1 kj24 t885 true a0_0 l0_1 a1_0 l1_1 t881 t882 t897 t898)))))) else (some false)) = some r := H
       have A104 := Aside0.mk A1040; clear A1040
       by_cases c105 : t913 = true
       ·subst c105
        have H1 : ((laws_markAlphabet.f kj24 t887 t888 1).bind fun bt914 => ((laws_markAlphabet.f kj24 t892 t893 bt914.1).bind fun bt916 => (if bt916.1 < 0 then (laws_FnExactFreeProduct.j1 kj24 t885 true a0_0 l0_1 a1_0 l1_1 t881 t882 t897 t898) else ((laws_eqAlphabet.f kj24 t897 t898 t881 t882).bind fun t918 => (if t918 = true then (laws_FnExactFreeProduct.j1 kj24 t885 (t901 != t885) a0_0 l0_1 a1_0 l1_1 t881 t882 t897 t898) else (laws_FnExactFreeProduct.j1 kj24 t885 true a0_0 l0_1 a1_0 l1_1 t881 t882 t897 t898)))))) = some r := by rw [if_pos rfl] at H; exact H
        clear H; have H := H1; clear H1; replace H := Option.bind_eq_some_iff.mp H
        obtain ⟨⟨t914, t915⟩, A1060, H⟩ := H
        replace H : ((laws_markAlphabet.f kj24 t892 t893 t914).bind fun bt916 => (if bt916.1 < 0 then (laws_FnExactFreeProduct.j1 kj24 t885 true a0_0 l0_1 a1_0 l1_1 t881 t882 t897 t898) else ((laws_eqAlphabet.f kj24 t897 t898 t881 t882).bind fun t918 => (if t918 = true then (laws_FnExactFreeProduct.j1 kj24 t885 (t901 != t885) a0_0 l0_1 a1_0 l1_1 t881 t882 t897 t898) else (laws_FnExactFreeProduct.j1 kj24 t885 true a0_0 l0_1 a1_0 l1_1 t881 t882 t897 t898))))) = some r := H
        have A106 := Aside0.mk A1060; clear A1060; replace H := Option.bind_eq_some_iff.mp H
        obtain ⟨⟨t916, t917⟩, A1070, H⟩ := H
        replace H : (if t916 < 0 then (laws_FnExactFreeProduct.j1 kj24 t885 true a0_0 l0_1 a1_0 l1_1 t881 t882 t897 t898) else ((laws_eqAlphabet.f kj24 t897 t898 t881 t882).bind fun t918 => (if t918 = true then (laws_FnExactFreeProduct.j1 kj24 t885 (t901 != t885) a0_0 l0_1 a1_0 l1_1 t881 t882 t897 t898) else (laws_FnExactFreeProduct.j1 kj24 t885 true a0_0 l0_1 a1_0 l1_1 t881 t882 t897 t898)))) = some r := H
        have A107 := Aside0.mk A1070; clear A1070; have HC108 := Aside0.mk H; clear H
        try go_wp2
        replace HO_887001 := Aside0.mk (Kd.R_drew HO_887001.out); replace HO_892001 := Aside0.mk (Kd.R_drew HO_892001.out); replace HO_897001 := Aside0.mk (Kd.R_drew HO_897001.out); replace HO_903001 := Aside0.mk (Kd.R_drew HO_903001.out); replace BK869 := Aside0.mk (blk_drew BK869.out); replace BK870 := Aside0.mk (blk_drew BK870.out); replace BK886 := Aside0.mk (blk_drew BK886.out); replace BK891 := Aside0.mk (blk_drew BK891.out); replace BK896 := Aside0.mk (blk_drew BK896.out); replace BK902 := Aside0.mk (blk_drew BK902.out); replace HB := Aside0.mk (below_drew1 HB.out)
        refine start_ (n := 5) (S := fun w' => w'.cell? ⟨gb891, 0, none⟩ = some (.int .i64 t887) ∧ w'.cell? ⟨gb891, 1, none⟩ = some (.slice Ao52 t888.length co52) ∧ w'.cell? ⟨gb869, 0, none⟩ = some (.int .i64 a0_0) ∧ w'.cell? ⟨gb869, 1, none⟩ = some (.slice A0_1 l0_1.length c0_1)) (ds := []) #[false, false, false, false, false] (by kernel_rfl) rfl rfl ⟨bc BK891 0, bc BK891 1, bc BK869 0, bc BK869 1⟩ (fun hHeld => ?_)
        generalize wc.drew = w109 at HO_887001 HO_892001 HO_897001 HO_903001 BK869 BK870 BK886 BK891 BK896 BK902 HB hHeld ⊢
        refine take_ (i := 0) (N := some 54) (v := ?_) (a' := ?_) #[true, false, false, false, false] rfl rfl (by kernel_rfl) (fun _ _ _ h => h) (Or.inl ⟨by rfl, ?_⟩) hHeld ?_ ?_
        rotate_left
        ·rintro w' ⟨s0, s1, s2, s3⟩
         go_simp
         with_reducible rfl
        rotate_left
        ·simp only [Act.put, s1, s2, s3, i64_w, i32_w]
         rfl
        refine take_ (i := 1) (N := some 55) (v := ?_) (a' := ?_) #[true, true, false, false, false] rfl rfl (by kernel_rfl) (fun _ _ _ h => h) (Or.inl ⟨by rfl, ?_⟩) hHeld ?_ ?_
        rotate_left
        ·rintro w' ⟨s0, s1, s2, s3⟩
         go_simp
         with_reducible rfl
        rotate_left
        ·simp only [Act.put, s1, s2, s3, i64_w, i32_w]
         rfl
        refine one_ (i := 2) (N := some 56) #[true, true, true, false, false] rfl rfl (by kernel_rfl) (by decide) (fun K hK => ?_)
        refine goes_ Tryd.func37 (by kernel_rfl) rfl #[.agg #[.int .i64 a0_0, .slice A0_1 l0_1.length c0_1]] (by rfl) rfl rfl lz ?_
        with_reducible refine (laws_toAlphabet.calls kj24 a0_0 _ _ l0_1 t904 t905 _ ?side1 ?side2 A100.out).mono ?_
        (case side1 => have q_ := Aside0.mk (Kd.C_below HR0_1.out HB.out); exact cQ q_)
        (case side2 => exact HC0_1.out)
        rintro e w110 ⟨v906, rfl, ho0, hb⟩
        refine ⟨_, rfl, ?_⟩
        have HO907 := Aside0.mk (Kd.R_lower (Kd.R_new' (Kd.R_new' (Kd.R_new' (Kd.R_new' ho0 (Kd.R_lt (kdQ HO_887001))) (Kd.R_lt (kdQ HO_892001))) (Kd.R_lt (kdQ HO_897001))) (Kd.R_lt (kdQ HO_903001))) (below_size (beQ HB))); replace HO_887001 := Aside0.mk (Kd.R_elder' (kdQ HO_887001) (Kd.R_base ho0) hb); replace HO_892001 := Aside0.mk (Kd.R_elder' (kdQ HO_892001) (Kd.R_base ho0) hb); replace HO_897001 := Aside0.mk (Kd.R_elder' (kdQ HO_897001) (Kd.R_base ho0) hb); replace HO_903001 := Aside0.mk (Kd.R_elder' (kdQ HO_903001) (Kd.R_base ho0) hb); replace BK869 := bb BK869 hb; replace BK870 := bb BK870 hb; replace BK886 := bb BK886 hb; replace BK891 := bb BK891 hb; replace BK896 := bb BK896 hb; replace BK902 := bb BK902 hb; replace HB := Aside0.mk (below_step (beQ HB) hb)
        (try clear hb)
        (try clear hb2)
        (try clear hk)
        (try clear hi)
        (try clear ho0)
        obtain ⟨Ao111, co111, eo111⟩ := Kd.R_slice HO907.out
        (first | subst eo111 | (injection eo111 with f1_ f2_ f3_; have f4_ := f1_.symm; have f5_ := f3_.symm; clear f1_ f2_ f3_; subst f4_; subst f5_))
        refine hK.out _ _ ⟨bc BK891 0, bc BK891 1, bc BK869 0, bc BK869 1⟩ (fun hHeld => ?_)
        clear hK K
        refine norm_ (a' := ?_) ?_ ?_
        rotate_left
        ·show Act.put _ (some 56) _ = _
         simp only [Act.put, s1, s2, s3, i64_w, i32_w]
         rfl
        refine one_ (i := 3) (N := some 57) #[true, true, true, true, false] rfl rfl (by kernel_rfl) (by decide) (fun K hK => ?_)
        refine goes_ Tryd.func26 (by kernel_rfl) rfl #[.agg #[.int .i64 t887, .slice Ao52 t888.length co52], .agg #[.int .i64 t904, .slice Ao111 t905.length co111]] (by rfl) rfl rfl lz ?_
        with_reducible refine (laws_eqAlphabet.calls kj24 t887 _ _ t888 t904 _ _ t905 true _ ?side1 ?side2 ?side3 ?side4 A101.out).mono ?_
        (case side1 => have q_ := Aside0.mk (Kd.R_reads' HO_892001.out).2.2; exact cQ q_)
        (case side2 => exact (Kd.R_reads' HO_892001.out).2.1)
        (case side3 => have q_ := Aside0.mk (Kd.R_reads' HO907.out).2.2; exact cQ q_)
        (case side4 => exact (Kd.R_reads' HO907.out).2.1)
        rintro e w112 ⟨rfl, hb⟩
        refine ⟨_, rfl, ?_⟩
        replace HO_887001 := kb HO_887001 hb; replace HO_892001 := kb HO_892001 hb; replace HO_897001 := kb HO_897001 hb; replace HO_903001 := kb HO_903001 hb; replace HO907 := kb HO907 hb; replace BK869 := bb BK869 hb; replace BK870 := bb BK870 hb; replace BK886 := bb BK886 hb; replace BK891 := bb BK891 hb; replace BK896 := bb BK896 hb; replace BK902 := bb BK902 hb; replace HB := Aside0.mk (below_step (beQ HB) hb)
        (try clear hb)
        (try clear hb2)
        (try clear hk)
        (try clear hi)
        refine hK.out _ _ ⟨bc BK891 0, bc BK891 1, bc BK869 0, bc BK869 1⟩ (fun hHeld => ?_)
        clear hK K
        refine norm_ (a' := ?_) ?_ ?_
        rotate_left
        ·show Act.put _ (some 57) _ = _
         simp only [Act.put, s1, s2, s3, i64_w, i32_w]
         rfl
        refine pure_ (i := 4) (N := some 58) (v := ?_) (a' := ?_) #[true, true, true, true, true] rfl rfl (by kernel_rfl) (fun _ _ _ h => h) (Or.inl ⟨by rfl, ?_⟩) ?_ ?_
        rotate_left
        ·intro w'
         go_simp
         with_reducible rfl
        rotate_left
        ·simp only [Act.put, s1, s2, s3, i64_w, i32_w]
         rfl
        refine done_ (by kernel_rfl) ?_
        try go_wp2
        replace HO_887001 := Aside0.mk (Kd.R_drew HO_887001.out); replace HO_892001 := Aside0.mk (Kd.R_drew HO_892001.out); replace HO_897001 := Aside0.mk (Kd.R_drew HO_897001.out); replace HO_903001 := Aside0.mk (Kd.R_drew HO_903001.out); replace HO907 := Aside0.mk (Kd.R_drew HO907.out); replace BK869 := Aside0.mk (blk_drew BK869.out); replace BK870 := Aside0.mk (blk_drew BK870.out); replace BK886 := Aside0.mk (blk_drew BK886.out); replace BK891 := Aside0.mk (blk_drew BK891.out); replace BK896 := Aside0.mk (blk_drew BK896.out); replace BK902 := Aside0.mk (blk_drew BK902.out); replace HB := Aside0.mk (below_drew1 HB.out)
        refine start_ (n := 5) (S := fun w' => w'.cell? ⟨gb896, 0, none⟩ = some (.int .i64 t892) ∧ w'.cell? ⟨gb896, 1, none⟩ = some (.slice Ao62 t893.length co62) ∧ w'.cell? ⟨gb870, 0, none⟩ = some (.int .i64 a1_0) ∧ w'.cell? ⟨gb870, 1, none⟩ = some (.slice A1_1 l1_1.length c1_1)) (ds := []) #[false, false, false, false, false] (by kernel_rfl) rfl rfl ⟨bc BK896 0, bc BK896 1, bc BK870 0, bc BK870 1⟩ (fun hHeld => ?_)
        generalize w112.drew = w113 at HO_887001 HO_892001 HO_897001 HO_903001 HO907 BK869 BK870 BK886 BK891 BK896 BK902 HB hHeld ⊢
        refine take_ (i := 0) (N := some 59) (v := ?_) (a' := ?_) #[true, false, false, false, false] rfl rfl (by kernel_rfl) (fun _ _ _ h => h) (Or.inl ⟨by rfl, ?_⟩) hHeld ?_ ?_
        rotate_left
        ·rintro w' ⟨s0, s1, s2, s3⟩
         go_simp
         with_reducible rfl
        rotate_left
        ·simp only [Act.put, s1, s2, s3, i64_w, i32_w]
         rfl
        refine take_ (i := 1) (N := some 60) (v := ?_) (a' := ?_) #[true, true, false, false, false] rfl rfl (by kernel_rfl) (fun _ _ _ h => h) (Or.inl ⟨by rfl, ?_⟩) hHeld ?_ ?_
        rotate_left
        ·rintro w' ⟨s0, s1, s2, s3⟩
         go_simp
         with_reducible rfl
        rotate_left
        ·simp only [Act.put, s1, s2, s3, i64_w, i32_w]
         rfl
        refine one_ (i := 2) (N := some 61) #[true, true, true, false, false] rfl rfl (by kernel_rfl) (by decide) (fun K hK => ?_)
        refine goes_ Tryd.func37 (by kernel_rfl) rfl #[.agg #[.int .i64 a1_0, .slice A1_1 l1_1.length c1_1]] (by rfl) rfl rfl lz ?_
        with_reducible refine (laws_toAlphabet.calls kj24 a1_0 _ _ l1_1 t909 t910 _ ?side1 ?side2 A103.out).mono ?_
        (case side1 => have q_ := Aside0.mk (Kd.C_below HR1_1.out HB.out); exact cQ q_)
        (case side2 => exact HC1_1.out)
        rintro e w114 ⟨v911, rfl, ho0, hb⟩
        refine ⟨_, rfl, ?_⟩
        have HO912 := Aside0.mk (Kd.R_lower (Kd.R_new' (Kd.R_new' (Kd.R_new' (Kd.R_new' (Kd.R_new' ho0 (Kd.R_lt (kdQ HO_887001))) (Kd.R_lt (kdQ HO_892001))) (Kd.R_lt (kdQ HO_897001))) (Kd.R_lt (kdQ HO_903001))) (Kd.R_lt (kdQ HO907))) (below_size (beQ HB))); replace HO_887001 := Aside0.mk (Kd.R_elder' (kdQ HO_887001) (Kd.R_base ho0) hb); replace HO_892001 := Aside0.mk (Kd.R_elder' (kdQ HO_892001) (Kd.R_base ho0) hb); replace HO_897001 := Aside0.mk (Kd.R_elder' (kdQ HO_897001) (Kd.R_base ho0) hb); replace HO_903001 := Aside0.mk (Kd.R_elder' (kdQ HO_903001) (Kd.R_base ho0) hb); replace HO907 := Aside0.mk (Kd.R_elder' (kdQ HO907) (Kd.R_base ho0) hb); replace BK869 := bb BK869 hb; replace BK870 := bb BK870 hb; replace BK886 := bb BK886 hb; replace BK891 := bb BK891 hb; replace BK896 := bb BK896 hb; replace BK902 := bb BK902 hb; replace HB := Aside0.mk (below_step (beQ HB) hb)
        (try clear hb)
        (try clear hb2)
        (try clear hk)
        (try clear hi)
        (try clear ho0)
        obtain ⟨Ao115, co115, eo115⟩ := Kd.R_slice HO912.out
        (first | subst eo115 | (injection eo115 with f1_ f2_ f3_; have f4_ := f1_.symm; have f5_ := f3_.symm; clear f1_ f2_ f3_; subst f4_; subst f5_))
        refine hK.out _ _ ⟨bc BK896 0, bc BK896 1, bc BK870 0, bc BK870 1⟩ (fun hHeld => ?_)
        clear hK K
        refine norm_ (a' := ?_) ?_ ?_
        rotate_left
        ·show Act.put _ (some 61) _ = _
         simp only [Act.put, s1, s2, s3, i64_w, i32_w]
         rfl
        refine one_ (i := 3) (N := some 62) #[true, true, true, true, false] rfl rfl (by kernel_rfl) (by decide) (fun K hK => ?_)
        refine goes_ Tryd.func26 (by kernel_rfl) rfl #[.agg #[.int .i64 t892, .slice Ao62 t893.length co62], .agg #[.int .i64 t909, .slice Ao115 t910.length co115]] (by rfl) rfl rfl lz ?_
        with_reducible refine (laws_eqAlphabet.calls kj24 t892 _ _ t893 t909 _ _ t910 true _ ?side1 ?side2 ?side3 ?side4 A104.out).mono ?_
        (case side1 => have q_ := Aside0.mk (Kd.R_reads' HO_897001.out).2.2; exact cQ q_)
        (case side2 => exact (Kd.R_reads' HO_897001.out).2.1)
        (case side3 => have q_ := Aside0.mk (Kd.R_reads' HO912.out).2.2; exact cQ q_)
        (case side4 => exact (Kd.R_reads' HO912.out).2.1)
        rintro e w116 ⟨rfl, hb⟩
        refine ⟨_, rfl, ?_⟩
        replace HO_887001 := kb HO_887001 hb; replace HO_892001 := kb HO_892001 hb; replace HO_897001 := kb HO_897001 hb; replace HO_903001 := kb HO_903001 hb; replace HO907 := kb HO907 hb; replace HO912 := kb HO912 hb; replace BK869 := bb BK869 hb; replace BK870 := bb BK870 hb; replace BK886 := bb BK886 hb; replace BK891 := bb BK891 hb; replace BK896 := bb BK896 hb; replace BK902 := bb BK902 hb; replace HB := Aside0.mk (below_step (beQ HB) hb)
        (try clear hb)
        (try clear hb2)
        (try clear hk)
        (try clear hi)
        refine hK.out _ _ ⟨bc BK896 0, bc BK896 1, bc BK870 0, bc BK870 1⟩ (fun hHeld => ?_)
        clear hK K
        refine norm_ (a' := ?_) ?_ ?_
        rotate_left
        ·show Act.put _ (some 62) _ = _
         simp only [Act.put, s1, s2, s3, i64_w, i32_w]
         rfl
        refine pure_ (i := 4) (N := some 63) (v := ?_) (a' := ?_) #[true, true, true, true, true] rfl rfl (by kernel_rfl) (fun _ _ _ h => h) (Or.inl ⟨by rfl, ?_⟩) ?_ ?_
        rotate_left
        ·intro w'
         go_simp
         with_reducible rfl
        rotate_left
        ·simp only [Act.put, s1, s2, s3, i64_w, i32_w]
         rfl
        refine done_ (by kernel_rfl) ?_
        have hnb117 := NB891_869.out; have hnc117 := NB869_891.out; have hnb118 := NB891_870.out; have hnc118 := NB870_891.out; have hnb119 := NB891_886.out; have hnc119 := NB886_891.out; have hnb120 := NB891_896.out; have hnc120 := NB896_891.out; have hnb121 := NB891_902.out; have hnc121 := NB902_891.out
        have hcz122_0 : w116.cell? ⟨gb891, 0, none⟩ = some (.int .i64 t887) := bc BK891 0
        have hcz122_1 : w116.cell? ⟨gb891, 1, none⟩ = some (.slice Ao52 t888.length co52) := bc BK891 1
        have hfz122_0 := blk_frozen BK891.out 0; have hfz122_1 := blk_frozen BK891.out 1
        go_upto_region 21 with (first | ((with_reducible refine gate_callee (f := 28) rfl ?_); refine goesL_ (some 66) rfl rfl Tryd.func28 (by kernel_rfl) rfl #[.agg #[.int .i64 t887, .slice Ao52 t888.length co52], .int .i64 1] rfl lz ?_; (with_reducible refine (laws_markAlphabet.calls kj24 t887 (fun k_ => some k_ = (.slice Ao52 t888.length co52 : Value).ownBlock) (.slice Ao52 t888.length co52) t888 1 t914 t915 w _ ?side1 ?side2 A106.out).mono ?_); (case side1 => repeat (first | (with_reducible first | exact HB.out | apply below_alloc | apply pw_below_drewN | apply below_drew1 | refine below_set ?_ GE869.out | refine below_set ?_ GE870.out | refine below_set ?_ GE886.out | refine below_set ?_ GE891.out | refine below_set ?_ GE896.out | refine below_set ?_ GE902.out) | exact HB.out)); (case side2 => exact Kd.R_tight rfl HO_892001.out); rintro e w123 ⟨rfl, hy0, hb, hkp⟩; refine ⟨_, rfl, ?_⟩; replace HO_887001 := Aside0.mk (Kd.R_mono (ok' := fun k_ => some k_ ≠ (.slice Ao52 t888.length co52 : Value).ownBlock ∧ some k_ ≠ (.slice Ao62 t893.length co62 : Value).ownBlock ∧ some k_ ≠ (.slice Ao72 t898.length co72 : Value).ownBlock ∧ some k_ ≠ (.slice Ao111 t905.length co111 : Value).ownBlock ∧ some k_ ≠ (.slice Ao115 t910.length co115 : Value).ownBlock) (Kd.R_keptB (HO_887001.out) hkp (fun k_ hk_ hs_ => (hk_.1.1.1) hs_)) (fun k_ hk_ => ⟨hk_.1.1.1.1, hk_.1.1.1.2.1, hk_.1.1.1.2.2, hk_.1.1.2, hk_.1.2⟩)); replace HO_897001 := Aside0.mk (Kd.R_mono (ok' := fun k_ => some k_ ≠ (.slice Ao42 t882.length co42 : Value).ownBlock ∧ some k_ ≠ (.slice Ao52 t888.length co52 : Value).ownBlock ∧ some k_ ≠ (.slice Ao72 t898.length co72 : Value).ownBlock ∧ some k_ ≠ (.slice Ao111 t905.length co111 : Value).ownBlock ∧ some k_ ≠ (.slice Ao115 t910.length co115 : Value).ownBlock) (Kd.R_keptB (HO_897001.out) hkp (fun k_ hk_ hs_ => (hk_.1.1.2.1) hs_)) (fun k_ hk_ => ⟨hk_.1.1.1.1, hk_.1.1.1.2.1, hk_.1.1.1.2.2, hk_.1.1.2, hk_.1.2⟩)); replace HO_903001 := Aside0.mk (Kd.R_mono (ok' := fun k_ => some k_ ≠ (.slice Ao42 t882.length co42 : Value).ownBlock ∧ some k_ ≠ (.slice Ao52 t888.length co52 : Value).ownBlock ∧ some k_ ≠ (.slice Ao62 t893.length co62 : Value).ownBlock ∧ some k_ ≠ (.slice Ao111 t905.length co111 : Value).ownBlock ∧ some k_ ≠ (.slice Ao115 t910.length co115 : Value).ownBlock) (Kd.R_keptB (HO_903001.out) hkp (fun k_ hk_ hs_ => (hk_.1.1.2.1) hs_)) (fun k_ hk_ => ⟨hk_.1.1.1.1, hk_.1.1.1.2.1, hk_.1.1.1.2.2, hk_.1.1.2, hk_.1.2⟩)); replace BK869 := Aside0.mk (blk_kept (blkQ BK869) hkp (fun hs_ => (fun e_ => (Kd.R_ne HO_892001.out BK869.out (by decide)) e_) hs_)); replace BK870 := Aside0.mk (blk_kept (blkQ BK870) hkp (fun hs_ => (fun e_ => (Kd.R_ne HO_892001.out BK870.out (by decide)) e_) hs_)); replace BK886 := Aside0.mk (blk_kept (blkQ BK886) hkp (fun hs_ => (fun e_ => (Kd.R_ne HO_892001.out BK886.out (by decide)) e_) hs_)); replace BK891 := Aside0.mk (blk_kept (blkQ BK891) hkp (fun hs_ => (fun e_ => (Kd.R_ne HO_892001.out BK891.out (by decide)) e_) hs_)); replace BK896 := Aside0.mk (blk_kept (blkQ BK896) hkp (fun hs_ => (fun e_ => (Kd.R_ne HO_892001.out BK896.out (by decide)) e_) hs_)); replace BK902 := Aside0.mk (blk_kept (blkQ BK902) hkp (fun hs_ => (fun e_ => (Kd.R_ne HO_892001.out BK902.out (by decide)) e_) hs_)); replace HO_892001 := Aside0.mk (Kd.R_reok rfl hy0 (fun k_ e_ => HO_892001.out.1 k_ e_)); replace HO907 := Aside0.mk (Kd.R_mono (ok' := fun k_ => some k_ ≠ (.slice Ao42 t882.length co42 : Value).ownBlock ∧ some k_ ≠ (.slice Ao52 t888.length co52 : Value).ownBlock ∧ some k_ ≠ (.slice Ao62 t893.length co62 : Value).ownBlock ∧ some k_ ≠ (.slice Ao72 t898.length co72 : Value).ownBlock ∧ some k_ ≠ (.slice Ao115 t910.length co115 : Value).ownBlock) (Kd.R_keptB (HO907.out) hkp (fun k_ hk_ hs_ => (hk_.1.1.1.2) hs_)) (fun k_ hk_ => ⟨hk_.1.1.1.1.1.2, hk_.1.1.1.1.2, hk_.1.1.1.2, hk_.1.1.2, hk_.1.2⟩)); replace HO912 := Aside0.mk (Kd.R_mono (ok' := fun k_ => some k_ ≠ (.slice Ao42 t882.length co42 : Value).ownBlock ∧ some k_ ≠ (.slice Ao52 t888.length co52 : Value).ownBlock ∧ some k_ ≠ (.slice Ao62 t893.length co62 : Value).ownBlock ∧ some k_ ≠ (.slice Ao72 t898.length co72 : Value).ownBlock ∧ some k_ ≠ (.slice Ao111 t905.length co111 : Value).ownBlock) (Kd.R_keptB (HO912.out) hkp (fun k_ hk_ hs_ => (hk_.1.1.1.2) hs_)) (fun k_ hk_ => ⟨hk_.1.1.1.1.1.2, hk_.1.1.1.1.2, hk_.1.1.1.2, hk_.1.1.2, hk_.1.2⟩)); replace HB := Aside0.mk (hb); (try clear hb); (try clear hkp); (try clear hy0); have hnb124 := NB896_869.out; have hnc124 := NB869_896.out; have hnb125 := NB896_870.out; have hnc125 := NB870_896.out; have hnb126 := NB896_886.out; have hnc126 := NB886_896.out; have hnb127 := NB896_902.out; have hnc127 := NB902_896.out; have hcz128_0 : w123.cell? ⟨gb896, 0, none⟩ = some (.int .i64 t892) := bc BK896 0; have hcz128_1 : w123.cell? ⟨gb896, 1, none⟩ = some (.slice Ao62 t893.length co62) := bc BK896 1; have hfz128_0 := blk_frozen BK896.out 0; have hfz128_1 := blk_frozen BK896.out 1) | ((with_reducible refine gate_callee (f := 28) rfl ?_); refine goesL_ (some 69) rfl rfl Tryd.func28 (by kernel_rfl) rfl #[.agg #[.int .i64 t892, .slice Ao62 t893.length co62], .int .i64 t914] rfl lz ?_; (with_reducible refine (laws_markAlphabet.calls kj24 t892 (fun k_ => some k_ = (.slice Ao62 t893.length co62 : Value).ownBlock) (.slice Ao62 t893.length co62) t893 t914 t916 t917 w _ ?side1 ?side2 A107.out).mono ?_); (case side1 => repeat (first | (with_reducible first | exact HB.out | apply below_alloc | apply pw_below_drewN | apply below_drew1 | refine below_set ?_ GE869.out | refine below_set ?_ GE870.out | refine below_set ?_ GE886.out | refine below_set ?_ GE891.out | refine below_set ?_ GE896.out | refine below_set ?_ GE902.out) | exact HB.out)); (case side2 => exact Kd.R_tight rfl HO_897001.out); rintro e w129 ⟨rfl, hy0, hb, hkp⟩; refine ⟨_, rfl, ?_⟩; replace HO_887001 := Aside0.mk (Kd.R_mono (ok' := fun k_ => some k_ ≠ (.slice Ao52 t888.length co52 : Value).ownBlock ∧ some k_ ≠ (.slice Ao62 t893.length co62 : Value).ownBlock ∧ some k_ ≠ (.slice Ao72 t898.length co72 : Value).ownBlock ∧ some k_ ≠ (.slice Ao111 t905.length co111 : Value).ownBlock ∧ some k_ ≠ (.slice Ao115 t910.length co115 : Value).ownBlock) (Kd.R_keptB (HO_887001.out) hkp (fun k_ hk_ hs_ => (hk_.2.1) hs_)) (fun k_ hk_ => ⟨hk_.1.1, hk_.1.2.1, hk_.1.2.2.1, hk_.1.2.2.2.1, hk_.1.2.2.2.2⟩)); replace HO_892001 := Aside0.mk (Kd.R_mono (ok' := fun k_ => some k_ ≠ (.slice Ao42 t882.length co42 : Value).ownBlock ∧ some k_ ≠ (.slice Ao62 t893.length co62 : Value).ownBlock ∧ some k_ ≠ (.slice Ao72 t898.length co72 : Value).ownBlock ∧ some k_ ≠ (.slice Ao111 t905.length co111 : Value).ownBlock ∧ some k_ ≠ (.slice Ao115 t910.length co115 : Value).ownBlock) (Kd.R_keptB (HO_892001.out) hkp (fun k_ hk_ hs_ => (hk_.1.1.2.1) hs_)) (fun k_ hk_ => ⟨hk_.1.1.1.1, hk_.1.1.1.2.1, hk_.1.1.1.2.2, hk_.1.1.2, hk_.1.2⟩)); replace HO_903001 := Aside0.mk (Kd.R_mono (ok' := fun k_ => some k_ ≠ (.slice Ao42 t882.length co42 : Value).ownBlock ∧ some k_ ≠ (.slice Ao52 t888.length co52 : Value).ownBlock ∧ some k_ ≠ (.slice Ao62 t893.length co62 : Value).ownBlock ∧ some k_ ≠ (.slice Ao111 t905.length co111 : Value).ownBlock ∧ some k_ ≠ (.slice Ao115 t910.length co115 : Value).ownBlock) (Kd.R_keptB (HO_903001.out) hkp (fun k_ hk_ hs_ => (hk_.2.2.1) hs_)) (fun k_ hk_ => ⟨hk_.1.1, hk_.1.2.1, hk_.1.2.2.1, hk_.1.2.2.2.1, hk_.1.2.2.2.2⟩)); replace BK869 := Aside0.mk (blk_kept (blkQ BK869) hkp (fun hs_ => (fun e_ => (Kd.R_ne HO_897001.out BK869.out (by decide)) e_) hs_)); replace BK870 := Aside0.mk (blk_kept (blkQ BK870) hkp (fun hs_ => (fun e_ => (Kd.R_ne HO_897001.out BK870.out (by decide)) e_) hs_)); replace BK886 := Aside0.mk (blk_kept (blkQ BK886) hkp (fun hs_ => (fun e_ => (Kd.R_ne HO_897001.out BK886.out (by decide)) e_) hs_)); replace BK891 := Aside0.mk (blk_kept (blkQ BK891) hkp (fun hs_ => (fun e_ => (Kd.R_ne HO_897001.out BK891.out (by decide)) e_) hs_)); replace BK896 := Aside0.mk (blk_kept (blkQ BK896) hkp (fun hs_ => (fun e_ => (Kd.R_ne HO_897001.out BK896.out (by decide)) e_) hs_)); replace BK902 := Aside0.mk (blk_kept (blkQ BK902) hkp (fun hs_ => (fun e_ => (Kd.R_ne HO_897001.out BK902.out (by decide)) e_) hs_)); replace HO_897001 := Aside0.mk (Kd.R_reok rfl hy0 (fun k_ e_ => HO_897001.out.1 k_ e_)); replace HO907 := Aside0.mk (Kd.R_mono (ok' := fun k_ => some k_ ≠ (.slice Ao42 t882.length co42 : Value).ownBlock ∧ some k_ ≠ (.slice Ao52 t888.length co52 : Value).ownBlock ∧ some k_ ≠ (.slice Ao62 t893.length co62 : Value).ownBlock ∧ some k_ ≠ (.slice Ao72 t898.length co72 : Value).ownBlock ∧ some k_ ≠ (.slice Ao115 t910.length co115 : Value).ownBlock) (Kd.R_keptB (HO907.out) hkp (fun k_ hk_ hs_ => (hk_.2.2.1) hs_)) (fun k_ hk_ => ⟨hk_.1.1, hk_.1.2.1, hk_.1.2.2.1, hk_.1.2.2.2.1, hk_.1.2.2.2.2⟩)); replace HO912 := Aside0.mk (Kd.R_mono (ok' := fun k_ => some k_ ≠ (.slice Ao42 t882.length co42 : Value).ownBlock ∧ some k_ ≠ (.slice Ao52 t888.length co52 : Value).ownBlock ∧ some k_ ≠ (.slice Ao62 t893.length co62 : Value).ownBlock ∧ some k_ ≠ (.slice Ao72 t898.length co72 : Value).ownBlock ∧ some k_ ≠ (.slice Ao111 t905.length co111 : Value).ownBlock) (Kd.R_keptB (HO912.out) hkp (fun k_ hk_ hs_ => (hk_.2.2.1) hs_)) (fun k_ hk_ => ⟨hk_.1.1, hk_.1.2.1, hk_.1.2.2.1, hk_.1.2.2.2.1, hk_.1.2.2.2.2⟩)); replace HB := Aside0.mk (hb); (try clear hb); (try clear hkp); (try clear hy0)))
        (try simp only [Act.put, List.setIfInBounds_toArray, List.set_cons_zero, List.set_cons_succ])
        go_cut [82] (fun v82 wc => ∃ (kq : Nat) (x82_107 : Bool), v82 = .bool x82_107 ∧ Aside0 (laws_FnExactFreeProduct.j1 kq t885 x82_107 a0_0 l0_1 a1_0 l1_1 t881 t882 t897 t898 = some r) ∧ Aside0 (kq ≤ kj24) ∧ Aside0 (Kd.R (Kd.int .i64) 2 wc w.heap.size (fun k_ => some k_ ≠ ((.slice Ao52 t888.length co52) : Value).ownBlock ∧ some k_ ≠ ((.slice Ao62 t893.length co62) : Value).ownBlock ∧ some k_ ≠ ((.slice Ao72 t898.length co72) : Value).ownBlock) (.slice Ao42 t882.length co42) t882) ∧ Aside0 (Kd.R (Kd.int .i64) 2 wc w.heap.size (fun k_ => some k_ ≠ ((.slice Ao42 t882.length co42) : Value).ownBlock ∧ some k_ ≠ ((.slice Ao62 t893.length co62) : Value).ownBlock ∧ some k_ ≠ ((.slice Ao72 t898.length co72) : Value).ownBlock) (.slice Ao52 t888.length co52) t915) ∧ Aside0 (Kd.R (Kd.int .i64) 2 wc w.heap.size (fun k_ => some k_ ≠ ((.slice Ao42 t882.length co42) : Value).ownBlock ∧ some k_ ≠ ((.slice Ao52 t888.length co52) : Value).ownBlock ∧ some k_ ≠ ((.slice Ao72 t898.length co72) : Value).ownBlock) (.slice Ao62 t893.length co62) t917) ∧ Aside0 (Kd.R (Kd.int .i64) 2 wc w.heap.size (fun k_ => some k_ ≠ ((.slice Ao42 t882.length co42) : Value).ownBlock ∧ some k_ ≠ ((.slice Ao52 t888.length co52) : Value).ownBlock ∧ some k_ ≠ ((.slice Ao62 t893.length co62) : Value).ownBlock) (.slice Ao72 t898.length co72) t898) ∧ Aside0 (wc.heap[gb869]? = some (.cells #[.int .i64 a0_0, (.slice A0_1 l0_1.length c0_1)] 46 (0, 0))) ∧ Aside0 (wc.heap[gb870]? = some (.cells #[.int .i64 a1_0, (.slice A1_1 l1_1.length c1_1)] 46 (0, 0))) ∧ Aside0 (wc.heap[gb886]? = some (.cells #[.int .i64 t881, (.slice Ao42 t882.length co42)] 38 (0, 0))) ∧ Aside0 (wc.heap[gb891]? = some (.cells #[.int .i64 t887, (.slice Ao52 t888.length co52)] 38 (0, 0))) ∧ Aside0 (wc.heap[gb896]? = some (.cells #[.int .i64 t892, (.slice Ao62 t893.length co62)] 38 (0, 0))) ∧ Aside0 (wc.heap[gb902]? = some (.cells #[.int .i64 t897, (.slice Ao72 t898.length co72)] 38 (0, 0))) ∧ Aside0 (Below w.heap.size w wc))
        case first =>
         have H := HC108.out; clear HC108
         by_cases c130 : t916 < 0
         ·rw [if_pos c130] at H
          have c130b0 : decide (t916 < 0) = true := decide_eq_true c130
          clear c130
          (first | rw [c130b0] | (simp only [i64_w, i32_w]; rw [c130b0]) | skip)
          have H' := Aside0.mk H
          clear H
          go_wp2
          go_meet
          case rel => exact ⟨_, (true), sz, H', ⟨by have := HJ24.out; first | omega | exact Nat.le_refl _⟩, ⟨by (with_reducible repeat (first | apply Kd.R_alloc | apply Kd.R_drewN | apply Kd.R_drew)); exact Kd.R_mono HO_887001.out (fun _ hk => ⟨hk.1, ⟨hk.2.1, hk.2.2.1⟩⟩)⟩, ⟨by (with_reducible repeat (first | apply Kd.R_alloc | apply Kd.R_drewN | apply Kd.R_drew)); exact Kd.R_mono HO_892001.out (fun _ hk => ⟨hk.1, ⟨hk.2.1, hk.2.2.1⟩⟩)⟩, ⟨by (with_reducible repeat (first | apply Kd.R_alloc | apply Kd.R_drewN | apply Kd.R_drew)); exact Kd.R_mono HO_897001.out (fun _ hk => ⟨hk.1, ⟨hk.2.1, hk.2.2.1⟩⟩)⟩, ⟨by (with_reducible repeat (first | apply Kd.R_alloc | apply Kd.R_drewN | apply Kd.R_drew)); exact Kd.R_mono HO_903001.out (fun _ hk => ⟨hk.1, ⟨hk.2.1, hk.2.2.1⟩⟩)⟩, ⟨blkQ BK869⟩, ⟨blkQ BK870⟩, ⟨blkQ BK886⟩, ⟨blkQ BK891⟩, ⟨blkQ BK896⟩, ⟨blkQ BK902⟩, ⟨beQ HB⟩⟩
         ·rw [if_neg c130] at H
          have c130b0 : decide (t916 < 0) = false := decide_eq_false c130
          clear c130
          (first | rw [c130b0] | (simp only [i64_w, i32_w]; rw [c130b0]) | skip)
          replace H := Option.bind_eq_some_iff.mp H; obtain ⟨t918, A1310, H⟩ := H
          replace H : (if t918 = true then (laws_FnExactFreeProduct.j1 kj24 t885 (t901 != t885) a0_0 l0_1 a1_0 l1_1 t881 t882 t897 t898) else (laws_FnExactFreeProduct.j1 kj24 t885 true a0_0 l0_1 a1_0 l1_1 t881 t882 t897 t898)) = some r := H
          have A131 := Aside0.mk A1310; clear A1310
          by_cases c132 : t918 = true
          ·subst c132
           have H1 : (laws_FnExactFreeProduct.j1 kj24 t885 (t901 != t885) a0_0 l0_1 a1_0 l1_1 t881 t882 t897 t898) = some r := by rw [if_pos rfl] at H; exact H
           clear H; have H := H1; clear H1
           have H' := Aside0.mk H
           clear H; have hnb133 := NB902_869.out; have hnc133 := NB869_902.out; have hnb134 := NB902_870.out; have hnc134 := NB870_902.out; have hnb135 := NB902_886.out; have hnc135 := NB886_902.out; have hnb136 := NB902_891.out; have hnc136 := NB891_902.out; have hnb137 := NB902_896.out; have hnc137 := NB896_902.out
           have hcz138_0 : w129.cell? ⟨gb902, 0, none⟩ = some (.int .i64 t897) := bc BK902 0
           have hcz138_1 : w129.cell? ⟨gb902, 1, none⟩ = some (.slice Ao72 t898.length co72) := bc BK902 1
           have hfz138_0 := blk_frozen BK902.out 0; have hfz138_1 := blk_frozen BK902.out 1; have hnb139 := NB886_869.out; have hnc139 := NB869_886.out; have hnb140 := NB886_870.out; have hnc140 := NB870_886.out; have hnb141 := NB886_891.out; have hnc141 := NB891_886.out; have hnb142 := NB886_896.out; have hnc142 := NB896_886.out
           have hcz143_0 : w129.cell? ⟨gb886, 0, none⟩ = some (.int .i64 t881) := bc BK886 0
           have hcz143_1 : w129.cell? ⟨gb886, 1, none⟩ = some (.slice Ao42 t882.length co42) := bc BK886 1
           have hfz143_0 := blk_frozen BK886.out 0; have hfz143_1 := blk_frozen BK886.out 1
           go_wp2_with (first | (go_at_call 26; (with_reducible refine (laws_eqAlphabet.calls kj24 t897 _ _ t898 t881 _ _ t882 true _ ?side1 ?side2 ?side3 ?side4 A131.out).mono ?_); (case side1 => have q_ := Aside0.mk (Kd.R_reads' HO_903001.out).2.2; exact cQ q_); (case side2 => exact (Kd.R_reads' HO_903001.out).2.1); (case side3 => have q_ := Aside0.mk (Kd.R_reads' HO_887001.out).2.2; exact cQ q_); (case side4 => exact (Kd.R_reads' HO_887001.out).2.1); rintro e w144 ⟨rfl, hb⟩; replace HO_887001 := kb HO_887001 hb; replace HO_892001 := kb HO_892001 hb; replace HO_897001 := kb HO_897001 hb; replace HO_903001 := kb HO_903001 hb; replace HO907 := kb HO907 hb; replace HO912 := kb HO912 hb; replace BK869 := bb BK869 hb; replace BK870 := bb BK870 hb; replace BK886 := bb BK886 hb; replace BK891 := bb BK891 hb; replace BK896 := bb BK896 hb; replace BK902 := bb BK902 hb; replace HB := Aside0.mk (below_step (beQ HB) hb); (try clear hb); (try clear hb2); (try clear hk); (try clear hi)))
           go_meet
           case rel => exact ⟨_, ((t901 != t885)), sz, H', ⟨by have := HJ24.out; first | omega | exact Nat.le_refl _⟩, ⟨by (with_reducible repeat (first | apply Kd.R_alloc | apply Kd.R_drewN | apply Kd.R_drew)); exact Kd.R_mono HO_887001.out (fun _ hk => ⟨hk.1, ⟨hk.2.1, hk.2.2.1⟩⟩)⟩, ⟨by (with_reducible repeat (first | apply Kd.R_alloc | apply Kd.R_drewN | apply Kd.R_drew)); exact Kd.R_mono HO_892001.out (fun _ hk => ⟨hk.1, ⟨hk.2.1, hk.2.2.1⟩⟩)⟩, ⟨by (with_reducible repeat (first | apply Kd.R_alloc | apply Kd.R_drewN | apply Kd.R_drew)); exact Kd.R_mono HO_897001.out (fun _ hk => ⟨hk.1, ⟨hk.2.1, hk.2.2.1⟩⟩)⟩, ⟨by (with_reducible repeat (first | apply Kd.R_alloc | apply Kd.R_drewN | apply Kd.R_drew)); exact Kd.R_mono HO_903001.out (fun _ hk => ⟨hk.1, ⟨hk.2.1, hk.2.2.1⟩⟩)⟩, ⟨blkQ BK869⟩, ⟨blkQ BK870⟩, ⟨blkQ BK886⟩, ⟨blkQ BK891⟩, ⟨blkQ BK896⟩, ⟨blkQ BK902⟩, ⟨beQ HB⟩⟩
          ·replace c132 := Bool.eq_false_iff.mpr c132
           subst c132
           have H1 : (laws_FnExactFreeProduct.j1 kj24 t885 true a0_0 l0_1 a1_0 l1_1 t881 t882 t897 t898) = some r := by rw [if_neg (show ¬ (false = true) by decide)] at H; exact H
           clear H; have H := H1; clear H1
           have H' := Aside0.mk H
           clear H; have hnb145 := NB902_869.out; have hnc145 := NB869_902.out; have hnb146 := NB902_870.out; have hnc146 := NB870_902.out; have hnb147 := NB902_886.out; have hnc147 := NB886_902.out; have hnb148 := NB902_891.out; have hnc148 := NB891_902.out; have hnb149 := NB902_896.out; have hnc149 := NB896_902.out
           have hcz150_0 : w129.cell? ⟨gb902, 0, none⟩ = some (.int .i64 t897) := bc BK902 0
           have hcz150_1 : w129.cell? ⟨gb902, 1, none⟩ = some (.slice Ao72 t898.length co72) := bc BK902 1
           have hfz150_0 := blk_frozen BK902.out 0; have hfz150_1 := blk_frozen BK902.out 1; have hnb151 := NB886_869.out; have hnc151 := NB869_886.out; have hnb152 := NB886_870.out; have hnc152 := NB870_886.out; have hnb153 := NB886_891.out; have hnc153 := NB891_886.out; have hnb154 := NB886_896.out; have hnc154 := NB896_886.out
           have hcz155_0 : w129.cell? ⟨gb886, 0, none⟩ = some (.int .i64 t881) := bc BK886 0
           have hcz155_1 : w129.cell? ⟨gb886, 1, none⟩ = some (.slice Ao42 t882.length co42) := bc BK886 1
           have hfz155_0 := blk_frozen BK886.out 0; have hfz155_1 := blk_frozen BK886.out 1
           go_wp2_with (first | (go_at_call 26; (with_reducible refine (laws_eqAlphabet.calls kj24 t897 _ _ t898 t881 _ _ t882 false _ ?side1 ?side2 ?side3 ?side4 A131.out).mono ?_); (case side1 => have q_ := Aside0.mk (Kd.R_reads' HO_903001.out).2.2; exact cQ q_); (case side2 => exact (Kd.R_reads' HO_903001.out).2.1); (case side3 => have q_ := Aside0.mk (Kd.R_reads' HO_887001.out).2.2; exact cQ q_); (case side4 => exact (Kd.R_reads' HO_887001.out).2.1); rintro e w156 ⟨rfl, hb⟩; replace HO_887001 := kb HO_887001 hb; replace HO_892001 := kb HO_892001 hb; replace HO_897001 := kb HO_897001 hb; replace HO_903001 := kb HO_903001 hb; replace HO907 := kb HO907 hb; replace HO912 := kb HO912 hb; replace BK869 := bb BK869 hb; replace BK870 := bb BK870 hb; replace BK886 := bb BK886 hb; replace BK891 := bb BK891 hb; replace BK896 := bb BK896 hb; replace BK902 := bb BK902 hb; replace HB := Aside0.mk (below_step (beQ HB) hb); (try clear hb); (try clear hb2); (try clear hk); (try clear hi)))
           go_meet
           case rel => exact ⟨_, (true), sz, H', ⟨by have := HJ24.out; first | omega | exact Nat.le_refl _⟩, ⟨by (with_reducible repeat (first | apply Kd.R_alloc | apply Kd.R_drewN | apply Kd.R_drew)); exact Kd.R_mono HO_887001.out (fun _ hk => ⟨hk.1, ⟨hk.2.1, hk.2.2.1⟩⟩)⟩, ⟨by (with_reducible repeat (first | apply Kd.R_alloc | apply Kd.R_drewN | apply Kd.R_drew)); exact Kd.R_mono HO_892001.out (fun _ hk => ⟨hk.1, ⟨hk.2.1, hk.2.2.1⟩⟩)⟩, ⟨by (with_reducible repeat (first | apply Kd.R_alloc | apply Kd.R_drewN | apply Kd.R_drew)); exact Kd.R_mono HO_897001.out (fun _ hk => ⟨hk.1, ⟨hk.2.1, hk.2.2.1⟩⟩)⟩, ⟨by (with_reducible repeat (first | apply Kd.R_alloc | apply Kd.R_drewN | apply Kd.R_drew)); exact Kd.R_mono HO_903001.out (fun _ hk => ⟨hk.1, ⟨hk.2.1, hk.2.2.1⟩⟩)⟩, ⟨blkQ BK869⟩, ⟨blkQ BK870⟩, ⟨blkQ BK886⟩, ⟨blkQ BK891⟩, ⟨blkQ BK896⟩, ⟨blkQ BK902⟩, ⟨beQ HB⟩⟩
        case rest =>
         clear HC108
         try clear c1
         try clear c2
         try clear p2
         try clear c3
         try clear c7
         try clear c8
         try clear c9
         try clear c10
         try clear c11
         try clear c12
         try clear c13
         try clear c14
         try clear c15
         try clear c26
         try clear c28
         try clear c37
         try clear c76
         try clear c77
         try clear c78
         try clear c79
         try clear c81
         try clear c82
         try clear c83
         try clear c84
         try clear c87
         try clear c88
         try clear c89
         try clear c90
         try clear c91
         try clear c93
         try clear c94
         try clear c95
         try clear c96
         try clear c99
         try clear c102
         try clear c105
         try clear c117
         try clear c118
         try clear c119
         try clear c120
         try clear c121
         try clear c124
         try clear c125
         try clear c126
         try clear c127
         try clear c130
         try clear c130b0
         try clear c132
         try clear c133
         try clear c134
         try clear c135
         try clear c136
         try clear c137
         try clear c139
         try clear c140
         try clear c141
         try clear c142
         try clear c145
         try clear c146
         try clear c147
         try clear c148
         try clear c149
         try clear c151
         try clear c152
         try clear c153
         try clear c154
         try clear hcz122_0
         try clear hcz122_1
         try clear hcz128_0
         try clear hcz128_1
         try clear hcz138_0
         try clear hcz138_1
         try clear hcz143_0
         try clear hcz143_1
         try clear hcz150_0
         try clear hcz150_1
         try clear hcz155_0
         try clear hcz155_1
         try clear hcz45_0
         try clear hcz45_1
         try clear hcz51_0
         try clear hcz51_1
         try clear hcz54_0
         try clear hcz54_1
         try clear hcz61_0
         try clear hcz61_1
         try clear hcz63_0
         try clear hcz63_1
         try clear hcz71_0
         try clear hcz71_1
         try clear hcz80_0
         try clear hcz80_1
         try clear hcz85_0
         try clear hcz85_1
         try clear hcz92_0
         try clear hcz92_1
         try clear hcz97_0
         try clear hcz97_1
         try clear hfz122_0
         try clear hfz122_1
         try clear hfz128_0
         try clear hfz128_1
         try clear hfz138_0
         try clear hfz138_1
         try clear hfz143_0
         try clear hfz143_1
         try clear hfz150_0
         try clear hfz150_1
         try clear hfz155_0
         try clear hfz155_1
         try clear hfz45_0
         try clear hfz45_1
         try clear hfz51_0
         try clear hfz51_1
         try clear hfz54_0
         try clear hfz54_1
         try clear hfz61_0
         try clear hfz61_1
         try clear hfz63_0
         try clear hfz63_1
         try clear hfz71_0
         try clear hfz71_1
         try clear hfz80_0
         try clear hfz80_1
         try clear hfz85_0
         try clear hfz85_1
         try clear hfz92_0
         try clear hfz92_1
         try clear hfz97_0
         try clear hfz97_1
         obtain ⟨kq, x82_107, rfl, HA, HJ107, HO_887001, HO_892001, HO_897001, HO_903001, BK869, BK870, BK886, BK891, BK896, BK902, HB⟩ := hcut; have hl892001_107 := (Kd.R_reads' HO_892001.out).1; rw [hl892001_107] at HO_892001
         (try simp only [hl892001_107])
         (try simp only [hl892001_107] at BK869)
         (try simp only [hl892001_107] at BK870)
         (try simp only [hl892001_107] at BK886)
         (try simp only [hl892001_107] at BK891)
         (try simp only [hl892001_107] at BK896)
         (try simp only [hl892001_107] at BK902)
         (try simp only [hl892001_107] at HO_887001)
         (try simp only [hl892001_107] at HO_897001)
         (try simp only [hl892001_107] at HO_903001)
         have hl897001_107 := (Kd.R_reads' HO_897001.out).1; rw [hl897001_107] at HO_897001
         (try simp only [hl897001_107])
         (try simp only [hl897001_107] at BK869)
         (try simp only [hl897001_107] at BK870)
         (try simp only [hl897001_107] at BK886)
         (try simp only [hl897001_107] at BK891)
         (try simp only [hl897001_107] at BK896)
         (try simp only [hl897001_107] at BK902)
         (try simp only [hl897001_107] at HO_887001)
         (try simp only [hl897001_107] at HO_892001)
         (try simp only [hl897001_107] at HO_903001)
         cases kq with
         | zero => exact absurd HA.out (by simp [laws_FnExactFreeProduct.j1])
         | succ kj107 =>
          have H := HA.out; clear HA
          simp only [laws_FnExactFreeProduct.j1] at H
          by_cases c157 : x82_107 = true
          ·subst c157
           have H1 : (some false) = some r := by rw [if_pos rfl] at H; exact H
           clear H; have H := H1; clear H1
           obtain rfl := Option.some.inj H
           go_wp2
           go_ret
           exact ⟨rz, beQ HB⟩
          ·replace c157 := Bool.eq_false_iff.mpr c157
           subst c157
           have H1 : ((laws_markAlphabet.f kj107 t897 t898 1).bind fun bt919 => ((laws_heldAlphabet.f kj107 t897 bt919.2 1).bind fun t921 => (if t921 < 0 then (some false) else (if t921 = bt919.1 then ((laws_toAlphabet.f kj107 a0_0 l0_1).bind fun bt922 => ((laws_toAlphabet.f kj107 a1_0 l1_1).bind fun bt926 => ((impl_FreeProduct.f kj107 bt922.1 bt922.2 bt926.1 bt926.2).bind fun bt930 => ((laws_eqAlphabet.f kj107 bt930.1 bt930.2.1 t881 t882).bind fun t936 => (if t936 = true then (laws_FnExactFreeProduct.j2 kj107 bt919.1 (bt930.2.2 != t885) t897 bt919.2) else (laws_FnExactFreeProduct.j2 kj107 bt919.1 true t897 bt919.2)))))) else (some false))))) = some r := by rw [if_neg (show ¬ (false = true) by decide)] at H; exact H
           clear H; have H := H1; clear H1; replace H := Option.bind_eq_some_iff.mp H
           obtain ⟨⟨t919, t920⟩, A1580, H⟩ := H
           replace H : ((laws_heldAlphabet.f kj107 t897 t920 1).bind fun t921 => (if t921 < 0 then (some false) else (if t921 = t919 then ((laws_toAlphabet.f kj107 a0_0 l0_1).bind fun bt922 => ((laws_toAlphabet.f kj107 a1_0 l1_1).bind fun bt926 => ((impl_FreeProduct.f kj107 bt922.1 bt922.2 bt926.1 bt926.2).bind fun bt930 => ((laws_eqAlphabet.f kj107 bt930.1 bt930.2.1 t881 t882).bind fun t936 => (if t936 = true then (laws_FnExactFreeProduct.j2 kj107 t919 (bt930.2.2 != t885) t897 t920) else (laws_FnExactFreeProduct.j2 kj107 t919 true t897 t920)))))) else (some false)))) = some r := H
           have A158 := Aside0.mk A1580; clear A1580; replace H := Option.bind_eq_some_iff.mp H; obtain ⟨t921, A1590, H⟩ := H
           replace H : (if t921 < 0 then (some false) else (if t921 = t919 then ((laws_toAlphabet.f kj107 a0_0 l0_1).bind fun bt922 => ((laws_toAlphabet.f kj107 a1_0 l1_1).bind fun bt926 => ((impl_FreeProduct.f kj107 bt922.1 bt922.2 bt926.1 bt926.2).bind fun bt930 => ((laws_eqAlphabet.f kj107 bt930.1 bt930.2.1 t881 t882).bind fun t936 => (if t936 = true then (laws_FnExactFreeProduct.j2 kj107 t919 (bt930.2.2 != t885) t897 t920) else (laws_FnExactFreeProduct.j2 kj107 t919 true t897 t920)))))) else (some false))) = some r := H
           have A159 := Aside0.mk A1590; clear A1590
           by_cases c160 : t921 < 0
           ·rw [if_pos c160] at H
            have c160b0 : decide (t921 < 0) = true := decide_eq_true c160
            clear c160
            obtain rfl := Option.some.inj H
            have hnb161 := NB902_869.out; have hnc161 := NB869_902.out; have hnb162 := NB902_870.out; have hnc162 := NB870_902.out; have hnb163 := NB902_886.out; have hnc163 := NB886_902.out; have hnb164 := NB902_891.out; have hnc164 := NB891_902.out; have hnb165 := NB902_896.out; have hnc165 := NB896_902.out
            have hcz166_0 : wc.cell? ⟨gb902, 0, none⟩ = some (.int .i64 t897) := bc BK902 0
            have hcz166_1 : wc.cell? ⟨gb902, 1, none⟩ = some (.slice Ao72 t898.length co72) := bc BK902 1
            have hfz166_0 := blk_frozen BK902.out 0; have hfz166_1 := blk_frozen BK902.out 1
            go_wp2_with (first | ((with_reducible refine gate_callee (f := 28) rfl ?_); refine goesL_ (some 85) rfl rfl Tryd.func28 (by kernel_rfl) rfl #[.agg #[.int .i64 t897, .slice Ao72 t898.length co72], .int .i64 1] rfl lz ?_; (with_reducible refine (laws_markAlphabet.calls kj107 t897 (fun k_ => some k_ = (.slice Ao72 t898.length co72 : Value).ownBlock) (.slice Ao72 t898.length co72) t898 1 t919 t920 w _ ?side1 ?side2 A158.out).mono ?_); (case side1 => repeat (first | (with_reducible first | exact HB.out | apply below_alloc | apply pw_below_drewN | apply below_drew1 | refine below_set ?_ GE869.out | refine below_set ?_ GE870.out | refine below_set ?_ GE886.out | refine below_set ?_ GE891.out | refine below_set ?_ GE896.out | refine below_set ?_ GE902.out) | exact HB.out)); (case side2 => exact Kd.R_tight rfl HO_903001.out); rintro e w167 ⟨rfl, hy0, hb, hkp⟩; refine ⟨_, rfl, ?_⟩; replace HO_887001 := Aside0.mk (Kd.R_mono (ok' := fun k_ => some k_ ≠ (.slice Ao52 t915.length co52 : Value).ownBlock ∧ some k_ ≠ (.slice Ao62 t917.length co62 : Value).ownBlock ∧ some k_ ≠ (.slice Ao72 t898.length co72 : Value).ownBlock) (Kd.R_keptB (HO_887001.out) hkp (fun k_ hk_ hs_ => (hk_.2.2) hs_)) (fun k_ hk_ => ⟨hk_.1.1, hk_.1.2.1, hk_.1.2.2⟩)); replace HO_892001 := Aside0.mk (Kd.R_mono (ok' := fun k_ => some k_ ≠ (.slice Ao42 t882.length co42 : Value).ownBlock ∧ some k_ ≠ (.slice Ao62 t917.length co62 : Value).ownBlock ∧ some k_ ≠ (.slice Ao72 t898.length co72 : Value).ownBlock) (Kd.R_keptB (HO_892001.out) hkp (fun k_ hk_ hs_ => (hk_.2.2) hs_)) (fun k_ hk_ => ⟨hk_.1.1, hk_.1.2.1, hk_.1.2.2⟩)); replace HO_897001 := Aside0.mk (Kd.R_mono (ok' := fun k_ => some k_ ≠ (.slice Ao42 t882.length co42 : Value).ownBlock ∧ some k_ ≠ (.slice Ao52 t915.length co52 : Value).ownBlock ∧ some k_ ≠ (.slice Ao72 t898.length co72 : Value).ownBlock) (Kd.R_keptB (HO_897001.out) hkp (fun k_ hk_ hs_ => (hk_.2.2) hs_)) (fun k_ hk_ => ⟨hk_.1.1, hk_.1.2.1, hk_.1.2.2⟩)); replace BK869 := Aside0.mk (blk_kept (blkQ BK869) hkp (fun hs_ => (fun e_ => (Kd.R_ne HO_903001.out BK869.out (by decide)) e_) hs_)); replace BK870 := Aside0.mk (blk_kept (blkQ BK870) hkp (fun hs_ => (fun e_ => (Kd.R_ne HO_903001.out BK870.out (by decide)) e_) hs_)); replace BK886 := Aside0.mk (blk_kept (blkQ BK886) hkp (fun hs_ => (fun e_ => (Kd.R_ne HO_903001.out BK886.out (by decide)) e_) hs_)); replace BK891 := Aside0.mk (blk_kept (blkQ BK891) hkp (fun hs_ => (fun e_ => (Kd.R_ne HO_903001.out BK891.out (by decide)) e_) hs_)); replace BK896 := Aside0.mk (blk_kept (blkQ BK896) hkp (fun hs_ => (fun e_ => (Kd.R_ne HO_903001.out BK896.out (by decide)) e_) hs_)); replace BK902 := Aside0.mk (blk_kept (blkQ BK902) hkp (fun hs_ => (fun e_ => (Kd.R_ne HO_903001.out BK902.out (by decide)) e_) hs_)); replace HO_903001 := Aside0.mk (Kd.R_reok rfl hy0 (fun k_ e_ => HO_903001.out.1 k_ e_)); replace HB := Aside0.mk (hb); (try clear hb); (try clear hkp); (try clear hy0); have hcz168_0 : w167.cell? ⟨gb902, 0, none⟩ = some (.int .i64 t897) := bc BK902 0; have hcz168_1 : w167.cell? ⟨gb902, 1, none⟩ = some (.slice Ao72 t898.length co72) := bc BK902 1; have hfz168_0 := blk_frozen BK902.out 0; have hfz168_1 := blk_frozen BK902.out 1) | ((with_reducible refine gate_callee (f := 29) rfl ?_); refine goesL_ (some 88) rfl rfl Tryd.func29 (by kernel_rfl) rfl #[.agg #[.int .i64 t897, .slice Ao72 t920.length co72], .int .i64 1] rfl (by (try simp only [List.map_toArray, List.map_cons, List.map_nil]); first | done | (rw [show t920.length = t898.length from (Kd.R_reads' HO_903001.out).1.symm] <;> rfl) | rfl | (simp only [List.length_drop, List.length_take]; rfl)) ?_; (with_reducible refine (laws_heldAlphabet.calls kj107 t897 _ _ t920 1 t921 _ ?side1 ?side2 A159.out).mono ?_); (case side1 => have q_ := Aside0.mk (Kd.R_reads' HO_903001.out).2.2; exact cQ q_); (case side2 => rw [show t920.length = t898.length from (Kd.R_reads' HO_903001.out).1.symm]; exact (Kd.R_reads' HO_903001.out).2.1); rintro e w169 ⟨rfl, hb⟩; refine ⟨_, rfl, ?_⟩; replace HO_887001 := kb HO_887001 hb; replace HO_892001 := kb HO_892001 hb; replace HO_897001 := kb HO_897001 hb; replace HO_903001 := kb HO_903001 hb; replace BK869 := bb BK869 hb; replace BK870 := bb BK870 hb; replace BK886 := bb BK886 hb; replace BK891 := bb BK891 hb; replace BK896 := bb BK896 hb; replace BK902 := bb BK902 hb; replace HB := Aside0.mk (below_step (beQ HB) hb); (try clear hb); (try clear hb2); (try clear hk); (try clear hi)))
            go_ret
            exact ⟨rz, beQ HB⟩
           ·rw [if_neg c160] at H
            have c160b0 : decide (t921 < 0) = false := decide_eq_false c160
            clear c160
            by_cases c170 : t921 = t919
            ·rw [if_pos c170] at H
             have c170b0 : (t921 == t919) = true := beq_iff_eq.mpr c170
             have c170b1 : (t921 != t919) = false := bne_eq_false_iff_eq.mpr c170
             clear c170; replace H := Option.bind_eq_some_iff.mp H
             obtain ⟨⟨t922, t923⟩, A1710, H⟩ := H
             replace H : ((laws_toAlphabet.f kj107 a1_0 l1_1).bind fun bt926 => ((impl_FreeProduct.f kj107 t922 t923 bt926.1 bt926.2).bind fun bt930 => ((laws_eqAlphabet.f kj107 bt930.1 bt930.2.1 t881 t882).bind fun t936 => (if t936 = true then (laws_FnExactFreeProduct.j2 kj107 t919 (bt930.2.2 != t885) t897 t920) else (laws_FnExactFreeProduct.j2 kj107 t919 true t897 t920))))) = some r := H
             have A171 := Aside0.mk A1710; clear A1710; replace H := Option.bind_eq_some_iff.mp H
             obtain ⟨⟨t926, t927⟩, A1720, H⟩ := H
             replace H : ((impl_FreeProduct.f kj107 t922 t923 t926 t927).bind fun bt930 => ((laws_eqAlphabet.f kj107 bt930.1 bt930.2.1 t881 t882).bind fun t936 => (if t936 = true then (laws_FnExactFreeProduct.j2 kj107 t919 (bt930.2.2 != t885) t897 t920) else (laws_FnExactFreeProduct.j2 kj107 t919 true t897 t920)))) = some r := H
             have A172 := Aside0.mk A1720; clear A1720; replace H := Option.bind_eq_some_iff.mp H
             obtain ⟨⟨t930, t931, t934⟩, A1730, H⟩ := H
             replace H : ((laws_eqAlphabet.f kj107 t930 t931 t881 t882).bind fun t936 => (if t936 = true then (laws_FnExactFreeProduct.j2 kj107 t919 (t934 != t885) t897 t920) else (laws_FnExactFreeProduct.j2 kj107 t919 true t897 t920))) = some r := H
             have A173 := Aside0.mk A1730; clear A1730; have HC174 := Aside0.mk H; clear H; have hnb175 := NB902_869.out; have hnc175 := NB869_902.out; have hnb176 := NB902_870.out; have hnc176 := NB870_902.out; have hnb177 := NB902_886.out; have hnc177 := NB886_902.out; have hnb178 := NB902_891.out; have hnc178 := NB891_902.out; have hnb179 := NB902_896.out; have hnc179 := NB896_902.out
             have hcz180_0 : wc.cell? ⟨gb902, 0, none⟩ = some (.int .i64 t897) := bc BK902 0
             have hcz180_1 : wc.cell? ⟨gb902, 1, none⟩ = some (.slice Ao72 t898.length co72) := bc BK902 1
             have hfz180_0 := blk_frozen BK902.out 0; have hfz180_1 := blk_frozen BK902.out 1
             try go_wp2_with (first | ((with_reducible refine gate_callee (f := 28) rfl ?_); refine goesL_ (some 85) rfl rfl Tryd.func28 (by kernel_rfl) rfl #[.agg #[.int .i64 t897, .slice Ao72 t898.length co72], .int .i64 1] rfl lz ?_; (with_reducible refine (laws_markAlphabet.calls kj107 t897 (fun k_ => some k_ = (.slice Ao72 t898.length co72 : Value).ownBlock) (.slice Ao72 t898.length co72) t898 1 t919 t920 w _ ?side1 ?side2 A158.out).mono ?_); (case side1 => repeat (first | (with_reducible first | exact HB.out | apply below_alloc | apply pw_below_drewN | apply below_drew1 | refine below_set ?_ GE869.out | refine below_set ?_ GE870.out | refine below_set ?_ GE886.out | refine below_set ?_ GE891.out | refine below_set ?_ GE896.out | refine below_set ?_ GE902.out) | exact HB.out)); (case side2 => exact Kd.R_tight rfl HO_903001.out); rintro e w181 ⟨rfl, hy0, hb, hkp⟩; refine ⟨_, rfl, ?_⟩; replace HO_887001 := Aside0.mk (Kd.R_mono (ok' := fun k_ => some k_ ≠ (.slice Ao52 t915.length co52 : Value).ownBlock ∧ some k_ ≠ (.slice Ao62 t917.length co62 : Value).ownBlock ∧ some k_ ≠ (.slice Ao72 t898.length co72 : Value).ownBlock) (Kd.R_keptB (HO_887001.out) hkp (fun k_ hk_ hs_ => (hk_.2.2) hs_)) (fun k_ hk_ => ⟨hk_.1.1, hk_.1.2.1, hk_.1.2.2⟩)); replace HO_892001 := Aside0.mk (Kd.R_mono (ok' := fun k_ => some k_ ≠ (.slice Ao42 t882.length co42 : Value).ownBlock ∧ some k_ ≠ (.slice Ao62 t917.length co62 : Value).ownBlock ∧ some k_ ≠ (.slice Ao72 t898.length co72 : Value).ownBlock) (Kd.R_keptB (HO_892001.out) hkp (fun k_ hk_ hs_ => (hk_.2.2) hs_)) (fun k_ hk_ => ⟨hk_.1.1, hk_.1.2.1, hk_.1.2.2⟩)); replace HO_897001 := Aside0.mk (Kd.R_mono (ok' := fun k_ => some k_ ≠ (.slice Ao42 t882.length co42 : Value).ownBlock ∧ some k_ ≠ (.slice Ao52 t915.length co52 : Value).ownBlock ∧ some k_ ≠ (.slice Ao72 t898.length co72 : Value).ownBlock) (Kd.R_keptB (HO_897001.out) hkp (fun k_ hk_ hs_ => (hk_.2.2) hs_)) (fun k_ hk_ => ⟨hk_.1.1, hk_.1.2.1, hk_.1.2.2⟩)); replace BK869 := Aside0.mk (blk_kept (blkQ BK869) hkp (fun hs_ => (fun e_ => (Kd.R_ne HO_903001.out BK869.out (by decide)) e_) hs_)); replace BK870 := Aside0.mk (blk_kept (blkQ BK870) hkp (fun hs_ => (fun e_ => (Kd.R_ne HO_903001.out BK870.out (by decide)) e_) hs_)); replace BK886 := Aside0.mk (blk_kept (blkQ BK886) hkp (fun hs_ => (fun e_ => (Kd.R_ne HO_903001.out BK886.out (by decide)) e_) hs_)); replace BK891 := Aside0.mk (blk_kept (blkQ BK891) hkp (fun hs_ => (fun e_ => (Kd.R_ne HO_903001.out BK891.out (by decide)) e_) hs_)); replace BK896 := Aside0.mk (blk_kept (blkQ BK896) hkp (fun hs_ => (fun e_ => (Kd.R_ne HO_903001.out BK896.out (by decide)) e_) hs_)); replace BK902 := Aside0.mk (blk_kept (blkQ BK902) hkp (fun hs_ => (fun e_ => (Kd.R_ne HO_903001.out BK902.out (by decide)) e_) hs_)); replace HO_903001 := Aside0.mk (Kd.R_reok rfl hy0 (fun k_ e_ => HO_903001.out.1 k_ e_)); replace HB := Aside0.mk (hb); (try clear hb); (try clear hkp); (try clear hy0); have hcz182_0 : w181.cell? ⟨gb902, 0, none⟩ = some (.int .i64 t897) := bc BK902 0; have hcz182_1 : w181.cell? ⟨gb902, 1, none⟩ = some (.slice Ao72 t898.length co72) := bc BK902 1; have hfz182_0 := blk_frozen BK902.out 0; have hfz182_1 := blk_frozen BK902.out 1) | ((with_reducible refine gate_callee (f := 29) rfl ?_); refine goesL_ (some 88) rfl rfl Tryd.func29 (by kernel_rfl) rfl #[.agg #[.int .i64 t897, .slice Ao72 t920.length co72], .int .i64 1] rfl (by (try simp only [List.map_toArray, List.map_cons, List.map_nil]); first | done | (rw [show t920.length = t898.length from (Kd.R_reads' HO_903001.out).1.symm] <;> rfl) | rfl | (simp only [List.length_drop, List.length_take]; rfl)) ?_; (with_reducible refine (laws_heldAlphabet.calls kj107 t897 _ _ t920 1 t921 _ ?side1 ?side2 A159.out).mono ?_); (case side1 => have q_ := Aside0.mk (Kd.R_reads' HO_903001.out).2.2; exact cQ q_); (case side2 => rw [show t920.length = t898.length from (Kd.R_reads' HO_903001.out).1.symm]; exact (Kd.R_reads' HO_903001.out).2.1); rintro e w183 ⟨rfl, hb⟩; refine ⟨_, rfl, ?_⟩; replace HO_887001 := kb HO_887001 hb; replace HO_892001 := kb HO_892001 hb; replace HO_897001 := kb HO_897001 hb; replace HO_903001 := kb HO_903001 hb; replace BK869 := bb BK869 hb; replace BK870 := bb BK870 hb; replace BK886 := bb BK886 hb; replace BK891 := bb BK891 hb; replace BK896 := bb BK896 hb; replace BK902 := bb BK902 hb; replace HB := Aside0.mk (below_step (beQ HB) hb); (try clear hb); (try clear hb2); (try clear hk); (try clear hi)))
             replace HO_887001 := Aside0.mk (Kd.R_drew HO_887001.out); replace HO_892001 := Aside0.mk (Kd.R_drew HO_892001.out); replace HO_897001 := Aside0.mk (Kd.R_drew HO_897001.out); replace HO_903001 := Aside0.mk (Kd.R_drew HO_903001.out); replace BK869 := Aside0.mk (blk_drew BK869.out); replace BK870 := Aside0.mk (blk_drew BK870.out); replace BK886 := Aside0.mk (blk_drew BK886.out); replace BK891 := Aside0.mk (blk_drew BK891.out); replace BK896 := Aside0.mk (blk_drew BK896.out); replace BK902 := Aside0.mk (blk_drew BK902.out); replace HB := Aside0.mk (below_drew1 HB.out)
             refine start_ (n := 11) (S := fun w' => w'.cell? ⟨gb869, 0, none⟩ = some (.int .i64 a0_0) ∧ w'.cell? ⟨gb869, 1, none⟩ = some (.slice A0_1 l0_1.length c0_1) ∧ w'.cell? ⟨gb870, 0, none⟩ = some (.int .i64 a1_0) ∧ w'.cell? ⟨gb870, 1, none⟩ = some (.slice A1_1 l1_1.length c1_1)) (ds := []) #[false, false, false, false, false, false, false, false, false, false, false] (by kernel_rfl) rfl rfl ⟨bc BK869 0, bc BK869 1, bc BK870 0, bc BK870 1⟩ (fun hHeld => ?_); refine with_tabW laws_FnExactFreeProduct.tab31 laws_FnExactFreeProduct.bits31 (fun HT_ HW_ => ?_)
             generalize w183.drew = w184 at HO_887001 HO_892001 HO_897001 HO_903001 BK869 BK870 BK886 BK891 BK896 BK902 HB hHeld ⊢
             refine take_ (i := 0) (N := some 95) (v := ?_) (a' := ?_) #[true, false, false, false, false, false, false, false, false, false, false] rfl rfl (take_ofW HT_.out HW_.out (by kernel_rfl)) (fun _ _ _ h => h) (Or.inl ⟨by rfl, ?_⟩) hHeld ?_ ?_
             rotate_left
             ·rintro w' ⟨s0, s1, s2, s3⟩
              go_simp
              with_reducible rfl
             rotate_left
             ·simp only [Act.put, s1, s2, s3, i64_w, i32_w]
              rfl
             refine take_ (i := 2) (N := some 97) (v := ?_) (a' := ?_) #[true, false, true, false, false, false, false, false, false, false, false] rfl rfl (take_ofW HT_.out HW_.out (by kernel_rfl)) (fun _ _ _ h => h) (Or.inl ⟨by rfl, ?_⟩) hHeld ?_ ?_
             rotate_left
             ·rintro w' ⟨s0, s1, s2, s3⟩
              go_simp
              with_reducible rfl
             rotate_left
             ·simp only [Act.put, s1, s2, s3, i64_w, i32_w]
              rfl
             refine join_ (σ := Value × Value × Value × Nat) 2 #[true, true, true, true, true, true, true, true, true, false, false] (fun s_ => [(96, .agg #[.int .i64 t922, s_.1]), (98, .agg #[.int .i64 t926, s_.2.1]), (99, .tuple #[.agg #[.int .i64 t930, s_.2.2.1], .int .i64 t934]), (15, .pointer (some ⟨s_.2.2.2, 0, none⟩)), (94, .tuple #[.agg #[.int .i64 t930, s_.2.2.1], .int .i64 t934]), (100, .agg #[.int .i64 t930, s_.2.2.1]), (101, .int .i64 t934)]) (fun s_ w' => (w'.cell? ⟨gb869, 0, none⟩ = some (.int .i64 a0_0) ∧ w'.cell? ⟨gb869, 1, none⟩ = some (.slice A0_1 l0_1.length c0_1) ∧ w'.cell? ⟨gb870, 0, none⟩ = some (.int .i64 a1_0) ∧ w'.cell? ⟨gb870, 1, none⟩ = some (.slice A1_1 l1_1.length c1_1)) ∧ (Kd.R (Kd.int .i64) 2 w' w.heap.size (fun k_ => some k_ ≠ (s_.2.1 : Value).ownBlock ∧ some k_ ≠ (s_.2.2.1 : Value).ownBlock ∧ some k_ ≠ (.slice Ao42 t882.length co42 : Value).ownBlock ∧ some k_ ≠ (.slice Ao52 t915.length co52 : Value).ownBlock ∧ some k_ ≠ (.slice Ao62 t917.length co62 : Value).ownBlock ∧ some k_ ≠ (.slice Ao72 t898.length co72 : Value).ownBlock) s_.1 t923) ∧ (Kd.R (Kd.int .i64) 2 w' w.heap.size (fun k_ => some k_ ≠ (s_.1 : Value).ownBlock ∧ some k_ ≠ (s_.2.2.1 : Value).ownBlock ∧ some k_ ≠ (.slice Ao42 t882.length co42 : Value).ownBlock ∧ some k_ ≠ (.slice Ao52 t915.length co52 : Value).ownBlock ∧ some k_ ≠ (.slice Ao62 t917.length co62 : Value).ownBlock ∧ some k_ ≠ (.slice Ao72 t898.length co72 : Value).ownBlock) s_.2.1 t927) ∧ (Kd.R (Kd.int .i64) 2 w' w.heap.size (fun k_ => some k_ ≠ (s_.1 : Value).ownBlock ∧ some k_ ≠ (s_.2.1 : Value).ownBlock ∧ some k_ ≠ (.slice Ao42 t882.length co42 : Value).ownBlock ∧ some k_ ≠ (.slice Ao52 t915.length co52 : Value).ownBlock ∧ some k_ ≠ (.slice Ao62 t917.length co62 : Value).ownBlock ∧ some k_ ≠ (.slice Ao72 t898.length co72 : Value).ownBlock) s_.2.2.1 t931) ∧ (Kd.R (Kd.int .i64) 2 w' w.heap.size (fun k_ => some k_ ≠ (s_.1 : Value).ownBlock ∧ some k_ ≠ (s_.2.1 : Value).ownBlock ∧ some k_ ≠ (s_.2.2.1 : Value).ownBlock ∧ some k_ ≠ (.slice Ao52 t915.length co52 : Value).ownBlock ∧ some k_ ≠ (.slice Ao62 t917.length co62 : Value).ownBlock ∧ some k_ ≠ (.slice Ao72 t898.length co72 : Value).ownBlock) (.slice Ao42 t882.length co42) t882) ∧ (Kd.R (Kd.int .i64) 2 w' w.heap.size (fun k_ => some k_ ≠ (s_.1 : Value).ownBlock ∧ some k_ ≠ (s_.2.1 : Value).ownBlock ∧ some k_ ≠ (s_.2.2.1 : Value).ownBlock ∧ some k_ ≠ (.slice Ao42 t882.length co42 : Value).ownBlock ∧ some k_ ≠ (.slice Ao62 t917.length co62 : Value).ownBlock ∧ some k_ ≠ (.slice Ao72 t898.length co72 : Value).ownBlock) (.slice Ao52 t915.length co52) t915) ∧ (Kd.R (Kd.int .i64) 2 w' w.heap.size (fun k_ => some k_ ≠ (s_.1 : Value).ownBlock ∧ some k_ ≠ (s_.2.1 : Value).ownBlock ∧ some k_ ≠ (s_.2.2.1 : Value).ownBlock ∧ some k_ ≠ (.slice Ao42 t882.length co42 : Value).ownBlock ∧ some k_ ≠ (.slice Ao52 t915.length co52 : Value).ownBlock ∧ some k_ ≠ (.slice Ao72 t898.length co72 : Value).ownBlock) (.slice Ao62 t917.length co62) t917) ∧ (Kd.R (Kd.int .i64) 2 w' w.heap.size (fun k_ => some k_ ≠ (s_.1 : Value).ownBlock ∧ some k_ ≠ (s_.2.1 : Value).ownBlock ∧ some k_ ≠ (s_.2.2.1 : Value).ownBlock ∧ some k_ ≠ (.slice Ao42 t882.length co42 : Value).ownBlock ∧ some k_ ≠ (.slice Ao52 t915.length co52 : Value).ownBlock ∧ some k_ ≠ (.slice Ao62 t917.length co62 : Value).ownBlock) (.slice Ao72 t898.length co72) t920) ∧ (w'.heap[gb869]? = some (.cells #[.int .i64 a0_0, .slice A0_1 l0_1.length c0_1] 46 (0, 0))) ∧ (w'.heap[gb870]? = some (.cells #[.int .i64 a1_0, .slice A1_1 l1_1.length c1_1] 46 (0, 0))) ∧ (w'.heap[gb886]? = some (.cells #[.int .i64 t881, .slice Ao42 t882.length co42] 38 (0, 0))) ∧ (w'.heap[gb891]? = some (.cells #[.int .i64 t887, .slice Ao52 t915.length co52] 38 (0, 0))) ∧ (w'.heap[gb896]? = some (.cells #[.int .i64 t892, .slice Ao62 t917.length co62] 38 (0, 0))) ∧ (w'.heap[gb902]? = some (.cells #[.int .i64 t897, .slice Ao72 t898.length co72] 38 (0, 0))) ∧ (w'.heap[s_.2.2.2]? = some (.cells #[.int .i64 0, .slice none 0 0] 38 (0, 0))) ∧ (w.heap.size ≤ s_.2.2.2) ∧ (w.heap.size ≤ s_.2.2.2) ∧ (gb869 ≠ s_.2.2.2) ∧ (s_.2.2.2 ≠ gb869) ∧ (gb870 ≠ s_.2.2.2) ∧ (s_.2.2.2 ≠ gb870) ∧ (gb886 ≠ s_.2.2.2) ∧ (s_.2.2.2 ≠ gb886) ∧ (gb891 ≠ s_.2.2.2) ∧ (s_.2.2.2 ≠ gb891) ∧ (gb896 ≠ s_.2.2.2) ∧ (s_.2.2.2 ≠ gb896) ∧ (gb902 ≠ s_.2.2.2) ∧ (s_.2.2.2 ≠ gb902) ∧ (Below w.heap.size w w')) ?_ ?_
             rotate_left
             ·intro hCont
              refine two_ (i := 1) (j := 8) (Ni := some 96) (Nj := some 15) #[true, true, true, false, false, false, false, false, false, false, false] #[true, false, true, false, false, false, false, false, true, false, false] rfl rfl rfl rfl (two_of HT_.out (by kernel_rfl)) (by decide) (by decide) (fun K hK => ?_) (fun K hK => ?_)
              ·skip
               refine goes_ Tryd.func37 (by kernel_rfl) rfl #[.agg #[.int .i64 a0_0, .slice A0_1 l0_1.length c0_1]] (by rfl) rfl rfl lz ?_
               with_reducible refine (laws_toAlphabet.calls kj107 a0_0 _ _ l0_1 t922 t923 _ ?side1 ?side2 A171.out).mono ?_
               (case side1 => have q_ := Aside0.mk (Kd.C_below HR0_1.out HB.out); exact cQ q_)
               (case side2 => exact HC0_1.out)
               rintro e w185 ⟨v924, rfl, ho0, hb⟩
               refine ⟨_, rfl, ?_⟩
               have HO925 := Aside0.mk (Kd.R_lower (Kd.R_new' (Kd.R_new' (Kd.R_new' (Kd.R_new' ho0 (Kd.R_lt (kdQ HO_887001))) (Kd.R_lt (kdQ HO_892001))) (Kd.R_lt (kdQ HO_897001))) (Kd.R_lt (kdQ HO_903001))) (below_size (beQ HB))); replace HO_887001 := Aside0.mk (Kd.R_elder' (kdQ HO_887001) (Kd.R_base ho0) hb); replace HO_892001 := Aside0.mk (Kd.R_elder' (kdQ HO_892001) (Kd.R_base ho0) hb); replace HO_897001 := Aside0.mk (Kd.R_elder' (kdQ HO_897001) (Kd.R_base ho0) hb); replace HO_903001 := Aside0.mk (Kd.R_elder' (kdQ HO_903001) (Kd.R_base ho0) hb); replace BK869 := bb BK869 hb; replace BK870 := bb BK870 hb; replace BK886 := bb BK886 hb; replace BK891 := bb BK891 hb; replace BK896 := bb BK896 hb; replace BK902 := bb BK902 hb; replace HB := Aside0.mk (below_step (beQ HB) hb)
               (try clear hb)
               (try clear hb2)
               (try clear hk)
               (try clear hi)
               (try clear ho0)
               refine hK.out _ _ ⟨bc BK869 0, bc BK869 1, bc BK870 0, bc BK870 1⟩ (fun hHeld => ?_)
               clear hK K
               refine norm_ (a' := ?_) ?_ ?_
               rotate_left
               ·show Act.put _ (some 96) _ = _
                simp only [Act.put, s1, s2, s3, i64_w, i32_w]
                rfl
               refine two_ (i := 3) (j := 8) (Ni := some 98) (Nj := some 15) #[true, true, true, true, false, false, false, false, false, false, false] #[true, true, true, false, false, false, false, false, true, false, false] rfl rfl rfl rfl (two_of HT_.out (by kernel_rfl)) (by decide) (by decide) (fun K hK => ?_) (fun K hK => ?_)
               ·skip
                refine goes_ Tryd.func37 (by kernel_rfl) rfl #[.agg #[.int .i64 a1_0, .slice A1_1 l1_1.length c1_1]] (by rfl) rfl rfl lz ?_
                with_reducible refine (laws_toAlphabet.calls kj107 a1_0 _ _ l1_1 t926 t927 _ ?side1 ?side2 A172.out).mono ?_
                (case side1 => have q_ := Aside0.mk (Kd.C_below HR1_1.out HB.out); exact cQ q_)
                (case side2 => exact HC1_1.out)
                rintro e w186 ⟨v928, rfl, ho0, hb⟩
                refine ⟨_, rfl, ?_⟩
                have HO929 := Aside0.mk (Kd.R_lower (Kd.R_new' (Kd.R_new' (Kd.R_new' (Kd.R_new' (Kd.R_new' ho0 (Kd.R_lt (kdQ HO_887001))) (Kd.R_lt (kdQ HO_892001))) (Kd.R_lt (kdQ HO_897001))) (Kd.R_lt (kdQ HO_903001))) (Kd.R_lt (kdQ HO925))) (below_size (beQ HB))); replace HO_887001 := Aside0.mk (Kd.R_elder' (kdQ HO_887001) (Kd.R_base ho0) hb); replace HO_892001 := Aside0.mk (Kd.R_elder' (kdQ HO_892001) (Kd.R_base ho0) hb); replace HO_897001 := Aside0.mk (Kd.R_elder' (kdQ HO_897001) (Kd.R_base ho0) hb); replace HO_903001 := Aside0.mk (Kd.R_elder' (kdQ HO_903001) (Kd.R_base ho0) hb); replace HO925 := Aside0.mk (Kd.R_elder' (kdQ HO925) (Kd.R_base ho0) hb); replace BK869 := bb BK869 hb; replace BK870 := bb BK870 hb; replace BK886 := bb BK886 hb; replace BK891 := bb BK891 hb; replace BK896 := bb BK896 hb; replace BK902 := bb BK902 hb; replace HB := Aside0.mk (below_step (beQ HB) hb)
                (try clear hb)
                (try clear hb2)
                (try clear hk)
                (try clear hi)
                (try clear ho0)
                obtain ⟨Ao187, co187, eo187⟩ := Kd.R_slice HO925.out
                (first | subst eo187 | (injection eo187 with f1_ f2_ f3_; have f4_ := f1_.symm; have f5_ := f3_.symm; clear f1_ f2_ f3_; subst f4_; subst f5_))
                obtain ⟨Ao188, co188, eo188⟩ := Kd.R_slice HO929.out
                (first | subst eo188 | (injection eo188 with f1_ f2_ f3_; have f4_ := f1_.symm; have f5_ := f3_.symm; clear f1_ f2_ f3_; subst f4_; subst f5_))
                refine hK.out _ _ ⟨bc BK869 0, bc BK869 1, bc BK870 0, bc BK870 1⟩ (fun hHeld => ?_)
                clear hK K
                refine norm_ (a' := ?_) ?_ ?_
                rotate_left
                ·show Act.put _ (some 98) _ = _
                 simp only [Act.put, s1, s2, s3, i64_w, i32_w]
                 rfl
                refine two_ (i := 4) (j := 8) (Ni := some 99) (Nj := some 15) #[true, true, true, true, true, false, false, false, false, false, false] #[true, true, true, true, false, false, false, false, true, false, false] rfl rfl rfl rfl (two_of HT_.out (by kernel_rfl)) (by decide) (by decide) (fun K hK => ?_) (fun K hK => ?_)
                ·skip
                 refine goes_ Tryd.func46 (by kernel_rfl) rfl #[.agg #[.int .i64 t922, .slice Ao187 t923.length co187], .agg #[.int .i64 t926, .slice Ao188 t927.length co188]] (by rfl) rfl rfl lz ?_
                 with_reducible refine (impl_FreeProduct.calls kj107 t922 _ _ t923 t926 _ _ t927 t930 t931 t934 _ ?side1 ?side2 ?side3 ?side4 ?side5 A173.out).mono ?_
                 (case side1 => have q_ := Aside0.mk (Kd.R_reads' HO925.out).2.2; exact cQ q_)
                 (case side2 => exact (Kd.R_reads' HO925.out).2.1)
                 (case side3 => have q_ := Aside0.mk (Kd.R_reads' HO929.out).2.2; exact cQ q_)
                 (case side4 => exact (Kd.R_reads' HO929.out).2.1)
                 (case side5 => exact TabW.below HT.out (beQ HB))
                 rintro e w189 ⟨v932, rfl, ho0, hb⟩
                 refine ⟨_, rfl, ?_⟩
                 have HO933 := Aside0.mk (Kd.R_lower (Kd.R_new' (Kd.R_new' (Kd.R_new' (Kd.R_new' (Kd.R_new' (Kd.R_new' ho0 (Kd.R_lt (kdQ HO_887001))) (Kd.R_lt (kdQ HO_892001))) (Kd.R_lt (kdQ HO_897001))) (Kd.R_lt (kdQ HO_903001))) (Kd.R_lt (kdQ HO925))) (Kd.R_lt (kdQ HO929))) (below_size (beQ HB))); replace HO_887001 := Aside0.mk (Kd.R_elder' (kdQ HO_887001) (Kd.R_base ho0) hb); replace HO_892001 := Aside0.mk (Kd.R_elder' (kdQ HO_892001) (Kd.R_base ho0) hb); replace HO_897001 := Aside0.mk (Kd.R_elder' (kdQ HO_897001) (Kd.R_base ho0) hb); replace HO_903001 := Aside0.mk (Kd.R_elder' (kdQ HO_903001) (Kd.R_base ho0) hb); replace HO925 := Aside0.mk (Kd.R_elder' (kdQ HO925) (Kd.R_base ho0) hb); replace HO929 := Aside0.mk (Kd.R_elder' (kdQ HO929) (Kd.R_base ho0) hb); replace BK869 := bb BK869 hb; replace BK870 := bb BK870 hb; replace BK886 := bb BK886 hb; replace BK891 := bb BK891 hb; replace BK896 := bb BK896 hb; replace BK902 := bb BK902 hb; replace HB := Aside0.mk (below_step (beQ HB) hb)
                 (try clear hb)
                 (try clear hb2)
                 (try clear hk)
                 (try clear hi)
                 (try clear ho0)
                 refine hK.out _ _ ⟨bc BK869 0, bc BK869 1, bc BK870 0, bc BK870 1⟩ (fun hHeld => ?_)
                 clear hK K
                 refine norm_ (a' := ?_) ?_ ?_
                 rotate_left
                 ·show Act.put _ (some 99) _ = _
                  simp only [Act.put, s1, s2, s3, i64_w, i32_w]
                  rfl
                 refine pure_ (i := 5) (N := some 94) (v := ?_) (a' := ?_) #[true, true, true, true, true, true, false, false, false, false, false] rfl rfl (any_of HT_.out (by kernel_rfl)) (fun _ _ _ h => h) (Or.inl ⟨by rfl, ?_⟩) ?_ ?_
                 rotate_left
                 ·intro w'
                  go_simp
                  with_reducible rfl
                 rotate_left
                 ·simp only [Act.put, s1, s2, s3, i64_w, i32_w]
                  rfl
                 refine pure_ (i := 6) (N := some 100) (v := ?_) (a' := ?_) #[true, true, true, true, true, true, true, false, false, false, false] rfl rfl (any_of HT_.out (by kernel_rfl)) (fun _ _ _ h => h) (Or.inl ⟨by rfl, ?_⟩) ?_ ?_
                 rotate_left
                 ·intro w'
                  go_simp
                  with_reducible rfl
                 rotate_left
                 ·simp only [Act.put, s1, s2, s3, i64_w, i32_w]
                  rfl
                 refine pure_ (i := 7) (N := some 101) (v := ?_) (a' := ?_) #[true, true, true, true, true, true, true, true, false, false, false] rfl rfl (any_of HT_.out (by kernel_rfl)) (fun _ _ _ h => h) (Or.inl ⟨by rfl, ?_⟩) ?_ ?_
                 rotate_left
                 ·intro w'
                  go_simp
                  with_reducible rfl
                 rotate_left
                 ·simp only [Act.put, s1, s2, s3, i64_w, i32_w]
                  rfl
                 refine one_ (i := 8) (N := some 15) #[true, true, true, true, true, true, true, true, true, false, false] rfl rfl (one_of HT_.out (by kernel_rfl)) (by decide) (fun K hK => ?_)
                 refine box_step ?hg (N := 15) ?hd (cs := #[.int .i64 0, .slice none 0 0]) (t := 38) ?hr ?_; (case hd => rfl); (case hg => rfl); (case hr => first | (go_simp; done) | (go_simp; rfl))
                 intro gb935 hg w190 hbox hb
                 replace HO_887001 := kb HO_887001 hb; replace HO_892001 := kb HO_892001 hb; replace HO_897001 := kb HO_897001 hb; replace HO_903001 := kb HO_903001 hb; replace HO925 := kb HO925 hb; replace HO929 := kb HO929 hb; replace HO933 := kb HO933 hb; have BK935 := Aside0.mk (hbox)
                 have GW935 := Aside0.mk ((by rw [hg]; exact (below_size (beQ HB)) : w.heap.size ≤ gb935))
                 have GE935 := Aside0.mk ((by rw [hg]; exact (below_size (beQ HB)) : w.heap.size ≤ gb935))
                 replace HB := Aside0.mk (below_step (beQ HB) hb)
                 have NB869_935 := Aside0.mk ((by rw [hg]; exact Nat.ne_of_lt (blk_lt (blkQ BK869)) : gb869 ≠ gb935))
                 have NB935_869 := Aside0.mk ((by rw [hg]; exact Nat.ne_of_gt (blk_lt (blkQ BK869)) : gb935 ≠ gb869))
                 replace BK869 := bb BK869 hb
                 have NB870_935 := Aside0.mk ((by rw [hg]; exact Nat.ne_of_lt (blk_lt (blkQ BK870)) : gb870 ≠ gb935))
                 have NB935_870 := Aside0.mk ((by rw [hg]; exact Nat.ne_of_gt (blk_lt (blkQ BK870)) : gb935 ≠ gb870))
                 replace BK870 := bb BK870 hb
                 have NB886_935 := Aside0.mk ((by rw [hg]; exact Nat.ne_of_lt (blk_lt (blkQ BK886)) : gb886 ≠ gb935))
                 have NB935_886 := Aside0.mk ((by rw [hg]; exact Nat.ne_of_gt (blk_lt (blkQ BK886)) : gb935 ≠ gb886))
                 replace BK886 := bb BK886 hb
                 have NB891_935 := Aside0.mk ((by rw [hg]; exact Nat.ne_of_lt (blk_lt (blkQ BK891)) : gb891 ≠ gb935))
                 have NB935_891 := Aside0.mk ((by rw [hg]; exact Nat.ne_of_gt (blk_lt (blkQ BK891)) : gb935 ≠ gb891))
                 replace BK891 := bb BK891 hb
                 have NB896_935 := Aside0.mk ((by rw [hg]; exact Nat.ne_of_lt (blk_lt (blkQ BK896)) : gb896 ≠ gb935))
                 have NB935_896 := Aside0.mk ((by rw [hg]; exact Nat.ne_of_gt (blk_lt (blkQ BK896)) : gb935 ≠ gb896))
                 replace BK896 := bb BK896 hb
                 have NB902_935 := Aside0.mk ((by rw [hg]; exact Nat.ne_of_lt (blk_lt (blkQ BK902)) : gb902 ≠ gb935))
                 have NB935_902 := Aside0.mk ((by rw [hg]; exact Nat.ne_of_gt (blk_lt (blkQ BK902)) : gb935 ≠ gb902))
                 replace BK902 := bb BK902 hb; clear hb hbox hg
                 refine hK.out _ _ ⟨bc BK869 0, bc BK869 1, bc BK870 0, bc BK870 1⟩ (fun hHeld => ?_)
                 clear hK K
                 refine norm_ (a' := ?_) ?_ ?_
                 rotate_left
                 ·show Act.put _ (some 15) _ = _
                  simp only [Act.put, s1, s2, s3, i64_w, i32_w]
                  rfl
                 exact norm_ (by simp only [putAll, Act.put, List.setIfInBounds_toArray, List.set_cons_zero, List.set_cons_succ]) (hCont (.slice Ao187 t923.length co187, .slice Ao188 t927.length co188, v932, gb935) _ ⟨hHeld, (by (with_reducible repeat (first | apply Kd.R_alloc | apply Kd.R_drewN | apply Kd.R_drew)); exact Kd.R_mono HO925.out (fun _ hk => ⟨hk.1.2, ⟨hk.2, ⟨hk.1.1.1.1.1.2, ⟨hk.1.1.1.1.2, ⟨hk.1.1.1.2, hk.1.1.2⟩⟩⟩⟩⟩)), (by (with_reducible repeat (first | apply Kd.R_alloc | apply Kd.R_drewN | apply Kd.R_drew)); exact Kd.R_mono HO929.out (fun _ hk => ⟨hk.1.2, ⟨hk.2, ⟨hk.1.1.1.1.1.2, ⟨hk.1.1.1.1.2, ⟨hk.1.1.1.2, hk.1.1.2⟩⟩⟩⟩⟩)), (by (with_reducible repeat (first | apply Kd.R_alloc | apply Kd.R_drewN | apply Kd.R_drew)); exact Kd.R_mono HO933.out (fun _ hk => ⟨hk.1.2, ⟨hk.2, ⟨hk.1.1.1.1.1.2, ⟨hk.1.1.1.1.2, ⟨hk.1.1.1.2, hk.1.1.2⟩⟩⟩⟩⟩)), (by (with_reducible repeat (first | apply Kd.R_alloc | apply Kd.R_drewN | apply Kd.R_drew)); exact Kd.R_mono HO_887001.out (fun _ hk => ⟨hk.1.1.2, ⟨hk.1.2, ⟨hk.2, ⟨hk.1.1.1.1, ⟨hk.1.1.1.2.1, hk.1.1.1.2.2⟩⟩⟩⟩⟩)), (by (with_reducible repeat (first | apply Kd.R_alloc | apply Kd.R_drewN | apply Kd.R_drew)); exact Kd.R_mono HO_892001.out (fun _ hk => ⟨hk.1.1.2, ⟨hk.1.2, ⟨hk.2, ⟨hk.1.1.1.1, ⟨hk.1.1.1.2.1, hk.1.1.1.2.2⟩⟩⟩⟩⟩)), (by (with_reducible repeat (first | apply Kd.R_alloc | apply Kd.R_drewN | apply Kd.R_drew)); exact Kd.R_mono HO_897001.out (fun _ hk => ⟨hk.1.1.2, ⟨hk.1.2, ⟨hk.2, ⟨hk.1.1.1.1, ⟨hk.1.1.1.2.1, hk.1.1.1.2.2⟩⟩⟩⟩⟩)), (by (with_reducible repeat (first | apply Kd.R_alloc | apply Kd.R_drewN | apply Kd.R_drew)); exact Kd.R_mono HO_903001.out (fun _ hk => ⟨hk.1.1.2, ⟨hk.1.2, ⟨hk.2, ⟨hk.1.1.1.1, ⟨hk.1.1.1.2.1, hk.1.1.1.2.2⟩⟩⟩⟩⟩)), (blkQ BK869), (blkQ BK870), (blkQ BK886), (blkQ BK891), (blkQ BK896), (blkQ BK902), (blkQ BK935), GW935.out, GE935.out, NB869_935.out, NB935_869.out, NB870_935.out, NB935_870.out, NB886_935.out, NB935_886.out, NB891_935.out, NB935_891.out, NB896_935.out, NB935_896.out, NB902_935.out, NB935_902.out, (beQ HB)⟩)
                ·skip
                 refine box_step ?hg (N := 15) ?hd (cs := #[.int .i64 0, .slice none 0 0]) (t := 38) ?hr ?_; (case hd => rfl); (case hg => rfl); (case hr => first | (go_simp; done) | (go_simp; rfl))
                 intro gb935 hg w187 hbox hb
                 replace HO_887001 := kb HO_887001 hb; replace HO_892001 := kb HO_892001 hb; replace HO_897001 := kb HO_897001 hb; replace HO_903001 := kb HO_903001 hb; replace HO925 := kb HO925 hb; replace HO929 := kb HO929 hb; have BK935 := Aside0.mk (hbox)
                 have GW935 := Aside0.mk ((by rw [hg]; exact (below_size (beQ HB)) : w.heap.size ≤ gb935))
                 have GE935 := Aside0.mk ((by rw [hg]; exact (below_size (beQ HB)) : w.heap.size ≤ gb935))
                 replace HB := Aside0.mk (below_step (beQ HB) hb)
                 have NB869_935 := Aside0.mk ((by rw [hg]; exact Nat.ne_of_lt (blk_lt (blkQ BK869)) : gb869 ≠ gb935))
                 have NB935_869 := Aside0.mk ((by rw [hg]; exact Nat.ne_of_gt (blk_lt (blkQ BK869)) : gb935 ≠ gb869))
                 replace BK869 := bb BK869 hb
                 have NB870_935 := Aside0.mk ((by rw [hg]; exact Nat.ne_of_lt (blk_lt (blkQ BK870)) : gb870 ≠ gb935))
                 have NB935_870 := Aside0.mk ((by rw [hg]; exact Nat.ne_of_gt (blk_lt (blkQ BK870)) : gb935 ≠ gb870))
                 replace BK870 := bb BK870 hb
                 have NB886_935 := Aside0.mk ((by rw [hg]; exact Nat.ne_of_lt (blk_lt (blkQ BK886)) : gb886 ≠ gb935))
                 have NB935_886 := Aside0.mk ((by rw [hg]; exact Nat.ne_of_gt (blk_lt (blkQ BK886)) : gb935 ≠ gb886))
                 replace BK886 := bb BK886 hb
                 have NB891_935 := Aside0.mk ((by rw [hg]; exact Nat.ne_of_lt (blk_lt (blkQ BK891)) : gb891 ≠ gb935))
                 have NB935_891 := Aside0.mk ((by rw [hg]; exact Nat.ne_of_gt (blk_lt (blkQ BK891)) : gb935 ≠ gb891))
                 replace BK891 := bb BK891 hb
                 have NB896_935 := Aside0.mk ((by rw [hg]; exact Nat.ne_of_lt (blk_lt (blkQ BK896)) : gb896 ≠ gb935))
                 have NB935_896 := Aside0.mk ((by rw [hg]; exact Nat.ne_of_gt (blk_lt (blkQ BK896)) : gb935 ≠ gb896))
                 replace BK896 := bb BK896 hb
                 have NB902_935 := Aside0.mk ((by rw [hg]; exact Nat.ne_of_lt (blk_lt (blkQ BK902)) : gb902 ≠ gb935))
                 have NB935_902 := Aside0.mk ((by rw [hg]; exact Nat.ne_of_gt (blk_lt (blkQ BK902)) : gb935 ≠ gb902))
                 replace BK902 := bb BK902 hb; clear hb hbox hg; obtain ⟨Ao188, co188, eo188⟩ := Kd.R_slice HO925.out
                 (first | subst eo188 | (injection eo188 with f1_ f2_ f3_; have f4_ := f1_.symm; have f5_ := f3_.symm; clear f1_ f2_ f3_; subst f4_; subst f5_))
                 obtain ⟨Ao189, co189, eo189⟩ := Kd.R_slice HO929.out
                 (first | subst eo189 | (injection eo189 with f1_ f2_ f3_; have f4_ := f1_.symm; have f5_ := f3_.symm; clear f1_ f2_ f3_; subst f4_; subst f5_))
                 refine hK.out _ _ ⟨bc BK869 0, bc BK869 1, bc BK870 0, bc BK870 1⟩ (fun hHeld => ?_)
                 clear hK K
                 refine norm_ (a' := ?_) ?_ ?_
                 rotate_left
                 ·show Act.put _ (some 15) _ = _
                  simp only [Act.put, s1, s2, s3, i64_w, i32_w]
                  rfl
                 refine one_ (i := 4) (N := some 99) #[true, true, true, true, true, false, false, false, true, false, false] rfl rfl (one_of HT_.out (by kernel_rfl)) (by decide) (fun K hK => ?_)
                 refine goes_ Tryd.func46 (by kernel_rfl) rfl #[.agg #[.int .i64 t922, .slice Ao188 t923.length co188], .agg #[.int .i64 t926, .slice Ao189 t927.length co189]] (by rfl) rfl rfl lz ?_
                 with_reducible refine (impl_FreeProduct.calls kj107 t922 _ _ t923 t926 _ _ t927 t930 t931 t934 _ ?side1 ?side2 ?side3 ?side4 ?side5 A173.out).mono ?_
                 (case side1 => have q_ := Aside0.mk (Kd.R_reads' HO925.out).2.2; exact cQ q_)
                 (case side2 => exact (Kd.R_reads' HO925.out).2.1)
                 (case side3 => have q_ := Aside0.mk (Kd.R_reads' HO929.out).2.2; exact cQ q_)
                 (case side4 => exact (Kd.R_reads' HO929.out).2.1)
                 (case side5 => exact TabW.below HT.out (beQ HB))
                 rintro e w190 ⟨v932, rfl, ho0, hb⟩
                 refine ⟨_, rfl, ?_⟩
                 have HO933 := Aside0.mk (Kd.R_lower (Kd.R_new' (Kd.R_new' (Kd.R_new' (Kd.R_new' (Kd.R_new' (Kd.R_new' ho0 (Kd.R_lt (kdQ HO_887001))) (Kd.R_lt (kdQ HO_892001))) (Kd.R_lt (kdQ HO_897001))) (Kd.R_lt (kdQ HO_903001))) (Kd.R_lt (kdQ HO925))) (Kd.R_lt (kdQ HO929))) (below_size (beQ HB))); replace HO_887001 := Aside0.mk (Kd.R_elder' (kdQ HO_887001) (Kd.R_base ho0) hb); replace HO_892001 := Aside0.mk (Kd.R_elder' (kdQ HO_892001) (Kd.R_base ho0) hb); replace HO_897001 := Aside0.mk (Kd.R_elder' (kdQ HO_897001) (Kd.R_base ho0) hb); replace HO_903001 := Aside0.mk (Kd.R_elder' (kdQ HO_903001) (Kd.R_base ho0) hb); replace HO925 := Aside0.mk (Kd.R_elder' (kdQ HO925) (Kd.R_base ho0) hb); replace HO929 := Aside0.mk (Kd.R_elder' (kdQ HO929) (Kd.R_base ho0) hb); replace BK869 := bb BK869 hb; replace BK870 := bb BK870 hb; replace BK886 := bb BK886 hb; replace BK891 := bb BK891 hb; replace BK896 := bb BK896 hb; replace BK902 := bb BK902 hb; replace BK935 := bb BK935 hb; replace HB := Aside0.mk (below_step (beQ HB) hb)
                 (try clear hb)
                 (try clear hb2)
                 (try clear hk)
                 (try clear hi)
                 (try clear ho0)
                 refine hK.out _ _ ⟨bc BK869 0, bc BK869 1, bc BK870 0, bc BK870 1⟩ (fun hHeld => ?_)
                 clear hK K
                 refine norm_ (a' := ?_) ?_ ?_
                 rotate_left
                 ·show Act.put _ (some 99) _ = _
                  simp only [Act.put, s1, s2, s3, i64_w, i32_w]
                  rfl
                 refine pure_ (i := 5) (N := some 94) (v := ?_) (a' := ?_) #[true, true, true, true, true, true, false, false, true, false, false] rfl rfl (any_of HT_.out (by kernel_rfl)) (fun _ _ _ h => h) (Or.inl ⟨by rfl, ?_⟩) ?_ ?_
                 rotate_left
                 ·intro w'
                  go_simp
                  with_reducible rfl
                 rotate_left
                 ·simp only [Act.put, s1, s2, s3, i64_w, i32_w]
                  rfl
                 refine pure_ (i := 6) (N := some 100) (v := ?_) (a' := ?_) #[true, true, true, true, true, true, true, false, true, false, false] rfl rfl (any_of HT_.out (by kernel_rfl)) (fun _ _ _ h => h) (Or.inl ⟨by rfl, ?_⟩) ?_ ?_
                 rotate_left
                 ·intro w'
                  go_simp
                  with_reducible rfl
                 rotate_left
                 ·simp only [Act.put, s1, s2, s3, i64_w, i32_w]
                  rfl
                 refine pure_ (i := 7) (N := some 101) (v := ?_) (a' := ?_) #[true, true, true, true, true, true, true, true, true, false, false] rfl rfl (any_of HT_.out (by kernel_rfl)) (fun _ _ _ h => h) (Or.inl ⟨by rfl, ?_⟩) ?_ ?_
                 rotate_left
                 ·intro w'
                  go_simp
                  with_reducible rfl
                 rotate_left
                 ·simp only [Act.put, s1, s2, s3, i64_w, i32_w]
                  rfl
                 exact norm_ (by simp only [putAll, Act.put, List.setIfInBounds_toArray, List.set_cons_zero, List.set_cons_succ]) (hCont (.slice Ao188 t923.length co188, .slice Ao189 t927.length co189, v932, gb935) _ ⟨hHeld, (by (with_reducible repeat (first | apply Kd.R_alloc | apply Kd.R_drewN | apply Kd.R_drew)); exact Kd.R_mono HO925.out (fun _ hk => ⟨hk.1.2, ⟨hk.2, ⟨hk.1.1.1.1.1.2, ⟨hk.1.1.1.1.2, ⟨hk.1.1.1.2, hk.1.1.2⟩⟩⟩⟩⟩)), (by (with_reducible repeat (first | apply Kd.R_alloc | apply Kd.R_drewN | apply Kd.R_drew)); exact Kd.R_mono HO929.out (fun _ hk => ⟨hk.1.2, ⟨hk.2, ⟨hk.1.1.1.1.1.2, ⟨hk.1.1.1.1.2, ⟨hk.1.1.1.2, hk.1.1.2⟩⟩⟩⟩⟩)), (by (with_reducible repeat (first | apply Kd.R_alloc | apply Kd.R_drewN | apply Kd.R_drew)); exact Kd.R_mono HO933.out (fun _ hk => ⟨hk.1.2, ⟨hk.2, ⟨hk.1.1.1.1.1.2, ⟨hk.1.1.1.1.2, ⟨hk.1.1.1.2, hk.1.1.2⟩⟩⟩⟩⟩)), (by (with_reducible repeat (first | apply Kd.R_alloc | apply Kd.R_drewN | apply Kd.R_drew)); exact Kd.R_mono HO_887001.out (fun _ hk => ⟨hk.1.1.2, ⟨hk.1.2, ⟨hk.2, ⟨hk.1.1.1.1, ⟨hk.1.1.1.2.1, hk.1.1.1.2.2⟩⟩⟩⟩⟩)), (by (with_reducible repeat (first | apply Kd.R_alloc | apply Kd.R_drewN | apply Kd.R_drew)); exact Kd.R_mono HO_892001.out (fun _ hk => ⟨hk.1.1.2, ⟨hk.1.2, ⟨hk.2, ⟨hk.1.1.1.1, ⟨hk.1.1.1.2.1, hk.1.1.1.2.2⟩⟩⟩⟩⟩)), (by (with_reducible repeat (first | apply Kd.R_alloc | apply Kd.R_drewN | apply Kd.R_drew)); exact Kd.R_mono HO_897001.out (fun _ hk => ⟨hk.1.1.2, ⟨hk.1.2, ⟨hk.2, ⟨hk.1.1.1.1, ⟨hk.1.1.1.2.1, hk.1.1.1.2.2⟩⟩⟩⟩⟩)), (by (with_reducible repeat (first | apply Kd.R_alloc | apply Kd.R_drewN | apply Kd.R_drew)); exact Kd.R_mono HO_903001.out (fun _ hk => ⟨hk.1.1.2, ⟨hk.1.2, ⟨hk.2, ⟨hk.1.1.1.1, ⟨hk.1.1.1.2.1, hk.1.1.1.2.2⟩⟩⟩⟩⟩)), (blkQ BK869), (blkQ BK870), (blkQ BK886), (blkQ BK891), (blkQ BK896), (blkQ BK902), (blkQ BK935), GW935.out, GE935.out, NB869_935.out, NB935_869.out, NB870_935.out, NB935_870.out, NB886_935.out, NB935_886.out, NB891_935.out, NB935_891.out, NB896_935.out, NB935_896.out, NB902_935.out, NB935_902.out, (beQ HB)⟩)
               ·skip
                refine box_step ?hg (N := 15) ?hd (cs := #[.int .i64 0, .slice none 0 0]) (t := 38) ?hr ?_; (case hd => rfl); (case hg => rfl); (case hr => first | (go_simp; done) | (go_simp; rfl))
                intro gb935 hg w186 hbox hb
                replace HO_887001 := kb HO_887001 hb; replace HO_892001 := kb HO_892001 hb; replace HO_897001 := kb HO_897001 hb; replace HO_903001 := kb HO_903001 hb; replace HO925 := kb HO925 hb; have BK935 := Aside0.mk (hbox)
                have GW935 := Aside0.mk ((by rw [hg]; exact (below_size (beQ HB)) : w.heap.size ≤ gb935))
                have GE935 := Aside0.mk ((by rw [hg]; exact (below_size (beQ HB)) : w.heap.size ≤ gb935))
                replace HB := Aside0.mk (below_step (beQ HB) hb)
                have NB869_935 := Aside0.mk ((by rw [hg]; exact Nat.ne_of_lt (blk_lt (blkQ BK869)) : gb869 ≠ gb935))
                have NB935_869 := Aside0.mk ((by rw [hg]; exact Nat.ne_of_gt (blk_lt (blkQ BK869)) : gb935 ≠ gb869))
                replace BK869 := bb BK869 hb
                have NB870_935 := Aside0.mk ((by rw [hg]; exact Nat.ne_of_lt (blk_lt (blkQ BK870)) : gb870 ≠ gb935))
                have NB935_870 := Aside0.mk ((by rw [hg]; exact Nat.ne_of_gt (blk_lt (blkQ BK870)) : gb935 ≠ gb870))
                replace BK870 := bb BK870 hb
                have NB886_935 := Aside0.mk ((by rw [hg]; exact Nat.ne_of_lt (blk_lt (blkQ BK886)) : gb886 ≠ gb935))
                have NB935_886 := Aside0.mk ((by rw [hg]; exact Nat.ne_of_gt (blk_lt (blkQ BK886)) : gb935 ≠ gb886))
                replace BK886 := bb BK886 hb
                have NB891_935 := Aside0.mk ((by rw [hg]; exact Nat.ne_of_lt (blk_lt (blkQ BK891)) : gb891 ≠ gb935))
                have NB935_891 := Aside0.mk ((by rw [hg]; exact Nat.ne_of_gt (blk_lt (blkQ BK891)) : gb935 ≠ gb891))
                replace BK891 := bb BK891 hb
                have NB896_935 := Aside0.mk ((by rw [hg]; exact Nat.ne_of_lt (blk_lt (blkQ BK896)) : gb896 ≠ gb935))
                have NB935_896 := Aside0.mk ((by rw [hg]; exact Nat.ne_of_gt (blk_lt (blkQ BK896)) : gb935 ≠ gb896))
                replace BK896 := bb BK896 hb
                have NB902_935 := Aside0.mk ((by rw [hg]; exact Nat.ne_of_lt (blk_lt (blkQ BK902)) : gb902 ≠ gb935))
                have NB935_902 := Aside0.mk ((by rw [hg]; exact Nat.ne_of_gt (blk_lt (blkQ BK902)) : gb935 ≠ gb902))
                replace BK902 := bb BK902 hb; clear hb hbox hg
                refine hK.out _ _ ⟨bc BK869 0, bc BK869 1, bc BK870 0, bc BK870 1⟩ (fun hHeld => ?_)
                clear hK K
                refine norm_ (a' := ?_) ?_ ?_
                rotate_left
                ·show Act.put _ (some 15) _ = _
                 simp only [Act.put, s1, s2, s3, i64_w, i32_w]
                 rfl
                refine one_ (i := 3) (N := some 98) #[true, true, true, true, false, false, false, false, true, false, false] rfl rfl (one_of HT_.out (by kernel_rfl)) (by decide) (fun K hK => ?_)
                refine goes_ Tryd.func37 (by kernel_rfl) rfl #[.agg #[.int .i64 a1_0, .slice A1_1 l1_1.length c1_1]] (by rfl) rfl rfl lz ?_
                with_reducible refine (laws_toAlphabet.calls kj107 a1_0 _ _ l1_1 t926 t927 _ ?side1 ?side2 A172.out).mono ?_
                (case side1 => have q_ := Aside0.mk (Kd.C_below HR1_1.out HB.out); exact cQ q_)
                (case side2 => exact HC1_1.out)
                rintro e w187 ⟨v928, rfl, ho0, hb⟩
                refine ⟨_, rfl, ?_⟩
                have HO929 := Aside0.mk (Kd.R_lower (Kd.R_new' (Kd.R_new' (Kd.R_new' (Kd.R_new' (Kd.R_new' ho0 (Kd.R_lt (kdQ HO_887001))) (Kd.R_lt (kdQ HO_892001))) (Kd.R_lt (kdQ HO_897001))) (Kd.R_lt (kdQ HO_903001))) (Kd.R_lt (kdQ HO925))) (below_size (beQ HB))); replace HO_887001 := Aside0.mk (Kd.R_elder' (kdQ HO_887001) (Kd.R_base ho0) hb); replace HO_892001 := Aside0.mk (Kd.R_elder' (kdQ HO_892001) (Kd.R_base ho0) hb); replace HO_897001 := Aside0.mk (Kd.R_elder' (kdQ HO_897001) (Kd.R_base ho0) hb); replace HO_903001 := Aside0.mk (Kd.R_elder' (kdQ HO_903001) (Kd.R_base ho0) hb); replace HO925 := Aside0.mk (Kd.R_elder' (kdQ HO925) (Kd.R_base ho0) hb); replace BK869 := bb BK869 hb; replace BK870 := bb BK870 hb; replace BK886 := bb BK886 hb; replace BK891 := bb BK891 hb; replace BK896 := bb BK896 hb; replace BK902 := bb BK902 hb; replace BK935 := bb BK935 hb; replace HB := Aside0.mk (below_step (beQ HB) hb)
                (try clear hb)
                (try clear hb2)
                (try clear hk)
                (try clear hi)
                (try clear ho0)
                obtain ⟨Ao188, co188, eo188⟩ := Kd.R_slice HO925.out
                (first | subst eo188 | (injection eo188 with f1_ f2_ f3_; have f4_ := f1_.symm; have f5_ := f3_.symm; clear f1_ f2_ f3_; subst f4_; subst f5_))
                obtain ⟨Ao189, co189, eo189⟩ := Kd.R_slice HO929.out
                (first | subst eo189 | (injection eo189 with f1_ f2_ f3_; have f4_ := f1_.symm; have f5_ := f3_.symm; clear f1_ f2_ f3_; subst f4_; subst f5_))
                refine hK.out _ _ ⟨bc BK869 0, bc BK869 1, bc BK870 0, bc BK870 1⟩ (fun hHeld => ?_)
                clear hK K
                refine norm_ (a' := ?_) ?_ ?_
                rotate_left
                ·show Act.put _ (some 98) _ = _
                 simp only [Act.put, s1, s2, s3, i64_w, i32_w]
                 rfl
                refine one_ (i := 4) (N := some 99) #[true, true, true, true, true, false, false, false, true, false, false] rfl rfl (one_of HT_.out (by kernel_rfl)) (by decide) (fun K hK => ?_)
                refine goes_ Tryd.func46 (by kernel_rfl) rfl #[.agg #[.int .i64 t922, .slice Ao188 t923.length co188], .agg #[.int .i64 t926, .slice Ao189 t927.length co189]] (by rfl) rfl rfl lz ?_
                with_reducible refine (impl_FreeProduct.calls kj107 t922 _ _ t923 t926 _ _ t927 t930 t931 t934 _ ?side1 ?side2 ?side3 ?side4 ?side5 A173.out).mono ?_
                (case side1 => have q_ := Aside0.mk (Kd.R_reads' HO925.out).2.2; exact cQ q_)
                (case side2 => exact (Kd.R_reads' HO925.out).2.1)
                (case side3 => have q_ := Aside0.mk (Kd.R_reads' HO929.out).2.2; exact cQ q_)
                (case side4 => exact (Kd.R_reads' HO929.out).2.1)
                (case side5 => exact TabW.below HT.out (beQ HB))
                rintro e w190 ⟨v932, rfl, ho0, hb⟩
                refine ⟨_, rfl, ?_⟩
                have HO933 := Aside0.mk (Kd.R_lower (Kd.R_new' (Kd.R_new' (Kd.R_new' (Kd.R_new' (Kd.R_new' (Kd.R_new' ho0 (Kd.R_lt (kdQ HO_887001))) (Kd.R_lt (kdQ HO_892001))) (Kd.R_lt (kdQ HO_897001))) (Kd.R_lt (kdQ HO_903001))) (Kd.R_lt (kdQ HO925))) (Kd.R_lt (kdQ HO929))) (below_size (beQ HB))); replace HO_887001 := Aside0.mk (Kd.R_elder' (kdQ HO_887001) (Kd.R_base ho0) hb); replace HO_892001 := Aside0.mk (Kd.R_elder' (kdQ HO_892001) (Kd.R_base ho0) hb); replace HO_897001 := Aside0.mk (Kd.R_elder' (kdQ HO_897001) (Kd.R_base ho0) hb); replace HO_903001 := Aside0.mk (Kd.R_elder' (kdQ HO_903001) (Kd.R_base ho0) hb); replace HO925 := Aside0.mk (Kd.R_elder' (kdQ HO925) (Kd.R_base ho0) hb); replace HO929 := Aside0.mk (Kd.R_elder' (kdQ HO929) (Kd.R_base ho0) hb); replace BK869 := bb BK869 hb; replace BK870 := bb BK870 hb; replace BK886 := bb BK886 hb; replace BK891 := bb BK891 hb; replace BK896 := bb BK896 hb; replace BK902 := bb BK902 hb; replace BK935 := bb BK935 hb; replace HB := Aside0.mk (below_step (beQ HB) hb)
                (try clear hb)
                (try clear hb2)
                (try clear hk)
                (try clear hi)
                (try clear ho0)
                refine hK.out _ _ ⟨bc BK869 0, bc BK869 1, bc BK870 0, bc BK870 1⟩ (fun hHeld => ?_)
                clear hK K
                refine norm_ (a' := ?_) ?_ ?_
                rotate_left
                ·show Act.put _ (some 99) _ = _
                 simp only [Act.put, s1, s2, s3, i64_w, i32_w]
                 rfl
                refine pure_ (i := 5) (N := some 94) (v := ?_) (a' := ?_) #[true, true, true, true, true, true, false, false, true, false, false] rfl rfl (any_of HT_.out (by kernel_rfl)) (fun _ _ _ h => h) (Or.inl ⟨by rfl, ?_⟩) ?_ ?_
                rotate_left
                ·intro w'
                 go_simp
                 with_reducible rfl
                rotate_left
                ·simp only [Act.put, s1, s2, s3, i64_w, i32_w]
                 rfl
                refine pure_ (i := 6) (N := some 100) (v := ?_) (a' := ?_) #[true, true, true, true, true, true, true, false, true, false, false] rfl rfl (any_of HT_.out (by kernel_rfl)) (fun _ _ _ h => h) (Or.inl ⟨by rfl, ?_⟩) ?_ ?_
                rotate_left
                ·intro w'
                 go_simp
                 with_reducible rfl
                rotate_left
                ·simp only [Act.put, s1, s2, s3, i64_w, i32_w]
                 rfl
                refine pure_ (i := 7) (N := some 101) (v := ?_) (a' := ?_) #[true, true, true, true, true, true, true, true, true, false, false] rfl rfl (any_of HT_.out (by kernel_rfl)) (fun _ _ _ h => h) (Or.inl ⟨by rfl, ?_⟩) ?_ ?_
                rotate_left
                ·intro w'
                 go_simp
                 with_reducible rfl
                rotate_left
                ·simp only [Act.put, s1, s2, s3, i64_w, i32_w]
                 rfl
                exact norm_ (by simp only [putAll, Act.put, List.setIfInBounds_toArray, List.set_cons_zero, List.set_cons_succ]) (hCont (.slice Ao188 t923.length co188, .slice Ao189 t927.length co189, v932, gb935) _ ⟨hHeld, (by (with_reducible repeat (first | apply Kd.R_alloc | apply Kd.R_drewN | apply Kd.R_drew)); exact Kd.R_mono HO925.out (fun _ hk => ⟨hk.1.2, ⟨hk.2, ⟨hk.1.1.1.1.1.2, ⟨hk.1.1.1.1.2, ⟨hk.1.1.1.2, hk.1.1.2⟩⟩⟩⟩⟩)), (by (with_reducible repeat (first | apply Kd.R_alloc | apply Kd.R_drewN | apply Kd.R_drew)); exact Kd.R_mono HO929.out (fun _ hk => ⟨hk.1.2, ⟨hk.2, ⟨hk.1.1.1.1.1.2, ⟨hk.1.1.1.1.2, ⟨hk.1.1.1.2, hk.1.1.2⟩⟩⟩⟩⟩)), (by (with_reducible repeat (first | apply Kd.R_alloc | apply Kd.R_drewN | apply Kd.R_drew)); exact Kd.R_mono HO933.out (fun _ hk => ⟨hk.1.2, ⟨hk.2, ⟨hk.1.1.1.1.1.2, ⟨hk.1.1.1.1.2, ⟨hk.1.1.1.2, hk.1.1.2⟩⟩⟩⟩⟩)), (by (with_reducible repeat (first | apply Kd.R_alloc | apply Kd.R_drewN | apply Kd.R_drew)); exact Kd.R_mono HO_887001.out (fun _ hk => ⟨hk.1.1.2, ⟨hk.1.2, ⟨hk.2, ⟨hk.1.1.1.1, ⟨hk.1.1.1.2.1, hk.1.1.1.2.2⟩⟩⟩⟩⟩)), (by (with_reducible repeat (first | apply Kd.R_alloc | apply Kd.R_drewN | apply Kd.R_drew)); exact Kd.R_mono HO_892001.out (fun _ hk => ⟨hk.1.1.2, ⟨hk.1.2, ⟨hk.2, ⟨hk.1.1.1.1, ⟨hk.1.1.1.2.1, hk.1.1.1.2.2⟩⟩⟩⟩⟩)), (by (with_reducible repeat (first | apply Kd.R_alloc | apply Kd.R_drewN | apply Kd.R_drew)); exact Kd.R_mono HO_897001.out (fun _ hk => ⟨hk.1.1.2, ⟨hk.1.2, ⟨hk.2, ⟨hk.1.1.1.1, ⟨hk.1.1.1.2.1, hk.1.1.1.2.2⟩⟩⟩⟩⟩)), (by (with_reducible repeat (first | apply Kd.R_alloc | apply Kd.R_drewN | apply Kd.R_drew)); exact Kd.R_mono HO_903001.out (fun _ hk => ⟨hk.1.1.2, ⟨hk.1.2, ⟨hk.2, ⟨hk.1.1.1.1, ⟨hk.1.1.1.2.1, hk.1.1.1.2.2⟩⟩⟩⟩⟩)), (blkQ BK869), (blkQ BK870), (blkQ BK886), (blkQ BK891), (blkQ BK896), (blkQ BK902), (blkQ BK935), GW935.out, GE935.out, NB869_935.out, NB935_869.out, NB870_935.out, NB935_870.out, NB886_935.out, NB935_886.out, NB891_935.out, NB935_891.out, NB896_935.out, NB935_896.out, NB902_935.out, NB935_902.out, (beQ HB)⟩)
              ·skip
               refine box_step ?hg (N := 15) ?hd (cs := #[.int .i64 0, .slice none 0 0]) (t := 38) ?hr ?_; (case hd => rfl); (case hg => rfl); (case hr => first | (go_simp; done) | (go_simp; rfl))
               intro gb935 hg w185 hbox hb
               replace HO_887001 := kb HO_887001 hb; replace HO_892001 := kb HO_892001 hb; replace HO_897001 := kb HO_897001 hb; replace HO_903001 := kb HO_903001 hb; have BK935 := Aside0.mk (hbox)
               have GW935 := Aside0.mk ((by rw [hg]; exact (below_size (beQ HB)) : w.heap.size ≤ gb935))
               have GE935 := Aside0.mk ((by rw [hg]; exact (below_size (beQ HB)) : w.heap.size ≤ gb935))
               replace HB := Aside0.mk (below_step (beQ HB) hb)
               have NB869_935 := Aside0.mk ((by rw [hg]; exact Nat.ne_of_lt (blk_lt (blkQ BK869)) : gb869 ≠ gb935))
               have NB935_869 := Aside0.mk ((by rw [hg]; exact Nat.ne_of_gt (blk_lt (blkQ BK869)) : gb935 ≠ gb869))
               replace BK869 := bb BK869 hb
               have NB870_935 := Aside0.mk ((by rw [hg]; exact Nat.ne_of_lt (blk_lt (blkQ BK870)) : gb870 ≠ gb935))
               have NB935_870 := Aside0.mk ((by rw [hg]; exact Nat.ne_of_gt (blk_lt (blkQ BK870)) : gb935 ≠ gb870))
               replace BK870 := bb BK870 hb
               have NB886_935 := Aside0.mk ((by rw [hg]; exact Nat.ne_of_lt (blk_lt (blkQ BK886)) : gb886 ≠ gb935))
               have NB935_886 := Aside0.mk ((by rw [hg]; exact Nat.ne_of_gt (blk_lt (blkQ BK886)) : gb935 ≠ gb886))
               replace BK886 := bb BK886 hb
               have NB891_935 := Aside0.mk ((by rw [hg]; exact Nat.ne_of_lt (blk_lt (blkQ BK891)) : gb891 ≠ gb935))
               have NB935_891 := Aside0.mk ((by rw [hg]; exact Nat.ne_of_gt (blk_lt (blkQ BK891)) : gb935 ≠ gb891))
               replace BK891 := bb BK891 hb
               have NB896_935 := Aside0.mk ((by rw [hg]; exact Nat.ne_of_lt (blk_lt (blkQ BK896)) : gb896 ≠ gb935))
               have NB935_896 := Aside0.mk ((by rw [hg]; exact Nat.ne_of_gt (blk_lt (blkQ BK896)) : gb935 ≠ gb896))
               replace BK896 := bb BK896 hb
               have NB902_935 := Aside0.mk ((by rw [hg]; exact Nat.ne_of_lt (blk_lt (blkQ BK902)) : gb902 ≠ gb935))
               have NB935_902 := Aside0.mk ((by rw [hg]; exact Nat.ne_of_gt (blk_lt (blkQ BK902)) : gb935 ≠ gb902))
               replace BK902 := bb BK902 hb; clear hb hbox hg
               refine hK.out _ _ ⟨bc BK869 0, bc BK869 1, bc BK870 0, bc BK870 1⟩ (fun hHeld => ?_)
               clear hK K
               refine norm_ (a' := ?_) ?_ ?_
               rotate_left
               ·show Act.put _ (some 15) _ = _
                simp only [Act.put, s1, s2, s3, i64_w, i32_w]
                rfl
               refine one_ (i := 1) (N := some 96) #[true, true, true, false, false, false, false, false, true, false, false] rfl rfl (one_of HT_.out (by kernel_rfl)) (by decide) (fun K hK => ?_)
               refine goes_ Tryd.func37 (by kernel_rfl) rfl #[.agg #[.int .i64 a0_0, .slice A0_1 l0_1.length c0_1]] (by rfl) rfl rfl lz ?_
               with_reducible refine (laws_toAlphabet.calls kj107 a0_0 _ _ l0_1 t922 t923 _ ?side1 ?side2 A171.out).mono ?_
               (case side1 => have q_ := Aside0.mk (Kd.C_below HR0_1.out HB.out); exact cQ q_)
               (case side2 => exact HC0_1.out)
               rintro e w186 ⟨v924, rfl, ho0, hb⟩
               refine ⟨_, rfl, ?_⟩
               have HO925 := Aside0.mk (Kd.R_lower (Kd.R_new' (Kd.R_new' (Kd.R_new' (Kd.R_new' ho0 (Kd.R_lt (kdQ HO_887001))) (Kd.R_lt (kdQ HO_892001))) (Kd.R_lt (kdQ HO_897001))) (Kd.R_lt (kdQ HO_903001))) (below_size (beQ HB))); replace HO_887001 := Aside0.mk (Kd.R_elder' (kdQ HO_887001) (Kd.R_base ho0) hb); replace HO_892001 := Aside0.mk (Kd.R_elder' (kdQ HO_892001) (Kd.R_base ho0) hb); replace HO_897001 := Aside0.mk (Kd.R_elder' (kdQ HO_897001) (Kd.R_base ho0) hb); replace HO_903001 := Aside0.mk (Kd.R_elder' (kdQ HO_903001) (Kd.R_base ho0) hb); replace BK869 := bb BK869 hb; replace BK870 := bb BK870 hb; replace BK886 := bb BK886 hb; replace BK891 := bb BK891 hb; replace BK896 := bb BK896 hb; replace BK902 := bb BK902 hb; replace BK935 := bb BK935 hb; replace HB := Aside0.mk (below_step (beQ HB) hb)
               (try clear hb)
               (try clear hb2)
               (try clear hk)
               (try clear hi)
               (try clear ho0)
               refine hK.out _ _ ⟨bc BK869 0, bc BK869 1, bc BK870 0, bc BK870 1⟩ (fun hHeld => ?_)
               clear hK K
               refine norm_ (a' := ?_) ?_ ?_
               rotate_left
               ·show Act.put _ (some 96) _ = _
                simp only [Act.put, s1, s2, s3, i64_w, i32_w]
                rfl
               refine one_ (i := 3) (N := some 98) #[true, true, true, true, false, false, false, false, true, false, false] rfl rfl (one_of HT_.out (by kernel_rfl)) (by decide) (fun K hK => ?_)
               refine goes_ Tryd.func37 (by kernel_rfl) rfl #[.agg #[.int .i64 a1_0, .slice A1_1 l1_1.length c1_1]] (by rfl) rfl rfl lz ?_
               with_reducible refine (laws_toAlphabet.calls kj107 a1_0 _ _ l1_1 t926 t927 _ ?side1 ?side2 A172.out).mono ?_
               (case side1 => have q_ := Aside0.mk (Kd.C_below HR1_1.out HB.out); exact cQ q_)
               (case side2 => exact HC1_1.out)
               rintro e w187 ⟨v928, rfl, ho0, hb⟩
               refine ⟨_, rfl, ?_⟩
               have HO929 := Aside0.mk (Kd.R_lower (Kd.R_new' (Kd.R_new' (Kd.R_new' (Kd.R_new' (Kd.R_new' ho0 (Kd.R_lt (kdQ HO_887001))) (Kd.R_lt (kdQ HO_892001))) (Kd.R_lt (kdQ HO_897001))) (Kd.R_lt (kdQ HO_903001))) (Kd.R_lt (kdQ HO925))) (below_size (beQ HB))); replace HO_887001 := Aside0.mk (Kd.R_elder' (kdQ HO_887001) (Kd.R_base ho0) hb); replace HO_892001 := Aside0.mk (Kd.R_elder' (kdQ HO_892001) (Kd.R_base ho0) hb); replace HO_897001 := Aside0.mk (Kd.R_elder' (kdQ HO_897001) (Kd.R_base ho0) hb); replace HO_903001 := Aside0.mk (Kd.R_elder' (kdQ HO_903001) (Kd.R_base ho0) hb); replace HO925 := Aside0.mk (Kd.R_elder' (kdQ HO925) (Kd.R_base ho0) hb); replace BK869 := bb BK869 hb; replace BK870 := bb BK870 hb; replace BK886 := bb BK886 hb; replace BK891 := bb BK891 hb; replace BK896 := bb BK896 hb; replace BK902 := bb BK902 hb; replace BK935 := bb BK935 hb; replace HB := Aside0.mk (below_step (beQ HB) hb)
               (try clear hb)
               (try clear hb2)
               (try clear hk)
               (try clear hi)
               (try clear ho0)
               obtain ⟨Ao188, co188, eo188⟩ := Kd.R_slice HO925.out
               (first | subst eo188 | (injection eo188 with f1_ f2_ f3_; have f4_ := f1_.symm; have f5_ := f3_.symm; clear f1_ f2_ f3_; subst f4_; subst f5_))
               obtain ⟨Ao189, co189, eo189⟩ := Kd.R_slice HO929.out
               (first | subst eo189 | (injection eo189 with f1_ f2_ f3_; have f4_ := f1_.symm; have f5_ := f3_.symm; clear f1_ f2_ f3_; subst f4_; subst f5_))
               refine hK.out _ _ ⟨bc BK869 0, bc BK869 1, bc BK870 0, bc BK870 1⟩ (fun hHeld => ?_)
               clear hK K
               refine norm_ (a' := ?_) ?_ ?_
               rotate_left
               ·show Act.put _ (some 98) _ = _
                simp only [Act.put, s1, s2, s3, i64_w, i32_w]
                rfl
               refine one_ (i := 4) (N := some 99) #[true, true, true, true, true, false, false, false, true, false, false] rfl rfl (one_of HT_.out (by kernel_rfl)) (by decide) (fun K hK => ?_)
               refine goes_ Tryd.func46 (by kernel_rfl) rfl #[.agg #[.int .i64 t922, .slice Ao188 t923.length co188], .agg #[.int .i64 t926, .slice Ao189 t927.length co189]] (by rfl) rfl rfl lz ?_
               with_reducible refine (impl_FreeProduct.calls kj107 t922 _ _ t923 t926 _ _ t927 t930 t931 t934 _ ?side1 ?side2 ?side3 ?side4 ?side5 A173.out).mono ?_
               (case side1 => have q_ := Aside0.mk (Kd.R_reads' HO925.out).2.2; exact cQ q_)
               (case side2 => exact (Kd.R_reads' HO925.out).2.1)
               (case side3 => have q_ := Aside0.mk (Kd.R_reads' HO929.out).2.2; exact cQ q_)
               (case side4 => exact (Kd.R_reads' HO929.out).2.1)
               (case side5 => exact TabW.below HT.out (beQ HB))
               rintro e w190 ⟨v932, rfl, ho0, hb⟩
               refine ⟨_, rfl, ?_⟩
               have HO933 := Aside0.mk (Kd.R_lower (Kd.R_new' (Kd.R_new' (Kd.R_new' (Kd.R_new' (Kd.R_new' (Kd.R_new' ho0 (Kd.R_lt (kdQ HO_887001))) (Kd.R_lt (kdQ HO_892001))) (Kd.R_lt (kdQ HO_897001))) (Kd.R_lt (kdQ HO_903001))) (Kd.R_lt (kdQ HO925))) (Kd.R_lt (kdQ HO929))) (below_size (beQ HB))); replace HO_887001 := Aside0.mk (Kd.R_elder' (kdQ HO_887001) (Kd.R_base ho0) hb); replace HO_892001 := Aside0.mk (Kd.R_elder' (kdQ HO_892001) (Kd.R_base ho0) hb); replace HO_897001 := Aside0.mk (Kd.R_elder' (kdQ HO_897001) (Kd.R_base ho0) hb); replace HO_903001 := Aside0.mk (Kd.R_elder' (kdQ HO_903001) (Kd.R_base ho0) hb); replace HO925 := Aside0.mk (Kd.R_elder' (kdQ HO925) (Kd.R_base ho0) hb); replace HO929 := Aside0.mk (Kd.R_elder' (kdQ HO929) (Kd.R_base ho0) hb); replace BK869 := bb BK869 hb; replace BK870 := bb BK870 hb; replace BK886 := bb BK886 hb; replace BK891 := bb BK891 hb; replace BK896 := bb BK896 hb; replace BK902 := bb BK902 hb; replace BK935 := bb BK935 hb; replace HB := Aside0.mk (below_step (beQ HB) hb)
               (try clear hb)
               (try clear hb2)
               (try clear hk)
               (try clear hi)
               (try clear ho0)
               refine hK.out _ _ ⟨bc BK869 0, bc BK869 1, bc BK870 0, bc BK870 1⟩ (fun hHeld => ?_)
               clear hK K
               refine norm_ (a' := ?_) ?_ ?_
               rotate_left
               ·show Act.put _ (some 99) _ = _
                simp only [Act.put, s1, s2, s3, i64_w, i32_w]
                rfl
               refine pure_ (i := 5) (N := some 94) (v := ?_) (a' := ?_) #[true, true, true, true, true, true, false, false, true, false, false] rfl rfl (any_of HT_.out (by kernel_rfl)) (fun _ _ _ h => h) (Or.inl ⟨by rfl, ?_⟩) ?_ ?_
               rotate_left
               ·intro w'
                go_simp
                with_reducible rfl
               rotate_left
               ·simp only [Act.put, s1, s2, s3, i64_w, i32_w]
                rfl
               refine pure_ (i := 6) (N := some 100) (v := ?_) (a' := ?_) #[true, true, true, true, true, true, true, false, true, false, false] rfl rfl (any_of HT_.out (by kernel_rfl)) (fun _ _ _ h => h) (Or.inl ⟨by rfl, ?_⟩) ?_ ?_
               rotate_left
               ·intro w'
                go_simp
                with_reducible rfl
               rotate_left
               ·simp only [Act.put, s1, s2, s3, i64_w, i32_w]
                rfl
               refine pure_ (i := 7) (N := some 101) (v := ?_) (a' := ?_) #[true, true, true, true, true, true, true, true, true, false, false] rfl rfl (any_of HT_.out (by kernel_rfl)) (fun _ _ _ h => h) (Or.inl ⟨by rfl, ?_⟩) ?_ ?_
               rotate_left
               ·intro w'
                go_simp
                with_reducible rfl
               rotate_left
               ·simp only [Act.put, s1, s2, s3, i64_w, i32_w]
                rfl
               exact norm_ (by simp only [putAll, Act.put, List.setIfInBounds_toArray, List.set_cons_zero, List.set_cons_succ]) (hCont (.slice Ao188 t923.length co188, .slice Ao189 t927.length co189, v932, gb935) _ ⟨hHeld, (by (with_reducible repeat (first | apply Kd.R_alloc | apply Kd.R_drewN | apply Kd.R_drew)); exact Kd.R_mono HO925.out (fun _ hk => ⟨hk.1.2, ⟨hk.2, ⟨hk.1.1.1.1.1.2, ⟨hk.1.1.1.1.2, ⟨hk.1.1.1.2, hk.1.1.2⟩⟩⟩⟩⟩)), (by (with_reducible repeat (first | apply Kd.R_alloc | apply Kd.R_drewN | apply Kd.R_drew)); exact Kd.R_mono HO929.out (fun _ hk => ⟨hk.1.2, ⟨hk.2, ⟨hk.1.1.1.1.1.2, ⟨hk.1.1.1.1.2, ⟨hk.1.1.1.2, hk.1.1.2⟩⟩⟩⟩⟩)), (by (with_reducible repeat (first | apply Kd.R_alloc | apply Kd.R_drewN | apply Kd.R_drew)); exact Kd.R_mono HO933.out (fun _ hk => ⟨hk.1.2, ⟨hk.2, ⟨hk.1.1.1.1.1.2, ⟨hk.1.1.1.1.2, ⟨hk.1.1.1.2, hk.1.1.2⟩⟩⟩⟩⟩)), (by (with_reducible repeat (first | apply Kd.R_alloc | apply Kd.R_drewN | apply Kd.R_drew)); exact Kd.R_mono HO_887001.out (fun _ hk => ⟨hk.1.1.2, ⟨hk.1.2, ⟨hk.2, ⟨hk.1.1.1.1, ⟨hk.1.1.1.2.1, hk.1.1.1.2.2⟩⟩⟩⟩⟩)), (by (with_reducible repeat (first | apply Kd.R_alloc | apply Kd.R_drewN | apply Kd.R_drew)); exact Kd.R_mono HO_892001.out (fun _ hk => ⟨hk.1.1.2, ⟨hk.1.2, ⟨hk.2, ⟨hk.1.1.1.1, ⟨hk.1.1.1.2.1, hk.1.1.1.2.2⟩⟩⟩⟩⟩)), (by (with_reducible repeat (first | apply Kd.R_alloc | apply Kd.R_drewN | apply Kd.R_drew)); exact Kd.R_mono HO_897001.out (fun _ hk => ⟨hk.1.1.2, ⟨hk.1.2, ⟨hk.2, ⟨hk.1.1.1.1, ⟨hk.1.1.1.2.1, hk.1.1.1.2.2⟩⟩⟩⟩⟩)), (by (with_reducible repeat (first | apply Kd.R_alloc | apply Kd.R_drewN | apply Kd.R_drew)); exact Kd.R_mono HO_903001.out (fun _ hk => ⟨hk.1.1.2, ⟨hk.1.2, ⟨hk.2, ⟨hk.1.1.1.1, ⟨hk.1.1.1.2.1, hk.1.1.1.2.2⟩⟩⟩⟩⟩)), (blkQ BK869), (blkQ BK870), (blkQ BK886), (blkQ BK891), (blkQ BK896), (blkQ BK902), (blkQ BK935), GW935.out, GE935.out, NB869_935.out, NB935_869.out, NB870_935.out, NB935_870.out, NB886_935.out, NB935_886.out, NB891_935.out, NB935_891.out, NB896_935.out, NB935_896.out, NB902_935.out, NB935_902.out, (beQ HB)⟩)
             rintro ⟨v924, v928, v932, gb935⟩ w191 ⟨hS_, h0_, h1_, h2_, h3_, h4_, h5_, h6_, h7_, h8_, h9_, h10_, h11_, h12_, h13_, h14_, h15_, h16_, h17_, h18_, h19_, h20_, h21_, h22_, h23_, h24_, h25_, h26_, h27_, h28_⟩
             have n0_ : Aside0 (Kd.R (Kd.int .i64) 2 w191 w.heap.size (fun k_ => some k_ ≠ (v928 : Value).ownBlock ∧ some k_ ≠ (v932 : Value).ownBlock ∧ some k_ ≠ (.slice Ao42 t882.length co42 : Value).ownBlock ∧ some k_ ≠ (.slice Ao52 t915.length co52 : Value).ownBlock ∧ some k_ ≠ (.slice Ao62 t917.length co62 : Value).ownBlock ∧ some k_ ≠ (.slice Ao72 t898.length co72 : Value).ownBlock) v924 t923) := ⟨h0_⟩
             have n1_ : Aside0 (Kd.R (Kd.int .i64) 2 w191 w.heap.size (fun k_ => some k_ ≠ (v924 : Value).ownBlock ∧ some k_ ≠ (v932 : Value).ownBlock ∧ some k_ ≠ (.slice Ao42 t882.length co42 : Value).ownBlock ∧ some k_ ≠ (.slice Ao52 t915.length co52 : Value).ownBlock ∧ some k_ ≠ (.slice Ao62 t917.length co62 : Value).ownBlock ∧ some k_ ≠ (.slice Ao72 t898.length co72 : Value).ownBlock) v928 t927) := ⟨h1_⟩
             have n2_ : Aside0 (Kd.R (Kd.int .i64) 2 w191 w.heap.size (fun k_ => some k_ ≠ (v924 : Value).ownBlock ∧ some k_ ≠ (v928 : Value).ownBlock ∧ some k_ ≠ (.slice Ao42 t882.length co42 : Value).ownBlock ∧ some k_ ≠ (.slice Ao52 t915.length co52 : Value).ownBlock ∧ some k_ ≠ (.slice Ao62 t917.length co62 : Value).ownBlock ∧ some k_ ≠ (.slice Ao72 t898.length co72 : Value).ownBlock) v932 t931) := ⟨h2_⟩
             have n3_ : Aside0 (Kd.R (Kd.int .i64) 2 w191 w.heap.size (fun k_ => some k_ ≠ (v924 : Value).ownBlock ∧ some k_ ≠ (v928 : Value).ownBlock ∧ some k_ ≠ (v932 : Value).ownBlock ∧ some k_ ≠ (.slice Ao52 t915.length co52 : Value).ownBlock ∧ some k_ ≠ (.slice Ao62 t917.length co62 : Value).ownBlock ∧ some k_ ≠ (.slice Ao72 t898.length co72 : Value).ownBlock) (.slice Ao42 t882.length co42) t882) := ⟨h3_⟩
             have n4_ : Aside0 (Kd.R (Kd.int .i64) 2 w191 w.heap.size (fun k_ => some k_ ≠ (v924 : Value).ownBlock ∧ some k_ ≠ (v928 : Value).ownBlock ∧ some k_ ≠ (v932 : Value).ownBlock ∧ some k_ ≠ (.slice Ao42 t882.length co42 : Value).ownBlock ∧ some k_ ≠ (.slice Ao62 t917.length co62 : Value).ownBlock ∧ some k_ ≠ (.slice Ao72 t898.length co72 : Value).ownBlock) (.slice Ao52 t915.length co52) t915) := ⟨h4_⟩
             have n5_ : Aside0 (Kd.R (Kd.int .i64) 2 w191 w.heap.size (fun k_ => some k_ ≠ (v924 : Value).ownBlock ∧ some k_ ≠ (v928 : Value).ownBlock ∧ some k_ ≠ (v932 : Value).ownBlock ∧ some k_ ≠ (.slice Ao42 t882.length co42 : Value).ownBlock ∧ some k_ ≠ (.slice Ao52 t915.length co52 : Value).ownBlock ∧ some k_ ≠ (.slice Ao72 t898.length co72 : Value).ownBlock) (.slice Ao62 t917.length co62) t917) := ⟨h5_⟩
             have n6_ : Aside0 (Kd.R (Kd.int .i64) 2 w191 w.heap.size (fun k_ => some k_ ≠ (v924 : Value).ownBlock ∧ some k_ ≠ (v928 : Value).ownBlock ∧ some k_ ≠ (v932 : Value).ownBlock ∧ some k_ ≠ (.slice Ao42 t882.length co42 : Value).ownBlock ∧ some k_ ≠ (.slice Ao52 t915.length co52 : Value).ownBlock ∧ some k_ ≠ (.slice Ao62 t917.length co62 : Value).ownBlock) (.slice Ao72 t898.length co72) t920) := ⟨h6_⟩
             have n7_ : Aside0 (w191.heap[gb869]? = some (.cells #[.int .i64 a0_0, .slice A0_1 l0_1.length c0_1] 46 (0, 0))) := ⟨h7_⟩
             have n8_ : Aside0 (w191.heap[gb870]? = some (.cells #[.int .i64 a1_0, .slice A1_1 l1_1.length c1_1] 46 (0, 0))) := ⟨h8_⟩
             have n9_ : Aside0 (w191.heap[gb886]? = some (.cells #[.int .i64 t881, .slice Ao42 t882.length co42] 38 (0, 0))) := ⟨h9_⟩
             have n10_ : Aside0 (w191.heap[gb891]? = some (.cells #[.int .i64 t887, .slice Ao52 t915.length co52] 38 (0, 0))) := ⟨h10_⟩
             have n11_ : Aside0 (w191.heap[gb896]? = some (.cells #[.int .i64 t892, .slice Ao62 t917.length co62] 38 (0, 0))) := ⟨h11_⟩
             have n12_ : Aside0 (w191.heap[gb902]? = some (.cells #[.int .i64 t897, .slice Ao72 t898.length co72] 38 (0, 0))) := ⟨h12_⟩
             have n13_ : Aside0 (w191.heap[gb935]? = some (.cells #[.int .i64 0, .slice none 0 0] 38 (0, 0))) := ⟨h13_⟩
             have n14_ : Aside0 (w.heap.size ≤ gb935) := ⟨h14_⟩
             have n15_ : Aside0 (w.heap.size ≤ gb935) := ⟨h15_⟩
             have n16_ : Aside0 (gb869 ≠ gb935) := ⟨h16_⟩
             have n17_ : Aside0 (gb935 ≠ gb869) := ⟨h17_⟩
             have n18_ : Aside0 (gb870 ≠ gb935) := ⟨h18_⟩
             have n19_ : Aside0 (gb935 ≠ gb870) := ⟨h19_⟩
             have n20_ : Aside0 (gb886 ≠ gb935) := ⟨h20_⟩
             have n21_ : Aside0 (gb935 ≠ gb886) := ⟨h21_⟩
             have n22_ : Aside0 (gb891 ≠ gb935) := ⟨h22_⟩
             have n23_ : Aside0 (gb935 ≠ gb891) := ⟨h23_⟩
             have n24_ : Aside0 (gb896 ≠ gb935) := ⟨h24_⟩
             have n25_ : Aside0 (gb935 ≠ gb896) := ⟨h25_⟩
             have n26_ : Aside0 (gb902 ≠ gb935) := ⟨h26_⟩
             have n27_ : Aside0 (gb935 ≠ gb902) := ⟨h27_⟩
             have n28_ : Aside0 (Below w.heap.size w w191) := ⟨h28_⟩
             clear HO_887001; clear HO_892001; clear HO_897001; clear HO_903001; clear BK869; clear BK870; clear BK886; clear BK891; clear BK896; clear BK902; clear HB; clear h0_ h1_ h2_ h3_ h4_ h5_ h6_ h7_ h8_ h9_ h10_ h11_ h12_ h13_ h14_ h15_ h16_ h17_ h18_ h19_ h20_ h21_ h22_ h23_ h24_ h25_ h26_ h27_ h28_; have HO925 := n0_; have HO929 := n1_; have HO933 := n2_; have HO_887001 := n3_; have HO_892001 := n4_; have HO_897001 := n5_; have HO_903001 := n6_; have BK869 := n7_; have BK870 := n8_; have BK886 := n9_; have BK891 := n10_; have BK896 := n11_; have BK902 := n12_; have BK935 := n13_; have GW935 := n14_; have GE935 := n15_; have NB869_935 := n16_; have NB935_869 := n17_; have NB870_935 := n18_; have NB935_870 := n19_; have NB886_935 := n20_; have NB935_886 := n21_; have NB891_935 := n22_; have NB935_891 := n23_; have NB896_935 := n24_; have NB935_896 := n25_; have NB902_935 := n26_; have NB935_902 := n27_; have HB := n28_; clear n0_ n1_ n2_ n3_ n4_ n5_ n6_ n7_ n8_ n9_ n10_ n11_ n12_ n13_ n14_ n15_ n16_ n17_ n18_ n19_ n20_ n21_ n22_ n23_ n24_ n25_ n26_ n27_ n28_
             have hHeld : w191.cell? ⟨gb869, 0, none⟩ = some (.int .i64 a0_0) ∧ w191.cell? ⟨gb869, 1, none⟩ = some (.slice A0_1 l0_1.length c0_1) ∧ w191.cell? ⟨gb870, 0, none⟩ = some (.int .i64 a1_0) ∧ w191.cell? ⟨gb870, 1, none⟩ = some (.slice A1_1 l1_1.length c1_1) := hS_
             obtain ⟨Ao193, co193, eo193⟩ := Kd.R_slice HO933.out
             (first | subst eo193 | (injection eo193 with f1_ f2_ f3_; have f4_ := f1_.symm; have f5_ := f3_.symm; clear f1_ f2_ f3_; subst f4_; subst f5_))
             refine norm_ (a' := ?_) ?_ ?_
             rotate_left
             ·simp only [putAll, Act.put, List.setIfInBounds_toArray, List.set_cons_zero, List.set_cons_succ]
              rfl
             refine one_ (i := 9) (N := none) #[true, true, true, true, true, true, true, true, true, true, false] rfl rfl (one_of HT_.out (by kernel_rfl)) (by decide) (fun K hK => ?_)
             have hs192 : w191.cell? ⟨gb935, 0, none⟩ = some (.int .i64 0) := bc BK935 0
             have hfs192 := blk_frozen BK935.out 0; have hns192_0 := NB869_935.out; have hns192_1 := NB870_935.out; have hns192_2 := NB886_935.out; have hns192_3 := NB891_935.out; have hns192_4 := NB896_935.out; have hns192_5 := NB902_935.out; have hms192_0 := NB935_869.out; have hms192_1 := NB935_870.out; have hms192_2 := NB935_886.out; have hms192_3 := NB935_891.out; have hms192_4 := NB935_896.out; have hms192_5 := NB935_902.out
             have hs194 : w191.cell? ⟨gb935, 1, none⟩ = some (.slice none 0 0) := bc BK935 1
             have hfs194 := blk_frozen BK935.out 1; have hns194_0 := NB869_935.out; have hns194_1 := NB870_935.out; have hns194_2 := NB886_935.out; have hns194_3 := NB891_935.out; have hns194_4 := NB896_935.out; have hns194_5 := NB902_935.out; have hms194_0 := NB935_869.out; have hms194_1 := NB935_870.out; have hms194_2 := NB935_886.out; have hms194_3 := NB935_891.out; have hms194_4 := NB935_896.out; have hms194_5 := NB935_902.out
             refine skip_ (w1 := ?_) (by rfl) rfl ?_ ?_
             rotate_left
             ·go_simp
              rfl
             refine hK.out _ _ ⟨((cell_far (p := ⟨gb935, _, none⟩) NB869_935.out _).trans (((cell_far (p := ⟨gb935, _, none⟩) NB869_935.out _).trans (hHeld.1)))), ((cell_far (p := ⟨gb935, _, none⟩) NB869_935.out _).trans (((cell_far (p := ⟨gb935, _, none⟩) NB869_935.out _).trans (hHeld.2.1)))), ((cell_far (p := ⟨gb935, _, none⟩) NB870_935.out _).trans (((cell_far (p := ⟨gb935, _, none⟩) NB870_935.out _).trans (hHeld.2.2.1)))), ((cell_far (p := ⟨gb935, _, none⟩) NB870_935.out _).trans (((cell_far (p := ⟨gb935, _, none⟩) NB870_935.out _).trans (hHeld.2.2.2))))⟩ (fun hHeld => ?_)
             clear hK K
             refine pure_ (i := 10) (N := some 16) (v := ?_) (a' := ?_) #[true, true, true, true, true, true, true, true, true, true, true] rfl rfl (any_of HT_.out (by kernel_rfl)) (fun _ _ _ h => h) (Or.inl ⟨by rfl, ?_⟩) ?_ ?_
             rotate_left
             ·intro w'
              go_simp
              with_reducible rfl
             rotate_left
             ·simp only [Act.put, s1, s2, s3, i64_w, i32_w]
              rfl
             refine done_ (done_of HT_.out (by kernel_rfl)) ?_
             go_upto_region 32 with (fail)
             go_cut [110] (fun v110 wc => ∃ (kq : Nat) (x110_173 : Bool), v110 = .bool x110_173 ∧ Aside0 (laws_FnExactFreeProduct.j2 kq t919 x110_173 t897 t920 = some r) ∧ Aside0 (kq ≤ kj107) ∧ Aside0 (Kd.R (Kd.int .i64) 2 wc w.heap.size (fun k_ => some k_ ≠ ((.slice Ao52 t915.length co52) : Value).ownBlock ∧ some k_ ≠ ((.slice Ao62 t917.length co62) : Value).ownBlock ∧ some k_ ≠ ((.slice Ao72 t898.length co72) : Value).ownBlock ∧ some k_ ≠ ((.slice Ao193 t931.length co193) : Value).ownBlock) (.slice Ao42 t882.length co42) t882) ∧ Aside0 (Kd.R (Kd.int .i64) 2 wc w.heap.size (fun k_ => some k_ ≠ ((.slice Ao42 t882.length co42) : Value).ownBlock ∧ some k_ ≠ ((.slice Ao62 t917.length co62) : Value).ownBlock ∧ some k_ ≠ ((.slice Ao72 t898.length co72) : Value).ownBlock ∧ some k_ ≠ ((.slice Ao193 t931.length co193) : Value).ownBlock) (.slice Ao52 t915.length co52) t915) ∧ Aside0 (Kd.R (Kd.int .i64) 2 wc w.heap.size (fun k_ => some k_ ≠ ((.slice Ao42 t882.length co42) : Value).ownBlock ∧ some k_ ≠ ((.slice Ao52 t915.length co52) : Value).ownBlock ∧ some k_ ≠ ((.slice Ao72 t898.length co72) : Value).ownBlock ∧ some k_ ≠ ((.slice Ao193 t931.length co193) : Value).ownBlock) (.slice Ao62 t917.length co62) t917) ∧ Aside0 (Kd.R (Kd.int .i64) 2 wc w.heap.size (fun k_ => some k_ ≠ ((.slice Ao42 t882.length co42) : Value).ownBlock ∧ some k_ ≠ ((.slice Ao52 t915.length co52) : Value).ownBlock ∧ some k_ ≠ ((.slice Ao62 t917.length co62) : Value).ownBlock ∧ some k_ ≠ ((.slice Ao193 t931.length co193) : Value).ownBlock) (.slice Ao72 t898.length co72) t920) ∧ Aside0 (Kd.R (Kd.int .i64) 2 wc w.heap.size (fun k_ => some k_ ≠ ((.slice Ao42 t882.length co42) : Value).ownBlock ∧ some k_ ≠ ((.slice Ao52 t915.length co52) : Value).ownBlock ∧ some k_ ≠ ((.slice Ao62 t917.length co62) : Value).ownBlock ∧ some k_ ≠ ((.slice Ao72 t898.length co72) : Value).ownBlock) (.slice Ao193 t931.length co193) t931) ∧ Aside0 (wc.heap[gb869]? = some (.cells #[.int .i64 a0_0, (.slice A0_1 l0_1.length c0_1)] 46 (0, 0))) ∧ Aside0 (wc.heap[gb870]? = some (.cells #[.int .i64 a1_0, (.slice A1_1 l1_1.length c1_1)] 46 (0, 0))) ∧ Aside0 (wc.heap[gb886]? = some (.cells #[.int .i64 t881, (.slice Ao42 t882.length co42)] 38 (0, 0))) ∧ Aside0 (wc.heap[gb891]? = some (.cells #[.int .i64 t887, (.slice Ao52 t915.length co52)] 38 (0, 0))) ∧ Aside0 (wc.heap[gb896]? = some (.cells #[.int .i64 t892, (.slice Ao62 t917.length co62)] 38 (0, 0))) ∧ Aside0 (wc.heap[gb902]? = some (.cells #[.int .i64 t897, (.slice Ao72 t898.length co72)] 38 (0, 0))) ∧ Aside0 (wc.heap[gb935]? = some (.cells #[.int .i64 t930, (.slice Ao193 t931.length co193)] 38 (0, 0))) ∧ Aside0 (Below w.heap.size w wc))
             case first =>
              have H := HC174.out; clear HC174; replace H := Option.bind_eq_some_iff.mp H; obtain ⟨t936, A1950, H⟩ := H
              replace H : (if t936 = true then (laws_FnExactFreeProduct.j2 kj107 t919 (t934 != t885) t897 t920) else (laws_FnExactFreeProduct.j2 kj107 t919 true t897 t920)) = some r := H
              have A195 := Aside0.mk A1950; clear A1950
              by_cases c196 : t936 = true
              ·subst c196
               have H1 : (laws_FnExactFreeProduct.j2 kj107 t919 (t934 != t885) t897 t920) = some r := by rw [if_pos rfl] at H; exact H
               clear H; have H := H1; clear H1
               have H' := Aside0.mk H
               clear H; have hnb197 := NB935_869.out; have hnc197 := NB869_935.out; have hnb198 := NB935_870.out; have hnc198 := NB870_935.out; have hnb199 := NB935_886.out; have hnc199 := NB886_935.out; have hnb200 := NB935_891.out; have hnc200 := NB891_935.out; have hnb201 := NB935_896.out; have hnc201 := NB896_935.out; have hnb202 := NB935_902.out; have hnc202 := NB902_935.out
               have hcz203_0 : w191.cell? ⟨gb935, 0, none⟩ = some (.int .i64 0) := bc BK935 0
               have hcz203_1 : w191.cell? ⟨gb935, 1, none⟩ = some (.slice none 0 0) := bc BK935 1
               have hfz203_0 := blk_frozen BK935.out 0; have hfz203_1 := blk_frozen BK935.out 1; have hnb204 := NB886_869.out; have hnc204 := NB869_886.out; have hnb205 := NB886_870.out; have hnc205 := NB870_886.out; have hnb206 := NB886_891.out; have hnc206 := NB891_886.out; have hnb207 := NB886_896.out; have hnc207 := NB896_886.out; have hnb208 := NB886_902.out; have hnc208 := NB902_886.out
               have hcz209_0 : w191.cell? ⟨gb886, 0, none⟩ = some (.int .i64 t881) := bc BK886 0
               have hcz209_1 : w191.cell? ⟨gb886, 1, none⟩ = some (.slice Ao42 t882.length co42) := bc BK886 1
               have hfz209_0 := blk_frozen BK886.out 0; have hfz209_1 := blk_frozen BK886.out 1
               go_wp2_with (first | ((with_reducible refine gate_callee (f := 26) rfl ?_); refine goesL_ (some 104) rfl rfl Tryd.func26 (by kernel_rfl) rfl #[.agg #[.int .i64 t930, .slice Ao193 t931.length co193], .agg #[.int .i64 t881, .slice Ao42 t882.length co42]] rfl lz ?_; (with_reducible refine (laws_eqAlphabet.calls kj107 t930 _ _ t931 t881 _ _ t882 true _ ?side1 ?side2 ?side3 ?side4 A195.out).mono ?_); (case side1 => refine (Kd.R_reads' (e := 2) (base := w.heap.size) (ok := fun k_ => (some k_ ≠ (v924 : Value).ownBlock ∧ (some k_ ≠ (v928 : Value).ownBlock ∧ (some k_ ≠ (.slice Ao42 t882.length co42 : Value).ownBlock ∧ (some k_ ≠ (.slice Ao52 t915.length co52 : Value).ownBlock ∧ (some k_ ≠ (.slice Ao62 t917.length co62 : Value).ownBlock ∧ some k_ ≠ (.slice Ao72 t898.length co72 : Value).ownBlock)))))) (n := t931.length) (c := co193) ?_).2.2; exact (by (with_reducible repeat (first | apply Kd.R_alloc | apply Kd.R_drewN | apply Kd.R_drew)); exact (Kd.R_mono (Kd.R_far (p := ⟨gb935, 1, none⟩) (Kd.R_far (p := ⟨gb935, 0, none⟩) (Kd.R_types HO933.out BK935.out (by decide)) (fun _ hk => hk.2) (.int .i64 t930)) (fun _ hk => hk.2) (.slice Ao193 t931.length co193)) (fun _ h_ => h_.1)))); (case side2 => exact (Kd.R_reads' HO933.out).2.1); (case side3 => refine (Kd.R_reads' (e := 2) (base := w.heap.size) (ok := fun k_ => (some k_ ≠ (v924 : Value).ownBlock ∧ (some k_ ≠ (v928 : Value).ownBlock ∧ (some k_ ≠ (.slice Ao193 t931.length co193 : Value).ownBlock ∧ (some k_ ≠ (.slice Ao52 t915.length co52 : Value).ownBlock ∧ (some k_ ≠ (.slice Ao62 t917.length co62 : Value).ownBlock ∧ some k_ ≠ (.slice Ao72 t898.length co72 : Value).ownBlock)))))) (n := t882.length) (c := co42) ?_).2.2; exact (by (with_reducible repeat (first | apply Kd.R_alloc | apply Kd.R_drewN | apply Kd.R_drew)); exact (Kd.R_mono (Kd.R_far (p := ⟨gb935, 1, none⟩) (Kd.R_far (p := ⟨gb935, 0, none⟩) (Kd.R_types HO_887001.out BK935.out (by decide)) (fun _ hk => hk.2) (.int .i64 t930)) (fun _ hk => hk.2) (.slice Ao193 t931.length co193)) (fun _ h_ => h_.1)))); (case side4 => exact (Kd.R_reads' HO_887001.out).2.1); rintro e w210 ⟨rfl, hb⟩; refine ⟨_, rfl, ?_⟩; replace HO_887001 := Aside0.mk (Kd.R_below (by (with_reducible repeat (first | apply Kd.R_alloc | apply Kd.R_drewN | apply Kd.R_drew)); exact (Kd.R_mono (Kd.R_far (p := ⟨gb935, 1, none⟩) (Kd.R_far (p := ⟨gb935, 0, none⟩) (Kd.R_types HO_887001.out BK935.out (by decide)) (fun _ hk => hk.2) (.int .i64 t930)) (fun _ hk => hk.2) (.slice Ao193 t931.length co193)) (fun _ h_ => h_.1))) hb); replace HO_892001 := Aside0.mk (Kd.R_below (by (with_reducible repeat (first | apply Kd.R_alloc | apply Kd.R_drewN | apply Kd.R_drew)); exact (Kd.R_mono (Kd.R_far (p := ⟨gb935, 1, none⟩) (Kd.R_far (p := ⟨gb935, 0, none⟩) (Kd.R_types HO_892001.out BK935.out (by decide)) (fun _ hk => hk.2) (.int .i64 t930)) (fun _ hk => hk.2) (.slice Ao193 t931.length co193)) (fun _ h_ => h_.1))) hb); replace HO_897001 := Aside0.mk (Kd.R_below (by (with_reducible repeat (first | apply Kd.R_alloc | apply Kd.R_drewN | apply Kd.R_drew)); exact (Kd.R_mono (Kd.R_far (p := ⟨gb935, 1, none⟩) (Kd.R_far (p := ⟨gb935, 0, none⟩) (Kd.R_types HO_897001.out BK935.out (by decide)) (fun _ hk => hk.2) (.int .i64 t930)) (fun _ hk => hk.2) (.slice Ao193 t931.length co193)) (fun _ h_ => h_.1))) hb); replace HO_903001 := Aside0.mk (Kd.R_below (by (with_reducible repeat (first | apply Kd.R_alloc | apply Kd.R_drewN | apply Kd.R_drew)); exact (Kd.R_mono (Kd.R_far (p := ⟨gb935, 1, none⟩) (Kd.R_far (p := ⟨gb935, 0, none⟩) (Kd.R_types HO_903001.out BK935.out (by decide)) (fun _ hk => hk.2) (.int .i64 t930)) (fun _ hk => hk.2) (.slice Ao193 t931.length co193)) (fun _ h_ => h_.1))) hb); replace HO925 := Aside0.mk (Kd.R_below (by (with_reducible repeat (first | apply Kd.R_alloc | apply Kd.R_drewN | apply Kd.R_drew)); exact (Kd.R_mono (Kd.R_far (p := ⟨gb935, 1, none⟩) (Kd.R_far (p := ⟨gb935, 0, none⟩) (Kd.R_types HO925.out BK935.out (by decide)) (fun _ hk => hk.2) (.int .i64 t930)) (fun _ hk => hk.2) (.slice Ao193 t931.length co193)) (fun _ h_ => h_.1))) hb); replace HO929 := Aside0.mk (Kd.R_below (by (with_reducible repeat (first | apply Kd.R_alloc | apply Kd.R_drewN | apply Kd.R_drew)); exact (Kd.R_mono (Kd.R_far (p := ⟨gb935, 1, none⟩) (Kd.R_far (p := ⟨gb935, 0, none⟩) (Kd.R_types HO929.out BK935.out (by decide)) (fun _ hk => hk.2) (.int .i64 t930)) (fun _ hk => hk.2) (.slice Ao193 t931.length co193)) (fun _ h_ => h_.1))) hb); replace HO933 := Aside0.mk (Kd.R_below (by (with_reducible repeat (first | apply Kd.R_alloc | apply Kd.R_drewN | apply Kd.R_drew)); exact (Kd.R_mono (Kd.R_far (p := ⟨gb935, 1, none⟩) (Kd.R_far (p := ⟨gb935, 0, none⟩) (Kd.R_types HO933.out BK935.out (by decide)) (fun _ hk => hk.2) (.int .i64 t930)) (fun _ hk => hk.2) (.slice Ao193 t931.length co193)) (fun _ h_ => h_.1))) hb); replace BK869 := Aside0.mk (blk_below (blkF BK869) hb); replace BK870 := Aside0.mk (blk_below (blkF BK870) hb); replace BK886 := Aside0.mk (blk_below (blkF BK886) hb); replace BK891 := Aside0.mk (blk_below (blkF BK891) hb); replace BK896 := Aside0.mk (blk_below (blkF BK896) hb); replace BK902 := Aside0.mk (blk_below (blkF BK902) hb); replace BK935 := Aside0.mk (blk_below (g := gb935) (o := .cells #[.int .i64 t930, .slice Ao193 t931.length co193] 38 (0, 0)) (by (with_reducible repeat (first | refine blk_drewN ?_ _ | refine blk_drew ?_ | refine blk_alloc ?_ _)); refine blk_put (cs := #[.int .i64 t930, .slice none 0 0]) ?_ 1 _ rfl; (with_reducible repeat (first | refine blk_drewN ?_ _ | refine blk_drew ?_ | refine blk_alloc ?_ _)); refine blk_put (cs := #[.int .i64 0, .slice none 0 0]) ?_ 0 _ rfl; (with_reducible repeat (first | refine blk_drewN ?_ _ | refine blk_drew ?_ | refine blk_alloc ?_ _)); exact BK935.out) hb); replace HB := Aside0.mk (below_step (beQ HB) hb); (try clear hb); (try clear hb2); (try clear hk); (try clear hi)))
               go_meet
               case rel => exact ⟨_, ((t934 != t885)), sz, H', ⟨by have := HJ24.out; have := HJ107.out; first | omega | exact Nat.le_refl _⟩, ⟨by (try simp only [hl892001_107]); (try simp only [hl897001_107]); (with_reducible repeat (first | apply Kd.R_alloc | apply Kd.R_drewN | apply Kd.R_drew)); exact Kd.R_mono HO_887001.out (fun _ hk => ⟨hk.2.2.2.1, ⟨hk.2.2.2.2.1, ⟨hk.2.2.2.2.2, hk.2.2.1⟩⟩⟩)⟩, ⟨by (try simp only [hl892001_107]); (try simp only [hl897001_107]); (with_reducible repeat (first | apply Kd.R_alloc | apply Kd.R_drewN | apply Kd.R_drew)); exact Kd.R_mono HO_892001.out (fun _ hk => ⟨hk.2.2.2.1, ⟨hk.2.2.2.2.1, ⟨hk.2.2.2.2.2, hk.2.2.1⟩⟩⟩)⟩, ⟨by (try simp only [hl892001_107]); (try simp only [hl897001_107]); (with_reducible repeat (first | apply Kd.R_alloc | apply Kd.R_drewN | apply Kd.R_drew)); exact Kd.R_mono HO_897001.out (fun _ hk => ⟨hk.2.2.2.1, ⟨hk.2.2.2.2.1, ⟨hk.2.2.2.2.2, hk.2.2.1⟩⟩⟩)⟩, ⟨by (try simp only [hl892001_107]); (try simp only [hl897001_107]); (with_reducible repeat (first | apply Kd.R_alloc | apply Kd.R_drewN | apply Kd.R_drew)); exact Kd.R_mono HO_903001.out (fun _ hk => ⟨hk.2.2.2.1, ⟨hk.2.2.2.2.1, ⟨hk.2.2.2.2.2, hk.2.2.1⟩⟩⟩)⟩, ⟨by (try simp only [hl892001_107]); (try simp only [hl897001_107]); (with_reducible repeat (first | apply Kd.R_alloc | apply Kd.R_drewN | apply Kd.R_drew)); exact Kd.R_mono HO933.out (fun _ hk => ⟨hk.2.2.1, ⟨hk.2.2.2.1, ⟨hk.2.2.2.2.1, hk.2.2.2.2.2⟩⟩⟩)⟩, ⟨by (try simp only [hl892001_107]); (try simp only [hl897001_107]); (with_reducible repeat (first | refine blk_drewN ?_ _ | refine blk_drew ?_ | refine blk_alloc ?_ _)); exact BK869.out⟩, ⟨by (try simp only [hl892001_107]); (try simp only [hl897001_107]); (with_reducible repeat (first | refine blk_drewN ?_ _ | refine blk_drew ?_ | refine blk_alloc ?_ _)); exact BK870.out⟩, ⟨by (try simp only [hl892001_107]); (try simp only [hl897001_107]); (with_reducible repeat (first | refine blk_drewN ?_ _ | refine blk_drew ?_ | refine blk_alloc ?_ _)); exact BK886.out⟩, ⟨by (try simp only [hl892001_107]); (try simp only [hl897001_107]); (with_reducible repeat (first | refine blk_drewN ?_ _ | refine blk_drew ?_ | refine blk_alloc ?_ _)); exact BK891.out⟩, ⟨by (try simp only [hl892001_107]); (try simp only [hl897001_107]); (with_reducible repeat (first | refine blk_drewN ?_ _ | refine blk_drew ?_ | refine blk_alloc ?_ _)); exact BK896.out⟩, ⟨by (try simp only [hl892001_107]); (try simp only [hl897001_107]); (with_reducible repeat (first | refine blk_drewN ?_ _ | refine blk_drew ?_ | refine blk_alloc ?_ _)); exact BK902.out⟩, ⟨by (try simp only [hl892001_107]); (try simp only [hl897001_107]); (with_reducible repeat (first | refine blk_drewN ?_ _ | refine blk_drew ?_ | refine blk_alloc ?_ _)); exact BK935.out⟩, ⟨beQ HB⟩⟩
              ·replace c196 := Bool.eq_false_iff.mpr c196
               subst c196
               have H1 : (laws_FnExactFreeProduct.j2 kj107 t919 true t897 t920) = some r := by rw [if_neg (show ¬ (false = true) by decide)] at H; exact H
               clear H; have H := H1; clear H1
               have H' := Aside0.mk H
               clear H; have hnb211 := NB935_869.out; have hnc211 := NB869_935.out; have hnb212 := NB935_870.out; have hnc212 := NB870_935.out; have hnb213 := NB935_886.out; have hnc213 := NB886_935.out; have hnb214 := NB935_891.out; have hnc214 := NB891_935.out; have hnb215 := NB935_896.out; have hnc215 := NB896_935.out; have hnb216 := NB935_902.out; have hnc216 := NB902_935.out
               have hcz217_0 : w191.cell? ⟨gb935, 0, none⟩ = some (.int .i64 0) := bc BK935 0
               have hcz217_1 : w191.cell? ⟨gb935, 1, none⟩ = some (.slice none 0 0) := bc BK935 1
               have hfz217_0 := blk_frozen BK935.out 0; have hfz217_1 := blk_frozen BK935.out 1; have hnb218 := NB886_869.out; have hnc218 := NB869_886.out; have hnb219 := NB886_870.out; have hnc219 := NB870_886.out; have hnb220 := NB886_891.out; have hnc220 := NB891_886.out; have hnb221 := NB886_896.out; have hnc221 := NB896_886.out; have hnb222 := NB886_902.out; have hnc222 := NB902_886.out
               have hcz223_0 : w191.cell? ⟨gb886, 0, none⟩ = some (.int .i64 t881) := bc BK886 0
               have hcz223_1 : w191.cell? ⟨gb886, 1, none⟩ = some (.slice Ao42 t882.length co42) := bc BK886 1
               have hfz223_0 := blk_frozen BK886.out 0; have hfz223_1 := blk_frozen BK886.out 1
               go_wp2_with (first | ((with_reducible refine gate_callee (f := 26) rfl ?_); refine goesL_ (some 104) rfl rfl Tryd.func26 (by kernel_rfl) rfl #[.agg #[.int .i64 t930, .slice Ao193 t931.length co193], .agg #[.int .i64 t881, .slice Ao42 t882.length co42]] rfl lz ?_; (with_reducible refine (laws_eqAlphabet.calls kj107 t930 _ _ t931 t881 _ _ t882 false _ ?side1 ?side2 ?side3 ?side4 A195.out).mono ?_); (case side1 => refine (Kd.R_reads' (e := 2) (base := w.heap.size) (ok := fun k_ => (some k_ ≠ (v924 : Value).ownBlock ∧ (some k_ ≠ (v928 : Value).ownBlock ∧ (some k_ ≠ (.slice Ao42 t882.length co42 : Value).ownBlock ∧ (some k_ ≠ (.slice Ao52 t915.length co52 : Value).ownBlock ∧ (some k_ ≠ (.slice Ao62 t917.length co62 : Value).ownBlock ∧ some k_ ≠ (.slice Ao72 t898.length co72 : Value).ownBlock)))))) (n := t931.length) (c := co193) ?_).2.2; exact (by (with_reducible repeat (first | apply Kd.R_alloc | apply Kd.R_drewN | apply Kd.R_drew)); exact (Kd.R_mono (Kd.R_far (p := ⟨gb935, 1, none⟩) (Kd.R_far (p := ⟨gb935, 0, none⟩) (Kd.R_types HO933.out BK935.out (by decide)) (fun _ hk => hk.2) (.int .i64 t930)) (fun _ hk => hk.2) (.slice Ao193 t931.length co193)) (fun _ h_ => h_.1)))); (case side2 => exact (Kd.R_reads' HO933.out).2.1); (case side3 => refine (Kd.R_reads' (e := 2) (base := w.heap.size) (ok := fun k_ => (some k_ ≠ (v924 : Value).ownBlock ∧ (some k_ ≠ (v928 : Value).ownBlock ∧ (some k_ ≠ (.slice Ao193 t931.length co193 : Value).ownBlock ∧ (some k_ ≠ (.slice Ao52 t915.length co52 : Value).ownBlock ∧ (some k_ ≠ (.slice Ao62 t917.length co62 : Value).ownBlock ∧ some k_ ≠ (.slice Ao72 t898.length co72 : Value).ownBlock)))))) (n := t882.length) (c := co42) ?_).2.2; exact (by (with_reducible repeat (first | apply Kd.R_alloc | apply Kd.R_drewN | apply Kd.R_drew)); exact (Kd.R_mono (Kd.R_far (p := ⟨gb935, 1, none⟩) (Kd.R_far (p := ⟨gb935, 0, none⟩) (Kd.R_types HO_887001.out BK935.out (by decide)) (fun _ hk => hk.2) (.int .i64 t930)) (fun _ hk => hk.2) (.slice Ao193 t931.length co193)) (fun _ h_ => h_.1)))); (case side4 => exact (Kd.R_reads' HO_887001.out).2.1); rintro e w224 ⟨rfl, hb⟩; refine ⟨_, rfl, ?_⟩; replace HO_887001 := Aside0.mk (Kd.R_below (by (with_reducible repeat (first | apply Kd.R_alloc | apply Kd.R_drewN | apply Kd.R_drew)); exact (Kd.R_mono (Kd.R_far (p := ⟨gb935, 1, none⟩) (Kd.R_far (p := ⟨gb935, 0, none⟩) (Kd.R_types HO_887001.out BK935.out (by decide)) (fun _ hk => hk.2) (.int .i64 t930)) (fun _ hk => hk.2) (.slice Ao193 t931.length co193)) (fun _ h_ => h_.1))) hb); replace HO_892001 := Aside0.mk (Kd.R_below (by (with_reducible repeat (first | apply Kd.R_alloc | apply Kd.R_drewN | apply Kd.R_drew)); exact (Kd.R_mono (Kd.R_far (p := ⟨gb935, 1, none⟩) (Kd.R_far (p := ⟨gb935, 0, none⟩) (Kd.R_types HO_892001.out BK935.out (by decide)) (fun _ hk => hk.2) (.int .i64 t930)) (fun _ hk => hk.2) (.slice Ao193 t931.length co193)) (fun _ h_ => h_.1))) hb); replace HO_897001 := Aside0.mk (Kd.R_below (by (with_reducible repeat (first | apply Kd.R_alloc | apply Kd.R_drewN | apply Kd.R_drew)); exact (Kd.R_mono (Kd.R_far (p := ⟨gb935, 1, none⟩) (Kd.R_far (p := ⟨gb935, 0, none⟩) (Kd.R_types HO_897001.out BK935.out (by decide)) (fun _ hk => hk.2) (.int .i64 t930)) (fun _ hk => hk.2) (.slice Ao193 t931.length co193)) (fun _ h_ => h_.1))) hb); replace HO_903001 := Aside0.mk (Kd.R_below (by (with_reducible repeat (first | apply Kd.R_alloc | apply Kd.R_drewN | apply Kd.R_drew)); exact (Kd.R_mono (Kd.R_far (p := ⟨gb935, 1, none⟩) (Kd.R_far (p := ⟨gb935, 0, none⟩) (Kd.R_types HO_903001.out BK935.out (by decide)) (fun _ hk => hk.2) (.int .i64 t930)) (fun _ hk => hk.2) (.slice Ao193 t931.length co193)) (fun _ h_ => h_.1))) hb); replace HO925 := Aside0.mk (Kd.R_below (by (with_reducible repeat (first | apply Kd.R_alloc | apply Kd.R_drewN | apply Kd.R_drew)); exact (Kd.R_mono (Kd.R_far (p := ⟨gb935, 1, none⟩) (Kd.R_far (p := ⟨gb935, 0, none⟩) (Kd.R_types HO925.out BK935.out (by decide)) (fun _ hk => hk.2) (.int .i64 t930)) (fun _ hk => hk.2) (.slice Ao193 t931.length co193)) (fun _ h_ => h_.1))) hb); replace HO929 := Aside0.mk (Kd.R_below (by (with_reducible repeat (first | apply Kd.R_alloc | apply Kd.R_drewN | apply Kd.R_drew)); exact (Kd.R_mono (Kd.R_far (p := ⟨gb935, 1, none⟩) (Kd.R_far (p := ⟨gb935, 0, none⟩) (Kd.R_types HO929.out BK935.out (by decide)) (fun _ hk => hk.2) (.int .i64 t930)) (fun _ hk => hk.2) (.slice Ao193 t931.length co193)) (fun _ h_ => h_.1))) hb); replace HO933 := Aside0.mk (Kd.R_below (by (with_reducible repeat (first | apply Kd.R_alloc | apply Kd.R_drewN | apply Kd.R_drew)); exact (Kd.R_mono (Kd.R_far (p := ⟨gb935, 1, none⟩) (Kd.R_far (p := ⟨gb935, 0, none⟩) (Kd.R_types HO933.out BK935.out (by decide)) (fun _ hk => hk.2) (.int .i64 t930)) (fun _ hk => hk.2) (.slice Ao193 t931.length co193)) (fun _ h_ => h_.1))) hb); replace BK869 := Aside0.mk (blk_below (blkF BK869) hb); replace BK870 := Aside0.mk (blk_below (blkF BK870) hb); replace BK886 := Aside0.mk (blk_below (blkF BK886) hb); replace BK891 := Aside0.mk (blk_below (blkF BK891) hb); replace BK896 := Aside0.mk (blk_below (blkF BK896) hb); replace BK902 := Aside0.mk (blk_below (blkF BK902) hb); replace BK935 := Aside0.mk (blk_below (g := gb935) (o := .cells #[.int .i64 t930, .slice Ao193 t931.length co193] 38 (0, 0)) (by (with_reducible repeat (first | refine blk_drewN ?_ _ | refine blk_drew ?_ | refine blk_alloc ?_ _)); refine blk_put (cs := #[.int .i64 t930, .slice none 0 0]) ?_ 1 _ rfl; (with_reducible repeat (first | refine blk_drewN ?_ _ | refine blk_drew ?_ | refine blk_alloc ?_ _)); refine blk_put (cs := #[.int .i64 0, .slice none 0 0]) ?_ 0 _ rfl; (with_reducible repeat (first | refine blk_drewN ?_ _ | refine blk_drew ?_ | refine blk_alloc ?_ _)); exact BK935.out) hb); replace HB := Aside0.mk (below_step (beQ HB) hb); (try clear hb); (try clear hb2); (try clear hk); (try clear hi)))
               go_meet
               case rel => exact ⟨_, (true), sz, H', ⟨by have := HJ24.out; have := HJ107.out; first | omega | exact Nat.le_refl _⟩, ⟨by (try simp only [hl892001_107]); (try simp only [hl897001_107]); (with_reducible repeat (first | apply Kd.R_alloc | apply Kd.R_drewN | apply Kd.R_drew)); exact Kd.R_mono HO_887001.out (fun _ hk => ⟨hk.2.2.2.1, ⟨hk.2.2.2.2.1, ⟨hk.2.2.2.2.2, hk.2.2.1⟩⟩⟩)⟩, ⟨by (try simp only [hl892001_107]); (try simp only [hl897001_107]); (with_reducible repeat (first | apply Kd.R_alloc | apply Kd.R_drewN | apply Kd.R_drew)); exact Kd.R_mono HO_892001.out (fun _ hk => ⟨hk.2.2.2.1, ⟨hk.2.2.2.2.1, ⟨hk.2.2.2.2.2, hk.2.2.1⟩⟩⟩)⟩, ⟨by (try simp only [hl892001_107]); (try simp only [hl897001_107]); (with_reducible repeat (first | apply Kd.R_alloc | apply Kd.R_drewN | apply Kd.R_drew)); exact Kd.R_mono HO_897001.out (fun _ hk => ⟨hk.2.2.2.1, ⟨hk.2.2.2.2.1, ⟨hk.2.2.2.2.2, hk.2.2.1⟩⟩⟩)⟩, ⟨by (try simp only [hl892001_107]); (try simp only [hl897001_107]); (with_reducible repeat (first | apply Kd.R_alloc | apply Kd.R_drewN | apply Kd.R_drew)); exact Kd.R_mono HO_903001.out (fun _ hk => ⟨hk.2.2.2.1, ⟨hk.2.2.2.2.1, ⟨hk.2.2.2.2.2, hk.2.2.1⟩⟩⟩)⟩, ⟨by (try simp only [hl892001_107]); (try simp only [hl897001_107]); (with_reducible repeat (first | apply Kd.R_alloc | apply Kd.R_drewN | apply Kd.R_drew)); exact Kd.R_mono HO933.out (fun _ hk => ⟨hk.2.2.1, ⟨hk.2.2.2.1, ⟨hk.2.2.2.2.1, hk.2.2.2.2.2⟩⟩⟩)⟩, ⟨by (try simp only [hl892001_107]); (try simp only [hl897001_107]); (with_reducible repeat (first | refine blk_drewN ?_ _ | refine blk_drew ?_ | refine blk_alloc ?_ _)); exact BK869.out⟩, ⟨by (try simp only [hl892001_107]); (try simp only [hl897001_107]); (with_reducible repeat (first | refine blk_drewN ?_ _ | refine blk_drew ?_ | refine blk_alloc ?_ _)); exact BK870.out⟩, ⟨by (try simp only [hl892001_107]); (try simp only [hl897001_107]); (with_reducible repeat (first | refine blk_drewN ?_ _ | refine blk_drew ?_ | refine blk_alloc ?_ _)); exact BK886.out⟩, ⟨by (try simp only [hl892001_107]); (try simp only [hl897001_107]); (with_reducible repeat (first | refine blk_drewN ?_ _ | refine blk_drew ?_ | refine blk_alloc ?_ _)); exact BK891.out⟩, ⟨by (try simp only [hl892001_107]); (try simp only [hl897001_107]); (with_reducible repeat (first | refine blk_drewN ?_ _ | refine blk_drew ?_ | refine blk_alloc ?_ _)); exact BK896.out⟩, ⟨by (try simp only [hl892001_107]); (try simp only [hl897001_107]); (with_reducible repeat (first | refine blk_drewN ?_ _ | refine blk_drew ?_ | refine blk_alloc ?_ _)); exact BK902.out⟩, ⟨by (try simp only [hl892001_107]); (try simp only [hl897001_107]); (with_reducible repeat (first | refine blk_drewN ?_ _ | refine blk_drew ?_ | refine blk_alloc ?_ _)); exact BK935.out⟩, ⟨beQ HB⟩⟩
             case rest =>
              clear HC174
              try clear c1
              try clear c2
              try clear p2
              try clear c3
              try clear c4
              try clear c19
              try clear c20
              try clear c21
              try clear c22
              try clear c26
              try clear c37
              try clear c46
              try clear c196
              try clear c197
              try clear c198
              try clear c199
              try clear c200
              try clear c201
              try clear c202
              try clear c204
              try clear c205
              try clear c206
              try clear c207
              try clear c208
              try clear c211
              try clear c212
              try clear c213
              try clear c214
              try clear c215
              try clear c216
              try clear c218
              try clear c219
              try clear c220
              try clear c221
              try clear c222
              try clear hcz203_0
              try clear hcz203_1
              try clear hcz209_0
              try clear hcz209_1
              try clear hcz217_0
              try clear hcz217_1
              try clear hcz223_0
              try clear hcz223_1
              try clear hfz203_0
              try clear hfz203_1
              try clear hfz209_0
              try clear hfz209_1
              try clear hfz217_0
              try clear hfz217_1
              try clear hfz223_0
              try clear hfz223_1
              obtain ⟨kq, x110_173, rfl, HA, HJ173, HO_887001, HO_892001, HO_897001, HO_903001, HO_936001, BK869, BK870, BK886, BK891, BK896, BK902, BK935, HB⟩ := hcut; have hl903001_173 := (Kd.R_reads' HO_903001.out).1; rw [hl903001_173] at HO_903001
              (try simp only [hl903001_173])
              (try simp only [hl903001_173] at BK869)
              (try simp only [hl903001_173] at BK870)
              (try simp only [hl903001_173] at BK886)
              (try simp only [hl903001_173] at BK891)
              (try simp only [hl903001_173] at BK896)
              (try simp only [hl903001_173] at BK902)
              (try simp only [hl903001_173] at BK935)
              (try simp only [hl903001_173] at HO_887001)
              (try simp only [hl903001_173] at HO_892001)
              (try simp only [hl903001_173] at HO_897001)
              (try simp only [hl903001_173] at HO_936001)
              cases kq with
              | zero => exact absurd HA.out (by simp [laws_FnExactFreeProduct.j2])
              | succ kj173 =>
               have H := HA.out; clear HA
               simp only [laws_FnExactFreeProduct.j2] at H
               by_cases c225 : x110_173 = true
               ·subst c225
                have H1 : (some false) = some r := by rw [if_pos rfl] at H; exact H
                clear H; have H := H1; clear H1
                obtain rfl := Option.some.inj H
                go_wp2
                go_ret
                exact ⟨rz, beQ HB⟩
               ·replace c225 := Bool.eq_false_iff.mpr c225
                subst c225
                have H1 : ((laws_heldAlphabet.f kj173 t897 t920 1).bind fun t937 => (if t937 < 0 then (some false) else (if t937 = t919 then (some true) else (some false)))) = some r := by rw [if_neg (show ¬ (false = true) by decide)] at H; exact H
                clear H; have H := H1; clear H1; replace H := Option.bind_eq_some_iff.mp H; obtain ⟨t937, A2260, H⟩ := H
                replace H : (if t937 < 0 then (some false) else (if t937 = t919 then (some true) else (some false))) = some r := H
                have A226 := Aside0.mk A2260; clear A2260
                by_cases c227 : t937 < 0
                ·rw [if_pos c227] at H
                 have c227b0 : decide (t937 < 0) = true := decide_eq_true c227
                 clear c227
                 obtain rfl := Option.some.inj H
                 have hnb228 := NB902_869.out; have hnc228 := NB869_902.out; have hnb229 := NB902_870.out; have hnc229 := NB870_902.out; have hnb230 := NB902_886.out; have hnc230 := NB886_902.out; have hnb231 := NB902_891.out; have hnc231 := NB891_902.out; have hnb232 := NB902_896.out; have hnc232 := NB896_902.out; have hnb233 := NB902_935.out; have hnc233 := NB935_902.out
                 have hcz234_0 : wc.cell? ⟨gb902, 0, none⟩ = some (.int .i64 t897) := bc BK902 0
                 have hcz234_1 : wc.cell? ⟨gb902, 1, none⟩ = some (.slice Ao72 t920.length co72) := bc BK902 1
                 have hfz234_0 := blk_frozen BK902.out 0; have hfz234_1 := blk_frozen BK902.out 1
                 go_wp2_with (first | ((with_reducible refine gate_callee (f := 29) rfl ?_); refine goesL_ (some 113) rfl rfl Tryd.func29 (by kernel_rfl) rfl #[.agg #[.int .i64 t897, .slice Ao72 t920.length co72], .int .i64 1] rfl lz ?_; (with_reducible refine (laws_heldAlphabet.calls kj173 t897 _ _ t920 1 t937 _ ?side1 ?side2 A226.out).mono ?_); (case side1 => have q_ := Aside0.mk (Kd.R_reads' HO_903001.out).2.2; exact cQ q_); (case side2 => exact (Kd.R_reads' HO_903001.out).2.1); rintro e w235 ⟨rfl, hb⟩; refine ⟨_, rfl, ?_⟩; replace HO_887001 := kb HO_887001 hb; replace HO_892001 := kb HO_892001 hb; replace HO_897001 := kb HO_897001 hb; replace HO_903001 := kb HO_903001 hb; replace HO_936001 := kb HO_936001 hb; replace BK869 := bb BK869 hb; replace BK870 := bb BK870 hb; replace BK886 := bb BK886 hb; replace BK891 := bb BK891 hb; replace BK896 := bb BK896 hb; replace BK902 := bb BK902 hb; replace BK935 := bb BK935 hb; replace HB := Aside0.mk (below_step (beQ HB) hb); (try clear hb); (try clear hb2); (try clear hk); (try clear hi)))
                 go_ret
                 exact ⟨rz, beQ HB⟩
                ·rw [if_neg c227] at H
                 have c227b0 : decide (t937 < 0) = false := decide_eq_false c227
                 clear c227
                 by_cases c236 : t937 = t919
                 ·rw [if_pos c236] at H
                  have c236b0 : (t937 == t919) = true := beq_iff_eq.mpr c236
                  have c236b1 : (t937 != t919) = false := bne_eq_false_iff_eq.mpr c236
                  clear c236
                  obtain rfl := Option.some.inj H
                  have hnb237 := NB902_869.out; have hnc237 := NB869_902.out; have hnb238 := NB902_870.out; have hnc238 := NB870_902.out; have hnb239 := NB902_886.out; have hnc239 := NB886_902.out; have hnb240 := NB902_891.out; have hnc240 := NB891_902.out; have hnb241 := NB902_896.out; have hnc241 := NB896_902.out; have hnb242 := NB902_935.out; have hnc242 := NB935_902.out
                  have hcz243_0 : wc.cell? ⟨gb902, 0, none⟩ = some (.int .i64 t897) := bc BK902 0
                  have hcz243_1 : wc.cell? ⟨gb902, 1, none⟩ = some (.slice Ao72 t920.length co72) := bc BK902 1
                  have hfz243_0 := blk_frozen BK902.out 0; have hfz243_1 := blk_frozen BK902.out 1
                  go_wp2_with (first | ((with_reducible refine gate_callee (f := 29) rfl ?_); refine goesL_ (some 113) rfl rfl Tryd.func29 (by kernel_rfl) rfl #[.agg #[.int .i64 t897, .slice Ao72 t920.length co72], .int .i64 1] rfl lz ?_; (with_reducible refine (laws_heldAlphabet.calls kj173 t897 _ _ t920 1 t937 _ ?side1 ?side2 A226.out).mono ?_); (case side1 => have q_ := Aside0.mk (Kd.R_reads' HO_903001.out).2.2; exact cQ q_); (case side2 => exact (Kd.R_reads' HO_903001.out).2.1); rintro e w244 ⟨rfl, hb⟩; refine ⟨_, rfl, ?_⟩; replace HO_887001 := kb HO_887001 hb; replace HO_892001 := kb HO_892001 hb; replace HO_897001 := kb HO_897001 hb; replace HO_903001 := kb HO_903001 hb; replace HO_936001 := kb HO_936001 hb; replace BK869 := bb BK869 hb; replace BK870 := bb BK870 hb; replace BK886 := bb BK886 hb; replace BK891 := bb BK891 hb; replace BK896 := bb BK896 hb; replace BK902 := bb BK902 hb; replace BK935 := bb BK935 hb; replace HB := Aside0.mk (below_step (beQ HB) hb); (try clear hb); (try clear hb2); (try clear hk); (try clear hi)))
                  go_ret
                  exact ⟨rz, beQ HB⟩
                 ·rw [if_neg c236] at H
                  have c236b0 : (t937 == t919) = false := beq_eq_false_iff_ne.mpr c236
                  have c236b1 : (t937 != t919) = true := bne_iff_ne.mpr c236
                  obtain rfl := Option.some.inj H
                  have hnb245 := NB902_869.out; have hnc245 := NB869_902.out; have hnb246 := NB902_870.out; have hnc246 := NB870_902.out; have hnb247 := NB902_886.out; have hnc247 := NB886_902.out; have hnb248 := NB902_891.out; have hnc248 := NB891_902.out; have hnb249 := NB902_896.out; have hnc249 := NB896_902.out; have hnb250 := NB902_935.out; have hnc250 := NB935_902.out
                  have hcz251_0 : wc.cell? ⟨gb902, 0, none⟩ = some (.int .i64 t897) := bc BK902 0
                  have hcz251_1 : wc.cell? ⟨gb902, 1, none⟩ = some (.slice Ao72 t920.length co72) := bc BK902 1
                  have hfz251_0 := blk_frozen BK902.out 0; have hfz251_1 := blk_frozen BK902.out 1
                  go_wp2_with (first | ((with_reducible refine gate_callee (f := 29) rfl ?_); refine goesL_ (some 113) rfl rfl Tryd.func29 (by kernel_rfl) rfl #[.agg #[.int .i64 t897, .slice Ao72 t920.length co72], .int .i64 1] rfl lz ?_; (with_reducible refine (laws_heldAlphabet.calls kj173 t897 _ _ t920 1 t937 _ ?side1 ?side2 A226.out).mono ?_); (case side1 => have q_ := Aside0.mk (Kd.R_reads' HO_903001.out).2.2; exact cQ q_); (case side2 => exact (Kd.R_reads' HO_903001.out).2.1); rintro e w252 ⟨rfl, hb⟩; refine ⟨_, rfl, ?_⟩; replace HO_887001 := kb HO_887001 hb; replace HO_892001 := kb HO_892001 hb; replace HO_897001 := kb HO_897001 hb; replace HO_903001 := kb HO_903001 hb; replace HO_936001 := kb HO_936001 hb; replace BK869 := bb BK869 hb; replace BK870 := bb BK870 hb; replace BK886 := bb BK886 hb; replace BK891 := bb BK891 hb; replace BK896 := bb BK896 hb; replace BK902 := bb BK902 hb; replace BK935 := bb BK935 hb; replace HB := Aside0.mk (below_step (beQ HB) hb); (try clear hb); (try clear hb2); (try clear hk); (try clear hi)))
                  go_ret
                  exact ⟨rz, beQ HB⟩
            ·rw [if_neg c170] at H
             have c170b0 : (t921 == t919) = false := beq_eq_false_iff_ne.mpr c170
             have c170b1 : (t921 != t919) = true := bne_iff_ne.mpr c170
             obtain rfl := Option.some.inj H
             have hnb253 := NB902_869.out; have hnc253 := NB869_902.out; have hnb254 := NB902_870.out; have hnc254 := NB870_902.out; have hnb255 := NB902_886.out; have hnc255 := NB886_902.out; have hnb256 := NB902_891.out; have hnc256 := NB891_902.out; have hnb257 := NB902_896.out; have hnc257 := NB896_902.out
             have hcz258_0 : wc.cell? ⟨gb902, 0, none⟩ = some (.int .i64 t897) := bc BK902 0
             have hcz258_1 : wc.cell? ⟨gb902, 1, none⟩ = some (.slice Ao72 t898.length co72) := bc BK902 1
             have hfz258_0 := blk_frozen BK902.out 0; have hfz258_1 := blk_frozen BK902.out 1
             go_wp2_with (first | ((with_reducible refine gate_callee (f := 28) rfl ?_); refine goesL_ (some 85) rfl rfl Tryd.func28 (by kernel_rfl) rfl #[.agg #[.int .i64 t897, .slice Ao72 t898.length co72], .int .i64 1] rfl lz ?_; (with_reducible refine (laws_markAlphabet.calls kj107 t897 (fun k_ => some k_ = (.slice Ao72 t898.length co72 : Value).ownBlock) (.slice Ao72 t898.length co72) t898 1 t919 t920 w _ ?side1 ?side2 A158.out).mono ?_); (case side1 => repeat (first | (with_reducible first | exact HB.out | apply below_alloc | apply pw_below_drewN | apply below_drew1 | refine below_set ?_ GE869.out | refine below_set ?_ GE870.out | refine below_set ?_ GE886.out | refine below_set ?_ GE891.out | refine below_set ?_ GE896.out | refine below_set ?_ GE902.out) | exact HB.out)); (case side2 => exact Kd.R_tight rfl HO_903001.out); rintro e w259 ⟨rfl, hy0, hb, hkp⟩; refine ⟨_, rfl, ?_⟩; replace HO_887001 := Aside0.mk (Kd.R_mono (ok' := fun k_ => some k_ ≠ (.slice Ao52 t915.length co52 : Value).ownBlock ∧ some k_ ≠ (.slice Ao62 t917.length co62 : Value).ownBlock ∧ some k_ ≠ (.slice Ao72 t898.length co72 : Value).ownBlock) (Kd.R_keptB (HO_887001.out) hkp (fun k_ hk_ hs_ => (hk_.2.2) hs_)) (fun k_ hk_ => ⟨hk_.1.1, hk_.1.2.1, hk_.1.2.2⟩)); replace HO_892001 := Aside0.mk (Kd.R_mono (ok' := fun k_ => some k_ ≠ (.slice Ao42 t882.length co42 : Value).ownBlock ∧ some k_ ≠ (.slice Ao62 t917.length co62 : Value).ownBlock ∧ some k_ ≠ (.slice Ao72 t898.length co72 : Value).ownBlock) (Kd.R_keptB (HO_892001.out) hkp (fun k_ hk_ hs_ => (hk_.2.2) hs_)) (fun k_ hk_ => ⟨hk_.1.1, hk_.1.2.1, hk_.1.2.2⟩)); replace HO_897001 := Aside0.mk (Kd.R_mono (ok' := fun k_ => some k_ ≠ (.slice Ao42 t882.length co42 : Value).ownBlock ∧ some k_ ≠ (.slice Ao52 t915.length co52 : Value).ownBlock ∧ some k_ ≠ (.slice Ao72 t898.length co72 : Value).ownBlock) (Kd.R_keptB (HO_897001.out) hkp (fun k_ hk_ hs_ => (hk_.2.2) hs_)) (fun k_ hk_ => ⟨hk_.1.1, hk_.1.2.1, hk_.1.2.2⟩)); replace BK869 := Aside0.mk (blk_kept (blkQ BK869) hkp (fun hs_ => (fun e_ => (Kd.R_ne HO_903001.out BK869.out (by decide)) e_) hs_)); replace BK870 := Aside0.mk (blk_kept (blkQ BK870) hkp (fun hs_ => (fun e_ => (Kd.R_ne HO_903001.out BK870.out (by decide)) e_) hs_)); replace BK886 := Aside0.mk (blk_kept (blkQ BK886) hkp (fun hs_ => (fun e_ => (Kd.R_ne HO_903001.out BK886.out (by decide)) e_) hs_)); replace BK891 := Aside0.mk (blk_kept (blkQ BK891) hkp (fun hs_ => (fun e_ => (Kd.R_ne HO_903001.out BK891.out (by decide)) e_) hs_)); replace BK896 := Aside0.mk (blk_kept (blkQ BK896) hkp (fun hs_ => (fun e_ => (Kd.R_ne HO_903001.out BK896.out (by decide)) e_) hs_)); replace BK902 := Aside0.mk (blk_kept (blkQ BK902) hkp (fun hs_ => (fun e_ => (Kd.R_ne HO_903001.out BK902.out (by decide)) e_) hs_)); replace HO_903001 := Aside0.mk (Kd.R_reok rfl hy0 (fun k_ e_ => HO_903001.out.1 k_ e_)); replace HB := Aside0.mk (hb); (try clear hb); (try clear hkp); (try clear hy0); have hcz260_0 : w259.cell? ⟨gb902, 0, none⟩ = some (.int .i64 t897) := bc BK902 0; have hcz260_1 : w259.cell? ⟨gb902, 1, none⟩ = some (.slice Ao72 t898.length co72) := bc BK902 1; have hfz260_0 := blk_frozen BK902.out 0; have hfz260_1 := blk_frozen BK902.out 1) | ((with_reducible refine gate_callee (f := 29) rfl ?_); refine goesL_ (some 88) rfl rfl Tryd.func29 (by kernel_rfl) rfl #[.agg #[.int .i64 t897, .slice Ao72 t920.length co72], .int .i64 1] rfl (by (try simp only [List.map_toArray, List.map_cons, List.map_nil]); first | done | (rw [show t920.length = t898.length from (Kd.R_reads' HO_903001.out).1.symm] <;> rfl) | rfl | (simp only [List.length_drop, List.length_take]; rfl)) ?_; (with_reducible refine (laws_heldAlphabet.calls kj107 t897 _ _ t920 1 t921 _ ?side1 ?side2 A159.out).mono ?_); (case side1 => have q_ := Aside0.mk (Kd.R_reads' HO_903001.out).2.2; exact cQ q_); (case side2 => rw [show t920.length = t898.length from (Kd.R_reads' HO_903001.out).1.symm]; exact (Kd.R_reads' HO_903001.out).2.1); rintro e w261 ⟨rfl, hb⟩; refine ⟨_, rfl, ?_⟩; replace HO_887001 := kb HO_887001 hb; replace HO_892001 := kb HO_892001 hb; replace HO_897001 := kb HO_897001 hb; replace HO_903001 := kb HO_903001 hb; replace BK869 := bb BK869 hb; replace BK870 := bb BK870 hb; replace BK886 := bb BK886 hb; replace BK891 := bb BK891 hb; replace BK896 := bb BK896 hb; replace BK902 := bb BK902 hb; replace HB := Aside0.mk (below_step (beQ HB) hb); (try clear hb); (try clear hb2); (try clear hk); (try clear hi)))
             go_ret
             exact ⟨rz, beQ HB⟩
       ·replace c105 := Bool.eq_false_iff.mpr c105
        subst c105
        have H1 : (some false) = some r := by rw [if_neg (show ¬ (false = true) by decide)] at H; exact H
        clear H; have H := H1; clear H1
        obtain rfl := Option.some.inj H
        try go_wp2
        replace HO_887001 := Aside0.mk (Kd.R_drew HO_887001.out); replace HO_892001 := Aside0.mk (Kd.R_drew HO_892001.out); replace HO_897001 := Aside0.mk (Kd.R_drew HO_897001.out); replace HO_903001 := Aside0.mk (Kd.R_drew HO_903001.out); replace BK869 := Aside0.mk (blk_drew BK869.out); replace BK870 := Aside0.mk (blk_drew BK870.out); replace BK886 := Aside0.mk (blk_drew BK886.out); replace BK891 := Aside0.mk (blk_drew BK891.out); replace BK896 := Aside0.mk (blk_drew BK896.out); replace BK902 := Aside0.mk (blk_drew BK902.out); replace HB := Aside0.mk (below_drew1 HB.out)
        refine start_ (n := 5) (S := fun w' => w'.cell? ⟨gb891, 0, none⟩ = some (.int .i64 t887) ∧ w'.cell? ⟨gb891, 1, none⟩ = some (.slice Ao52 t888.length co52) ∧ w'.cell? ⟨gb869, 0, none⟩ = some (.int .i64 a0_0) ∧ w'.cell? ⟨gb869, 1, none⟩ = some (.slice A0_1 l0_1.length c0_1)) (ds := []) #[false, false, false, false, false] (by kernel_rfl) rfl rfl ⟨bc BK891 0, bc BK891 1, bc BK869 0, bc BK869 1⟩ (fun hHeld => ?_)
        generalize wc.drew = w262 at HO_887001 HO_892001 HO_897001 HO_903001 BK869 BK870 BK886 BK891 BK896 BK902 HB hHeld ⊢
        refine take_ (i := 0) (N := some 54) (v := ?_) (a' := ?_) #[true, false, false, false, false] rfl rfl (by kernel_rfl) (fun _ _ _ h => h) (Or.inl ⟨by rfl, ?_⟩) hHeld ?_ ?_
        rotate_left
        ·rintro w' ⟨s0, s1, s2, s3⟩
         go_simp
         with_reducible rfl
        rotate_left
        ·simp only [Act.put, s1, s2, s3, i64_w, i32_w]
         rfl
        refine take_ (i := 1) (N := some 55) (v := ?_) (a' := ?_) #[true, true, false, false, false] rfl rfl (by kernel_rfl) (fun _ _ _ h => h) (Or.inl ⟨by rfl, ?_⟩) hHeld ?_ ?_
        rotate_left
        ·rintro w' ⟨s0, s1, s2, s3⟩
         go_simp
         with_reducible rfl
        rotate_left
        ·simp only [Act.put, s1, s2, s3, i64_w, i32_w]
         rfl
        refine one_ (i := 2) (N := some 56) #[true, true, true, false, false] rfl rfl (by kernel_rfl) (by decide) (fun K hK => ?_)
        refine goes_ Tryd.func37 (by kernel_rfl) rfl #[.agg #[.int .i64 a0_0, .slice A0_1 l0_1.length c0_1]] (by rfl) rfl rfl lz ?_
        with_reducible refine (laws_toAlphabet.calls kj24 a0_0 _ _ l0_1 t904 t905 _ ?side1 ?side2 A100.out).mono ?_
        (case side1 => have q_ := Aside0.mk (Kd.C_below HR0_1.out HB.out); exact cQ q_)
        (case side2 => exact HC0_1.out)
        rintro e w263 ⟨v906, rfl, ho0, hb⟩
        refine ⟨_, rfl, ?_⟩
        have HO907 := Aside0.mk (Kd.R_lower (Kd.R_new' (Kd.R_new' (Kd.R_new' (Kd.R_new' ho0 (Kd.R_lt (kdQ HO_887001))) (Kd.R_lt (kdQ HO_892001))) (Kd.R_lt (kdQ HO_897001))) (Kd.R_lt (kdQ HO_903001))) (below_size (beQ HB))); replace HO_887001 := Aside0.mk (Kd.R_elder' (kdQ HO_887001) (Kd.R_base ho0) hb); replace HO_892001 := Aside0.mk (Kd.R_elder' (kdQ HO_892001) (Kd.R_base ho0) hb); replace HO_897001 := Aside0.mk (Kd.R_elder' (kdQ HO_897001) (Kd.R_base ho0) hb); replace HO_903001 := Aside0.mk (Kd.R_elder' (kdQ HO_903001) (Kd.R_base ho0) hb); replace BK869 := bb BK869 hb; replace BK870 := bb BK870 hb; replace BK886 := bb BK886 hb; replace BK891 := bb BK891 hb; replace BK896 := bb BK896 hb; replace BK902 := bb BK902 hb; replace HB := Aside0.mk (below_step (beQ HB) hb)
        (try clear hb)
        (try clear hb2)
        (try clear hk)
        (try clear hi)
        (try clear ho0)
        obtain ⟨Ao264, co264, eo264⟩ := Kd.R_slice HO907.out
        (first | subst eo264 | (injection eo264 with f1_ f2_ f3_; have f4_ := f1_.symm; have f5_ := f3_.symm; clear f1_ f2_ f3_; subst f4_; subst f5_))
        refine hK.out _ _ ⟨bc BK891 0, bc BK891 1, bc BK869 0, bc BK869 1⟩ (fun hHeld => ?_)
        clear hK K
        refine norm_ (a' := ?_) ?_ ?_
        rotate_left
        ·show Act.put _ (some 56) _ = _
         simp only [Act.put, s1, s2, s3, i64_w, i32_w]
         rfl
        refine one_ (i := 3) (N := some 57) #[true, true, true, true, false] rfl rfl (by kernel_rfl) (by decide) (fun K hK => ?_)
        refine goes_ Tryd.func26 (by kernel_rfl) rfl #[.agg #[.int .i64 t887, .slice Ao52 t888.length co52], .agg #[.int .i64 t904, .slice Ao264 t905.length co264]] (by rfl) rfl rfl lz ?_
        with_reducible refine (laws_eqAlphabet.calls kj24 t887 _ _ t888 t904 _ _ t905 true _ ?side1 ?side2 ?side3 ?side4 A101.out).mono ?_
        (case side1 => have q_ := Aside0.mk (Kd.R_reads' HO_892001.out).2.2; exact cQ q_)
        (case side2 => exact (Kd.R_reads' HO_892001.out).2.1)
        (case side3 => have q_ := Aside0.mk (Kd.R_reads' HO907.out).2.2; exact cQ q_)
        (case side4 => exact (Kd.R_reads' HO907.out).2.1)
        rintro e w265 ⟨rfl, hb⟩
        refine ⟨_, rfl, ?_⟩
        replace HO_887001 := kb HO_887001 hb; replace HO_892001 := kb HO_892001 hb; replace HO_897001 := kb HO_897001 hb; replace HO_903001 := kb HO_903001 hb; replace HO907 := kb HO907 hb; replace BK869 := bb BK869 hb; replace BK870 := bb BK870 hb; replace BK886 := bb BK886 hb; replace BK891 := bb BK891 hb; replace BK896 := bb BK896 hb; replace BK902 := bb BK902 hb; replace HB := Aside0.mk (below_step (beQ HB) hb)
        (try clear hb)
        (try clear hb2)
        (try clear hk)
        (try clear hi)
        refine hK.out _ _ ⟨bc BK891 0, bc BK891 1, bc BK869 0, bc BK869 1⟩ (fun hHeld => ?_)
        clear hK K
        refine norm_ (a' := ?_) ?_ ?_
        rotate_left
        ·show Act.put _ (some 57) _ = _
         simp only [Act.put, s1, s2, s3, i64_w, i32_w]
         rfl
        refine pure_ (i := 4) (N := some 58) (v := ?_) (a' := ?_) #[true, true, true, true, true] rfl rfl (by kernel_rfl) (fun _ _ _ h => h) (Or.inl ⟨by rfl, ?_⟩) ?_ ?_
        rotate_left
        ·intro w'
         go_simp
         with_reducible rfl
        rotate_left
        ·simp only [Act.put, s1, s2, s3, i64_w, i32_w]
         rfl
        refine done_ (by kernel_rfl) ?_
        try go_wp2
        replace HO_887001 := Aside0.mk (Kd.R_drew HO_887001.out); replace HO_892001 := Aside0.mk (Kd.R_drew HO_892001.out); replace HO_897001 := Aside0.mk (Kd.R_drew HO_897001.out); replace HO_903001 := Aside0.mk (Kd.R_drew HO_903001.out); replace HO907 := Aside0.mk (Kd.R_drew HO907.out); replace BK869 := Aside0.mk (blk_drew BK869.out); replace BK870 := Aside0.mk (blk_drew BK870.out); replace BK886 := Aside0.mk (blk_drew BK886.out); replace BK891 := Aside0.mk (blk_drew BK891.out); replace BK896 := Aside0.mk (blk_drew BK896.out); replace BK902 := Aside0.mk (blk_drew BK902.out); replace HB := Aside0.mk (below_drew1 HB.out)
        refine start_ (n := 5) (S := fun w' => w'.cell? ⟨gb896, 0, none⟩ = some (.int .i64 t892) ∧ w'.cell? ⟨gb896, 1, none⟩ = some (.slice Ao62 t893.length co62) ∧ w'.cell? ⟨gb870, 0, none⟩ = some (.int .i64 a1_0) ∧ w'.cell? ⟨gb870, 1, none⟩ = some (.slice A1_1 l1_1.length c1_1)) (ds := []) #[false, false, false, false, false] (by kernel_rfl) rfl rfl ⟨bc BK896 0, bc BK896 1, bc BK870 0, bc BK870 1⟩ (fun hHeld => ?_)
        generalize w265.drew = w266 at HO_887001 HO_892001 HO_897001 HO_903001 HO907 BK869 BK870 BK886 BK891 BK896 BK902 HB hHeld ⊢
        refine take_ (i := 0) (N := some 59) (v := ?_) (a' := ?_) #[true, false, false, false, false] rfl rfl (by kernel_rfl) (fun _ _ _ h => h) (Or.inl ⟨by rfl, ?_⟩) hHeld ?_ ?_
        rotate_left
        ·rintro w' ⟨s0, s1, s2, s3⟩
         go_simp
         with_reducible rfl
        rotate_left
        ·simp only [Act.put, s1, s2, s3, i64_w, i32_w]
         rfl
        refine take_ (i := 1) (N := some 60) (v := ?_) (a' := ?_) #[true, true, false, false, false] rfl rfl (by kernel_rfl) (fun _ _ _ h => h) (Or.inl ⟨by rfl, ?_⟩) hHeld ?_ ?_
        rotate_left
        ·rintro w' ⟨s0, s1, s2, s3⟩
         go_simp
         with_reducible rfl
        rotate_left
        ·simp only [Act.put, s1, s2, s3, i64_w, i32_w]
         rfl
        refine one_ (i := 2) (N := some 61) #[true, true, true, false, false] rfl rfl (by kernel_rfl) (by decide) (fun K hK => ?_)
        refine goes_ Tryd.func37 (by kernel_rfl) rfl #[.agg #[.int .i64 a1_0, .slice A1_1 l1_1.length c1_1]] (by rfl) rfl rfl lz ?_
        with_reducible refine (laws_toAlphabet.calls kj24 a1_0 _ _ l1_1 t909 t910 _ ?side1 ?side2 A103.out).mono ?_
        (case side1 => have q_ := Aside0.mk (Kd.C_below HR1_1.out HB.out); exact cQ q_)
        (case side2 => exact HC1_1.out)
        rintro e w267 ⟨v911, rfl, ho0, hb⟩
        refine ⟨_, rfl, ?_⟩
        have HO912 := Aside0.mk (Kd.R_lower (Kd.R_new' (Kd.R_new' (Kd.R_new' (Kd.R_new' (Kd.R_new' ho0 (Kd.R_lt (kdQ HO_887001))) (Kd.R_lt (kdQ HO_892001))) (Kd.R_lt (kdQ HO_897001))) (Kd.R_lt (kdQ HO_903001))) (Kd.R_lt (kdQ HO907))) (below_size (beQ HB))); replace HO_887001 := Aside0.mk (Kd.R_elder' (kdQ HO_887001) (Kd.R_base ho0) hb); replace HO_892001 := Aside0.mk (Kd.R_elder' (kdQ HO_892001) (Kd.R_base ho0) hb); replace HO_897001 := Aside0.mk (Kd.R_elder' (kdQ HO_897001) (Kd.R_base ho0) hb); replace HO_903001 := Aside0.mk (Kd.R_elder' (kdQ HO_903001) (Kd.R_base ho0) hb); replace HO907 := Aside0.mk (Kd.R_elder' (kdQ HO907) (Kd.R_base ho0) hb); replace BK869 := bb BK869 hb; replace BK870 := bb BK870 hb; replace BK886 := bb BK886 hb; replace BK891 := bb BK891 hb; replace BK896 := bb BK896 hb; replace BK902 := bb BK902 hb; replace HB := Aside0.mk (below_step (beQ HB) hb)
        (try clear hb)
        (try clear hb2)
        (try clear hk)
        (try clear hi)
        (try clear ho0)
        obtain ⟨Ao268, co268, eo268⟩ := Kd.R_slice HO912.out
        (first | subst eo268 | (injection eo268 with f1_ f2_ f3_; have f4_ := f1_.symm; have f5_ := f3_.symm; clear f1_ f2_ f3_; subst f4_; subst f5_))
        refine hK.out _ _ ⟨bc BK896 0, bc BK896 1, bc BK870 0, bc BK870 1⟩ (fun hHeld => ?_)
        clear hK K
        refine norm_ (a' := ?_) ?_ ?_
        rotate_left
        ·show Act.put _ (some 61) _ = _
         simp only [Act.put, s1, s2, s3, i64_w, i32_w]
         rfl
        refine one_ (i := 3) (N := some 62) #[true, true, true, true, false] rfl rfl (by kernel_rfl) (by decide) (fun K hK => ?_)
        refine goes_ Tryd.func26 (by kernel_rfl) rfl #[.agg #[.int .i64 t892, .slice Ao62 t893.length co62], .agg #[.int .i64 t909, .slice Ao268 t910.length co268]] (by rfl) rfl rfl lz ?_
        with_reducible refine (laws_eqAlphabet.calls kj24 t892 _ _ t893 t909 _ _ t910 false _ ?side1 ?side2 ?side3 ?side4 A104.out).mono ?_
        (case side1 => have q_ := Aside0.mk (Kd.R_reads' HO_897001.out).2.2; exact cQ q_)
        (case side2 => exact (Kd.R_reads' HO_897001.out).2.1)
        (case side3 => have q_ := Aside0.mk (Kd.R_reads' HO912.out).2.2; exact cQ q_)
        (case side4 => exact (Kd.R_reads' HO912.out).2.1)
        rintro e w269 ⟨rfl, hb⟩
        refine ⟨_, rfl, ?_⟩
        replace HO_887001 := kb HO_887001 hb; replace HO_892001 := kb HO_892001 hb; replace HO_897001 := kb HO_897001 hb; replace HO_903001 := kb HO_903001 hb; replace HO907 := kb HO907 hb; replace HO912 := kb HO912 hb; replace BK869 := bb BK869 hb; replace BK870 := bb BK870 hb; replace BK886 := bb BK886 hb; replace BK891 := bb BK891 hb; replace BK896 := bb BK896 hb; replace BK902 := bb BK902 hb; replace HB := Aside0.mk (below_step (beQ HB) hb)
        (try clear hb)
        (try clear hb2)
        (try clear hk)
        (try clear hi)
        refine hK.out _ _ ⟨bc BK896 0, bc BK896 1, bc BK870 0, bc BK870 1⟩ (fun hHeld => ?_)
        clear hK K
        refine norm_ (a' := ?_) ?_ ?_
        rotate_left
        ·show Act.put _ (some 62) _ = _
         simp only [Act.put, s1, s2, s3, i64_w, i32_w]
         rfl
        refine pure_ (i := 4) (N := some 63) (v := ?_) (a' := ?_) #[true, true, true, true, true] rfl rfl (by kernel_rfl) (fun _ _ _ h => h) (Or.inl ⟨by rfl, ?_⟩) ?_ ?_
        rotate_left
        ·intro w'
         go_simp
         with_reducible rfl
        rotate_left
        ·simp only [Act.put, s1, s2, s3, i64_w, i32_w]
         rfl
        refine done_ (by kernel_rfl) ?_
        try go_wp2
        go_ret
        exact ⟨rz, beQ HB⟩
      ·replace c102 := Bool.eq_false_iff.mpr c102
       subst c102
       have H1 : (some false) = some r := by rw [if_neg (show ¬ (false = true) by decide)] at H; exact H
       clear H; have H := H1; clear H1
       obtain rfl := Option.some.inj H
       try go_wp2
       replace HO_887001 := Aside0.mk (Kd.R_drew HO_887001.out); replace HO_892001 := Aside0.mk (Kd.R_drew HO_892001.out); replace HO_897001 := Aside0.mk (Kd.R_drew HO_897001.out); replace HO_903001 := Aside0.mk (Kd.R_drew HO_903001.out); replace BK869 := Aside0.mk (blk_drew BK869.out); replace BK870 := Aside0.mk (blk_drew BK870.out); replace BK886 := Aside0.mk (blk_drew BK886.out); replace BK891 := Aside0.mk (blk_drew BK891.out); replace BK896 := Aside0.mk (blk_drew BK896.out); replace BK902 := Aside0.mk (blk_drew BK902.out); replace HB := Aside0.mk (below_drew1 HB.out)
       refine start_ (n := 5) (S := fun w' => w'.cell? ⟨gb891, 0, none⟩ = some (.int .i64 t887) ∧ w'.cell? ⟨gb891, 1, none⟩ = some (.slice Ao52 t888.length co52) ∧ w'.cell? ⟨gb869, 0, none⟩ = some (.int .i64 a0_0) ∧ w'.cell? ⟨gb869, 1, none⟩ = some (.slice A0_1 l0_1.length c0_1)) (ds := []) #[false, false, false, false, false] (by kernel_rfl) rfl rfl ⟨bc BK891 0, bc BK891 1, bc BK869 0, bc BK869 1⟩ (fun hHeld => ?_)
       generalize wc.drew = w270 at HO_887001 HO_892001 HO_897001 HO_903001 BK869 BK870 BK886 BK891 BK896 BK902 HB hHeld ⊢
       refine take_ (i := 0) (N := some 54) (v := ?_) (a' := ?_) #[true, false, false, false, false] rfl rfl (by kernel_rfl) (fun _ _ _ h => h) (Or.inl ⟨by rfl, ?_⟩) hHeld ?_ ?_
       rotate_left
       ·rintro w' ⟨s0, s1, s2, s3⟩
        go_simp
        with_reducible rfl
       rotate_left
       ·simp only [Act.put, s1, s2, s3, i64_w, i32_w]
        rfl
       refine take_ (i := 1) (N := some 55) (v := ?_) (a' := ?_) #[true, true, false, false, false] rfl rfl (by kernel_rfl) (fun _ _ _ h => h) (Or.inl ⟨by rfl, ?_⟩) hHeld ?_ ?_
       rotate_left
       ·rintro w' ⟨s0, s1, s2, s3⟩
        go_simp
        with_reducible rfl
       rotate_left
       ·simp only [Act.put, s1, s2, s3, i64_w, i32_w]
        rfl
       refine one_ (i := 2) (N := some 56) #[true, true, true, false, false] rfl rfl (by kernel_rfl) (by decide) (fun K hK => ?_)
       refine goes_ Tryd.func37 (by kernel_rfl) rfl #[.agg #[.int .i64 a0_0, .slice A0_1 l0_1.length c0_1]] (by rfl) rfl rfl lz ?_
       with_reducible refine (laws_toAlphabet.calls kj24 a0_0 _ _ l0_1 t904 t905 _ ?side1 ?side2 A100.out).mono ?_
       (case side1 => have q_ := Aside0.mk (Kd.C_below HR0_1.out HB.out); exact cQ q_)
       (case side2 => exact HC0_1.out)
       rintro e w271 ⟨v906, rfl, ho0, hb⟩
       refine ⟨_, rfl, ?_⟩
       have HO907 := Aside0.mk (Kd.R_lower (Kd.R_new' (Kd.R_new' (Kd.R_new' (Kd.R_new' ho0 (Kd.R_lt (kdQ HO_887001))) (Kd.R_lt (kdQ HO_892001))) (Kd.R_lt (kdQ HO_897001))) (Kd.R_lt (kdQ HO_903001))) (below_size (beQ HB))); replace HO_887001 := Aside0.mk (Kd.R_elder' (kdQ HO_887001) (Kd.R_base ho0) hb); replace HO_892001 := Aside0.mk (Kd.R_elder' (kdQ HO_892001) (Kd.R_base ho0) hb); replace HO_897001 := Aside0.mk (Kd.R_elder' (kdQ HO_897001) (Kd.R_base ho0) hb); replace HO_903001 := Aside0.mk (Kd.R_elder' (kdQ HO_903001) (Kd.R_base ho0) hb); replace BK869 := bb BK869 hb; replace BK870 := bb BK870 hb; replace BK886 := bb BK886 hb; replace BK891 := bb BK891 hb; replace BK896 := bb BK896 hb; replace BK902 := bb BK902 hb; replace HB := Aside0.mk (below_step (beQ HB) hb)
       (try clear hb)
       (try clear hb2)
       (try clear hk)
       (try clear hi)
       (try clear ho0)
       obtain ⟨Ao272, co272, eo272⟩ := Kd.R_slice HO907.out
       (first | subst eo272 | (injection eo272 with f1_ f2_ f3_; have f4_ := f1_.symm; have f5_ := f3_.symm; clear f1_ f2_ f3_; subst f4_; subst f5_))
       refine hK.out _ _ ⟨bc BK891 0, bc BK891 1, bc BK869 0, bc BK869 1⟩ (fun hHeld => ?_)
       clear hK K
       refine norm_ (a' := ?_) ?_ ?_
       rotate_left
       ·show Act.put _ (some 56) _ = _
        simp only [Act.put, s1, s2, s3, i64_w, i32_w]
        rfl
       refine one_ (i := 3) (N := some 57) #[true, true, true, true, false] rfl rfl (by kernel_rfl) (by decide) (fun K hK => ?_)
       refine goes_ Tryd.func26 (by kernel_rfl) rfl #[.agg #[.int .i64 t887, .slice Ao52 t888.length co52], .agg #[.int .i64 t904, .slice Ao272 t905.length co272]] (by rfl) rfl rfl lz ?_
       with_reducible refine (laws_eqAlphabet.calls kj24 t887 _ _ t888 t904 _ _ t905 false _ ?side1 ?side2 ?side3 ?side4 A101.out).mono ?_
       (case side1 => have q_ := Aside0.mk (Kd.R_reads' HO_892001.out).2.2; exact cQ q_)
       (case side2 => exact (Kd.R_reads' HO_892001.out).2.1)
       (case side3 => have q_ := Aside0.mk (Kd.R_reads' HO907.out).2.2; exact cQ q_)
       (case side4 => exact (Kd.R_reads' HO907.out).2.1)
       rintro e w273 ⟨rfl, hb⟩
       refine ⟨_, rfl, ?_⟩
       replace HO_887001 := kb HO_887001 hb; replace HO_892001 := kb HO_892001 hb; replace HO_897001 := kb HO_897001 hb; replace HO_903001 := kb HO_903001 hb; replace HO907 := kb HO907 hb; replace BK869 := bb BK869 hb; replace BK870 := bb BK870 hb; replace BK886 := bb BK886 hb; replace BK891 := bb BK891 hb; replace BK896 := bb BK896 hb; replace BK902 := bb BK902 hb; replace HB := Aside0.mk (below_step (beQ HB) hb)
       (try clear hb)
       (try clear hb2)
       (try clear hk)
       (try clear hi)
       refine hK.out _ _ ⟨bc BK891 0, bc BK891 1, bc BK869 0, bc BK869 1⟩ (fun hHeld => ?_)
       clear hK K
       refine norm_ (a' := ?_) ?_ ?_
       rotate_left
       ·show Act.put _ (some 57) _ = _
        simp only [Act.put, s1, s2, s3, i64_w, i32_w]
        rfl
       refine pure_ (i := 4) (N := some 58) (v := ?_) (a' := ?_) #[true, true, true, true, true] rfl rfl (by kernel_rfl) (fun _ _ _ h => h) (Or.inl ⟨by rfl, ?_⟩) ?_ ?_
       rotate_left
       ·intro w'
        go_simp
        with_reducible rfl
       rotate_left
       ·simp only [Act.put, s1, s2, s3, i64_w, i32_w]
        rfl
       refine done_ (by kernel_rfl) ?_
       try go_wp2
       go_ret
       exact ⟨rz, beQ HB⟩

end Go.Proofs.YtdbdlhjhacbjoaaDoor.G
